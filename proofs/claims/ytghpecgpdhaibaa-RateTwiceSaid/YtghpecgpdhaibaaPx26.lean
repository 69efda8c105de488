/- Printed by a program of this session (wip/tool/px.py), over the kit's print: for each Go function a Lean function, and the proof that the machine's call answers as that function says. Conditions: none beside what the theorems state. -/
import Derived.Test.YtghpecgpdhaibaaPx0
import Derived.Test.YtghpecgpdhaibaaPx4
import Derived.Test.YtghpecgpdhaibaaPx25
import Derived.Test.YtghpecgpdhaibaaSpec
namespace Go.Proofs.Ytghpecgpdhaibaa.Px
open Go.RowKit Go.Proofs.YtghpecgpdhaibaaW.PrintWords Go.Proofs.YtghpecgpdhaibaaW.PrintLast Go.Proofs.YtghpecgpdhaibaaW.PrintMore
attribute [local go_sem] max2_int min2_int max_two min_two max_three min_three max_four min_four   -- for this text's walks alone
set_option linter.unusedVariables false
set_option linter.unusedSimpArgs false

/-! ### sawtoothlaw17_awake: function 15 -/
noncomputable def sawtoothlaw17_awake.f  : Option (Bool) := (rate_Gain.f true).bind fun bt278 => ((rate_Gain.f false).bind fun bt280 => (if bt278.1 = 2 then (if bt278.2 = 1 then (if bt280.1 = 5 then (if bt280.2 = 4 then ((rate_First.f).bind fun t283 => (if t283 = 100000 then ((rate_OfS.f 655360 1500 false 0 0 true).bind fun t284 => (if t284 = 300000 then ((rate_OfS.f 655360 1500 true 400000 0 false).bind fun t285 => (if t285 = 375000 then ((rate_OfS.f 0 1500 true 400000 0 true).bind fun t286 => (if t286 = 1 then ((rate_OfS.f 655360 1500 true 0 0 true).bind fun t287 => (if t287 = 300000 then ((rate_SpanS.f 1500 300000).bind fun t288 => (if t288 = 5000 then ((rate_SpanS.f 1 3).bind fun t289 => (if t289 = 333334 then ((rate_SpanS.f (-5) 0).bind fun t290 => (if t290 = 0 then ((rate_SpanS.f 4611686018427387904 1).bind fun t291 => (some (t291 == 1099511627776))) else (none))) else (none))) else (none))) else (none))) else (none))) else (none))) else (none))) else (none))) else (none)) else (none)) else (none)) else (none)))
set_option maxHeartbeats 8000000 in
set_option maxRecDepth 100000 in
theorem sawtoothlaw17_awake.calls  (r : Bool) (w : World) (h : sawtoothlaw17_awake.f  = some r) :
  Calls Try.prog 15 #[] w fun e w' => e = .returned (.bool r) ∧ Below w.heap.size w w' := by
 have hu23 := Try.underlying23; have HB := Aside0.mk (Below.refl w.heap.size w); have H : ((rate_Gain.f true).bind fun bt278 => ((rate_Gain.f false).bind fun bt280 => (if bt278.1 = 2 then (if bt278.2 = 1 then (if bt280.1 = 5 then (if bt280.2 = 4 then ((rate_First.f).bind fun t283 => (if t283 = 100000 then ((rate_OfS.f 655360 1500 false 0 0 true).bind fun t284 => (if t284 = 300000 then ((rate_OfS.f 655360 1500 true 400000 0 false).bind fun t285 => (if t285 = 375000 then ((rate_OfS.f 0 1500 true 400000 0 true).bind fun t286 => (if t286 = 1 then ((rate_OfS.f 655360 1500 true 0 0 true).bind fun t287 => (if t287 = 300000 then ((rate_SpanS.f 1500 300000).bind fun t288 => (if t288 = 5000 then ((rate_SpanS.f 1 3).bind fun t289 => (if t289 = 333334 then ((rate_SpanS.f (-5) 0).bind fun t290 => (if t290 = 0 then ((rate_SpanS.f 4611686018427387904 1).bind fun t291 => (some (t291 == 1099511627776))) else (none))) else (none))) else (none))) else (none))) else (none))) else (none))) else (none))) else (none))) else (none)) else (none)) else (none)) else (none)))) = some r := h; clear h; replace H := Option.bind_eq_some_iff.mp H; obtain ⟨⟨t278, t279⟩, A10, H⟩ := H; (try dsimp only at H); have A1 := Aside0.mk A10; clear A10; replace H := Option.bind_eq_some_iff.mp H; obtain ⟨⟨t280, t281⟩, A20, H⟩ := H; (try dsimp only at H); have A2 := Aside0.mk A20; clear A20
 by_cases c3 : t278 = 2
 ·rw [if_pos c3] at H
  have c3b0 : (t278 == 2) = true := beq_iff_eq.mpr c3; have c3b1 : (t278 != 2) = false := bne_eq_false_iff_eq.mpr c3; clear c3
  by_cases c4 : t279 = 1
  ·rw [if_pos c4] at H
   have c4b0 : (t279 == 1) = true := beq_iff_eq.mpr c4; have c4b1 : (t279 != 1) = false := bne_eq_false_iff_eq.mpr c4; clear c4
   by_cases c5 : t280 = 5
   ·rw [if_pos c5] at H
    have c5b0 : (t280 == 5) = true := beq_iff_eq.mpr c5; have c5b1 : (t280 != 5) = false := bne_eq_false_iff_eq.mpr c5; clear c5
    by_cases c6 : t281 = 4
    ·rw [if_pos c6] at H
     have c6b0 : (t281 == 4) = true := beq_iff_eq.mpr c6; have c6b1 : (t281 != 4) = false := bne_eq_false_iff_eq.mpr c6; clear c6; replace H := Option.bind_eq_some_iff.mp H; obtain ⟨t283, A70, H⟩ := H; (try dsimp only at H); have A7 := Aside0.mk A70; clear A70
     by_cases c8 : t283 = 100000
     ·rw [if_pos c8] at H
      have c8b0 : (t283 == 100000) = true := beq_iff_eq.mpr c8; have c8b1 : (t283 != 100000) = false := bne_eq_false_iff_eq.mpr c8; clear c8; replace H := Option.bind_eq_some_iff.mp H; obtain ⟨t284, A90, H⟩ := H; (try dsimp only at H); have A9 := Aside0.mk A90; clear A90
      by_cases c10 : t284 = 300000
      ·rw [if_pos c10] at H
       have c10b0 : (t284 == 300000) = true := beq_iff_eq.mpr c10; have c10b1 : (t284 != 300000) = false := bne_eq_false_iff_eq.mpr c10; clear c10; replace H := Option.bind_eq_some_iff.mp H; obtain ⟨t285, A110, H⟩ := H; (try dsimp only at H); have A11 := Aside0.mk A110; clear A110
       by_cases c12 : t285 = 375000
       ·rw [if_pos c12] at H
        have c12b0 : (t285 == 375000) = true := beq_iff_eq.mpr c12; have c12b1 : (t285 != 375000) = false := bne_eq_false_iff_eq.mpr c12; clear c12; replace H := Option.bind_eq_some_iff.mp H; obtain ⟨t286, A130, H⟩ := H; (try dsimp only at H); have A13 := Aside0.mk A130; clear A130
        by_cases c14 : t286 = 1
        ·rw [if_pos c14] at H
         have c14b0 : (t286 == 1) = true := beq_iff_eq.mpr c14; have c14b1 : (t286 != 1) = false := bne_eq_false_iff_eq.mpr c14; clear c14; replace H := Option.bind_eq_some_iff.mp H; obtain ⟨t287, A150, H⟩ := H; (try dsimp only at H); have A15 := Aside0.mk A150; clear A150
         by_cases c16 : t287 = 300000
         ·rw [if_pos c16] at H
          have c16b0 : (t287 == 300000) = true := beq_iff_eq.mpr c16; have c16b1 : (t287 != 300000) = false := bne_eq_false_iff_eq.mpr c16; clear c16; replace H := Option.bind_eq_some_iff.mp H; obtain ⟨t288, A170, H⟩ := H; (try dsimp only at H); have A17 := Aside0.mk A170; clear A170
          by_cases c18 : t288 = 5000
          ·rw [if_pos c18] at H
           have c18b0 : (t288 == 5000) = true := beq_iff_eq.mpr c18; have c18b1 : (t288 != 5000) = false := bne_eq_false_iff_eq.mpr c18; clear c18; replace H := Option.bind_eq_some_iff.mp H; obtain ⟨t289, A190, H⟩ := H; (try dsimp only at H); have A19 := Aside0.mk A190; clear A190
           by_cases c20 : t289 = 333334
           ·rw [if_pos c20] at H
            have c20b0 : (t289 == 333334) = true := beq_iff_eq.mpr c20; have c20b1 : (t289 != 333334) = false := bne_eq_false_iff_eq.mpr c20; clear c20; replace H := Option.bind_eq_some_iff.mp H; obtain ⟨t290, A210, H⟩ := H; replace H : (if t290 = 0 then ((rate_SpanS.f 4611686018427387904 1).bind fun t291 => (some (t291 == 1099511627776))) else (none)) = some r := H; have A21 := Aside0.mk A210; clear A210
            by_cases c22 : t290 = 0
            ·rw [if_pos c22] at H
             have c22b0 : (t290 == 0) = true := beq_iff_eq.mpr c22; have c22b1 : (t290 != 0) = false := bne_eq_false_iff_eq.mpr c22; clear c22; replace H := Option.bind_eq_some_iff.mp H; obtain ⟨t291, A230, H⟩ := H; replace H : (some (t291 == 1099511627776)) = some r := H; have A23 := Aside0.mk A230; clear A230; obtain rfl := Option.some.inj H
             go_enter Try.func15, Try.ntmps15
             go_wp2_with (first | ((with_reducible refine gate_callee (f := 16) rfl ?_); refine goesLA_ (some 7) rfl rfl Try.func16 rfl #[.bool true] rfl ?_; (with_reducible refine (rate_Gain.calls true t278 t279 _ A1.out).mono ?_); rintro e w' ⟨rfl, ⟨nd, rfl⟩⟩; refine ⟨_, rfl, ?_⟩) | ((with_reducible refine gate_callee (f := 16) rfl ?_); refine goesLA_ (some 11) rfl rfl Try.func16 rfl #[.bool false] rfl ?_; (with_reducible refine (rate_Gain.calls false t280 t281 _ A2.out).mono ?_); rintro e w' ⟨rfl, ⟨nd, rfl⟩⟩; refine ⟨_, rfl, ?_⟩) | ((with_reducible refine gate_dst (N := 5) rfl ?_); refine box_event ?hg (N := 5) ?hd (cs := #[.bool false, .int .i64 0, .int .i64 0]) (t := 23) ?hr ?_; (case hd => rfl); (case hg => rfl); (case hr => first | (go_simp; done) | (go_simp; rfl)); intro gb282 hg w24 hbox hb; have BK282 := Aside0.mk (hbox); obtain ⟨GW282, nHB⟩ := geA hg hb; have GE282 := GW282; replace HB := nHB; clear nHB; clear hb hbox hg; have hcz25_0 := czZ BK282 0 (.bool false); have hcz25_1 := czZ BK282 1 (.int .i64 0); have hcz25_2 := czZ BK282 2 (.int .i64 0); have hfz25_0 := blk_frozen BK282.out 0; have hfz25_1 := blk_frozen BK282.out 1; have hfz25_2 := blk_frozen BK282.out 2) | (go_at_call 17; (with_reducible refine (rate_First.calls  t283 _ A7.out).mono ?_); rintro e w' ⟨rfl, ⟨nd, rfl⟩⟩) | (go_at_call 18; (with_reducible refine (rate_OfS.calls 655360 1500 false 0 0 true t284 _ A9.out).mono ?_); rintro e w26 ⟨rfl, hb⟩; replace BK282 := Aside0.mk (blk_below (g := gb282) (o := .cells #[.bool true, .int .i64 400000, .int .i64 0] 23 (0, 0)) (by (with_reducible repeat first | apply blk_drewN | apply blk_drew | apply blk_alloc); refine blk_put (cs := #[.bool true, .int .i64 400000, .int .i64 0]) ?_ 2 _ rfl; (with_reducible repeat first | apply blk_drewN | apply blk_drew | apply blk_alloc); refine blk_put (cs := #[.bool true, .int .i64 0, .int .i64 0]) ?_ 1 _ rfl; (with_reducible repeat first | apply blk_drewN | apply blk_drew | apply blk_alloc); refine blk_put (cs := #[.bool false, .int .i64 0, .int .i64 0]) ?_ 0 _ rfl; (with_reducible repeat first | apply blk_drewN | apply blk_drew | apply blk_alloc); exact BK282.out) hb); replace HB := stA hb; clear hb; have hcz27_0 := czZ BK282 0 (.bool true); have hcz27_1 := czZ BK282 1 (.int .i64 400000); have hcz27_2 := czZ BK282 2 (.int .i64 0); have hfz27_0 := blk_frozen BK282.out 0; have hfz27_1 := blk_frozen BK282.out 1; have hfz27_2 := blk_frozen BK282.out 2) | (go_at_call 18; (with_reducible refine (rate_OfS.calls 655360 1500 true 400000 0 false t285 _ A11.out).mono ?_); rintro e w28 ⟨rfl, hb⟩; replace BK282 := bdZ BK282 hb; replace HB := stA hb; clear hb; have hcz29_0 := czZ BK282 0 (.bool true); have hcz29_1 := czZ BK282 1 (.int .i64 400000); have hcz29_2 := czZ BK282 2 (.int .i64 0); have hfz29_0 := blk_frozen BK282.out 0; have hfz29_1 := blk_frozen BK282.out 1; have hfz29_2 := blk_frozen BK282.out 2) | (go_at_call 18; (with_reducible refine (rate_OfS.calls 0 1500 true 400000 0 true t286 _ A13.out).mono ?_); rintro e w30 ⟨rfl, hb⟩; replace BK282 := bdZ BK282 hb; replace HB := stA hb; clear hb) | (go_at_call 18; (with_reducible refine (rate_OfS.calls 655360 1500 true 0 0 true t287 _ A15.out).mono ?_); rintro e w31 ⟨rfl, hb⟩; replace BK282 := bdZ BK282 hb; replace HB := stA hb; clear hb) | (go_at_call 20; (with_reducible refine (rate_SpanS.calls 1500 300000 t288 _ A17.out).mono ?_); rintro e w32 ⟨rfl, hb⟩; replace BK282 := bdZ BK282 hb; replace HB := stA hb; clear hb) | (go_at_call 20; (with_reducible refine (rate_SpanS.calls 1 3 t289 _ A19.out).mono ?_); rintro e w33 ⟨rfl, hb⟩; replace BK282 := bdZ BK282 hb; replace HB := stA hb; clear hb) | (go_at_call 20; (with_reducible refine (rate_SpanS.calls (-5) 0 t290 _ A21.out).mono ?_); rintro e w34 ⟨rfl, hb⟩; replace BK282 := bdZ BK282 hb; replace HB := stA hb; clear hb) | (go_at_call 20; (with_reducible refine (rate_SpanS.calls 4611686018427387904 1 t291 _ A23.out).mono ?_); rintro e w35 ⟨rfl, hb⟩; replace BK282 := bdZ BK282 hb; replace HB := stA hb; clear hb))
             go_ret
             exact ⟨by first | rfl | (simp [errW_none, errW_some] <;> rfl) | (simp [*, errW_none, errW_some] <;> rfl), by repeat (first | (with_reducible first | exact HB.out | apply below_alloc | apply pw_below_drewN | apply below_drew1 | refine below_set ?_ GE282.out) | exact HB.out)⟩
            ·rw [if_neg c22] at H
             exact absurd H (by simp)
           ·rw [if_neg c20] at H
            exact absurd H (by simp)
          ·rw [if_neg c18] at H
           exact absurd H (by simp)
         ·rw [if_neg c16] at H
          exact absurd H (by simp)
        ·rw [if_neg c14] at H
         exact absurd H (by simp)
       ·rw [if_neg c12] at H
        exact absurd H (by simp)
      ·rw [if_neg c10] at H
       exact absurd H (by simp)
     ·rw [if_neg c8] at H
      exact absurd H (by simp)
    ·rw [if_neg c6] at H
     exact absurd H (by simp)
   ·rw [if_neg c5] at H
    exact absurd H (by simp)
  ·rw [if_neg c4] at H
   exact absurd H (by simp)
 ·rw [if_neg c3] at H
  exact absurd H (by simp)

/-! ### sawtoothlaw17_awakeS: the answers that the document fixes: pure, behind function 15 -/
noncomputable def sawtoothlaw17_awakeS.f : Option Bool := some true
section
open Go.Proofs.Ytghpecgpdhaibaa.Sp
theorem sawtoothlaw17_awake.main : sawtoothlaw17_awake.f = some true := by
 unfold sawtoothlaw17_awake.f rate_Gain.f rate_First.f
 simp only [Bool.false_eq_true, if_false, if_true, Option.bind_some]
 rw [rate_OfS.eq (by omega) (by omega) (by omega) (by omega), rate_OfS.eq (by omega) (by omega) (by omega) (by omega), rate_OfS.eq (by omega) (by omega) (by omega) (by omega), rate_OfS.eq (by omega) (by omega) (by omega) (by omega), rate_SpanS.eq (by omega) (by omega), rate_SpanS.eq (by omega) (by omega), rate_SpanS.eq (by omega) (by omega), rate_SpanS.eq (by omega) (by omega)]
 simp [rateQ, max1, rateN, rateD, timeQ, clamp, spanQ, spanC]
end
theorem sawtoothlaw17_awakeS.calls (r : Bool) (w : World) (h : sawtoothlaw17_awakeS.f = some r) :
  Calls Try.prog 15 #[] w fun e w' => e = .returned (.bool r) ∧ Below w.heap.size w w' := by
 exact sawtoothlaw17_awake.calls r w (by rw [sawtoothlaw17_awake.main]; exact h)

end Go.Proofs.Ytghpecgpdhaibaa.Px
