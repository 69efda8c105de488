/- Printed by a program of this session (wip/tool/px.py), over the kit's print: for each Go function a Lean function, and the proof that the machine's call answers as that function says. Conditions: none beside what the theorems state. -/
import Derived.Test.YtepmnfjcmppghaaPx0
import Derived.Test.YtepmnfjcmppghaaPx22
import Derived.Test.YtepmnfjcmppghaaPx23
import Derived.Test.YtepmnfjcmppghaaPx24
import Derived.Test.YtepmnfjcmppghaaSpec
namespace Go.Proofs.Ytepmnfjcmppghaa.Px
open Go.RowKit Go.Proofs.YtepmnfjcmppghaaW.PrintWords Go.Proofs.YtepmnfjcmppghaaW.PrintLast Go.Proofs.YtepmnfjcmppghaaW.PrintMore
attribute [local go_sem] max2_int min2_int max_two min_two max_three min_three max_four min_four   -- for this text's walks alone
set_option linter.unusedVariables false
set_option linter.unusedSimpArgs false

/-! ### sawtoothlaw15_awake: function 13 -/
noncomputable def sawtoothlaw15_awake.f  : Option (Bool) := (cut_LossS.f 655360 786432).bind fun bt251 => ((cut_LossS.f 655360 589824).bind fun bt253 => ((cut_TimeoutS.f 655360 786432).bind fun bt255 => (if bt251.1 = 458752 then (if bt251.2 = 557056 then (if bt253.1 = 458752 then (if bt253.2 = 655360 then (if bt255.1 = 131072 then (if bt255.2.1 = 458752 then (if bt255.2.2 = 557056 then ((cut_LeastS.f 0).bind fun t258 => (if t258 = 131072 then ((cut_LeastS.f 4611686018427387904).bind fun t259 => (if t259 = 48103633715 then ((cut_LeastS.f 131072).bind fun t260 => (if t260 = 131072 then ((cut_Many.f 6553600 2).bind fun t261 => (if t261 = 3211264 then ((cut_Many.f 68719476736 4611686018427387904).bind fun t262 => (if t262 = 131072 then ((cut_Many.f 5 (-3)).bind fun t263 => (some (t263 == 131072))) else (none))) else (none))) else (none))) else (none))) else (none))) else (none)) else (none)) else (none)) else (none)) else (none)) else (none)) else (none))))
set_option maxHeartbeats 8000000 in
set_option maxRecDepth 100000 in
theorem sawtoothlaw15_awake.calls  (r : Bool) (w : World) (h : sawtoothlaw15_awake.f  = some r) :
  Calls Try.prog 13 #[] w fun e w' => e = .returned (.bool r) ∧ Below w.heap.size w w' := by
 have HB := Aside0.mk (Below.refl w.heap.size w)
 have H : ((cut_LossS.f 655360 786432).bind fun bt251 => ((cut_LossS.f 655360 589824).bind fun bt253 => ((cut_TimeoutS.f 655360 786432).bind fun bt255 => (if bt251.1 = 458752 then (if bt251.2 = 557056 then (if bt253.1 = 458752 then (if bt253.2 = 655360 then (if bt255.1 = 131072 then (if bt255.2.1 = 458752 then (if bt255.2.2 = 557056 then ((cut_LeastS.f 0).bind fun t258 => (if t258 = 131072 then ((cut_LeastS.f 4611686018427387904).bind fun t259 => (if t259 = 48103633715 then ((cut_LeastS.f 131072).bind fun t260 => (if t260 = 131072 then ((cut_Many.f 6553600 2).bind fun t261 => (if t261 = 3211264 then ((cut_Many.f 68719476736 4611686018427387904).bind fun t262 => (if t262 = 131072 then ((cut_Many.f 5 (-3)).bind fun t263 => (some (t263 == 131072))) else (none))) else (none))) else (none))) else (none))) else (none))) else (none)) else (none)) else (none)) else (none)) else (none)) else (none)) else (none))))) = some r := h
 clear h
 replace H := Option.bind_eq_some_iff.mp H
 obtain ⟨⟨t251, t252⟩, A10, H⟩ := H
 try dsimp only at H
 have A1 := Aside0.mk A10
 clear A10
 replace H := Option.bind_eq_some_iff.mp H
 obtain ⟨⟨t253, t254⟩, A20, H⟩ := H
 try dsimp only at H
 have A2 := Aside0.mk A20
 clear A20
 replace H := Option.bind_eq_some_iff.mp H
 obtain ⟨⟨t255, t256, t257⟩, A30, H⟩ := H
 try dsimp only at H
 have A3 := Aside0.mk A30
 clear A30
 by_cases c4 : t251 = 458752
 ·rw [if_pos c4] at H
  have c4b0 : (t251 == 458752) = true := beq_iff_eq.mpr c4
  have c4b1 : (t251 != 458752) = false := bne_eq_false_iff_eq.mpr c4
  clear c4
  by_cases c5 : t252 = 557056
  ·rw [if_pos c5] at H
   have c5b0 : (t252 == 557056) = true := beq_iff_eq.mpr c5
   have c5b1 : (t252 != 557056) = false := bne_eq_false_iff_eq.mpr c5
   clear c5
   by_cases c6 : t253 = 458752
   ·rw [if_pos c6] at H
    have c6b0 : (t253 == 458752) = true := beq_iff_eq.mpr c6
    have c6b1 : (t253 != 458752) = false := bne_eq_false_iff_eq.mpr c6
    clear c6
    by_cases c7 : t254 = 655360
    ·rw [if_pos c7] at H
     have c7b0 : (t254 == 655360) = true := beq_iff_eq.mpr c7
     have c7b1 : (t254 != 655360) = false := bne_eq_false_iff_eq.mpr c7
     clear c7
     by_cases c8 : t255 = 131072
     ·rw [if_pos c8] at H
      have c8b0 : (t255 == 131072) = true := beq_iff_eq.mpr c8
      have c8b1 : (t255 != 131072) = false := bne_eq_false_iff_eq.mpr c8
      clear c8
      by_cases c9 : t256 = 458752
      ·rw [if_pos c9] at H
       have c9b0 : (t256 == 458752) = true := beq_iff_eq.mpr c9
       have c9b1 : (t256 != 458752) = false := bne_eq_false_iff_eq.mpr c9
       clear c9
       by_cases c10 : t257 = 557056
       ·rw [if_pos c10] at H
        have c10b0 : (t257 == 557056) = true := beq_iff_eq.mpr c10
        have c10b1 : (t257 != 557056) = false := bne_eq_false_iff_eq.mpr c10
        clear c10
        replace H := Option.bind_eq_some_iff.mp H
        obtain ⟨t258, A110, H⟩ := H
        try dsimp only at H
        have A11 := Aside0.mk A110
        clear A110
        by_cases c12 : t258 = 131072
        ·rw [if_pos c12] at H
         have c12b0 : (t258 == 131072) = true := beq_iff_eq.mpr c12
         have c12b1 : (t258 != 131072) = false := bne_eq_false_iff_eq.mpr c12
         clear c12
         replace H := Option.bind_eq_some_iff.mp H
         obtain ⟨t259, A130, H⟩ := H
         try dsimp only at H
         have A13 := Aside0.mk A130
         clear A130
         by_cases c14 : t259 = 48103633715
         ·rw [if_pos c14] at H
          have c14b0 : (t259 == 48103633715) = true := beq_iff_eq.mpr c14
          have c14b1 : (t259 != 48103633715) = false := bne_eq_false_iff_eq.mpr c14
          clear c14
          replace H := Option.bind_eq_some_iff.mp H
          obtain ⟨t260, A150, H⟩ := H
          try dsimp only at H
          have A15 := Aside0.mk A150
          clear A150
          by_cases c16 : t260 = 131072
          ·rw [if_pos c16] at H
           have c16b0 : (t260 == 131072) = true := beq_iff_eq.mpr c16
           have c16b1 : (t260 != 131072) = false := bne_eq_false_iff_eq.mpr c16
           clear c16
           replace H := Option.bind_eq_some_iff.mp H
           obtain ⟨t261, A170, H⟩ := H
           try dsimp only at H
           have A17 := Aside0.mk A170
           clear A170
           by_cases c18 : t261 = 3211264
           ·rw [if_pos c18] at H
            have c18b0 : (t261 == 3211264) = true := beq_iff_eq.mpr c18
            have c18b1 : (t261 != 3211264) = false := bne_eq_false_iff_eq.mpr c18
            clear c18
            replace H := Option.bind_eq_some_iff.mp H
            obtain ⟨t262, A190, H⟩ := H
            replace H : (if t262 = 131072 then ((cut_Many.f 5 (-3)).bind fun t263 => (some (t263 == 131072))) else (none)) = some r := H
            have A19 := Aside0.mk A190
            clear A190
            by_cases c20 : t262 = 131072
            ·rw [if_pos c20] at H
             have c20b0 : (t262 == 131072) = true := beq_iff_eq.mpr c20
             have c20b1 : (t262 != 131072) = false := bne_eq_false_iff_eq.mpr c20
             clear c20
             replace H := Option.bind_eq_some_iff.mp H
             obtain ⟨t263, A210, H⟩ := H
             replace H : (some (t263 == 131072)) = some r := H
             have A21 := Aside0.mk A210
             clear A210
             obtain rfl := Option.some.inj H
             go_enter Try.func13, Try.ntmps13
             go_wp2_with (first | ((with_reducible refine gate_callee (f := 14) rfl ?_); refine goesL_ (some 9) rfl rfl Try.func14 (by kernel_rfl) rfl #[.int .i64 655360, .int .i64 786432] rfl (by (try simp only [List.map_toArray, List.map_cons, List.map_nil]); first | done | rfl | (simp only [List.length_drop, List.length_take]; rfl)) ?_; (with_reducible refine (cut_LossS.calls 655360 786432 t251 t252 _ A1.out).mono ?_); rintro e w22 ⟨rfl, hb⟩; refine ⟨_, rfl, ?_⟩; replace HB := Aside0.mk (below_step (by repeat (first | (with_reducible first | exact HB.out | apply below_alloc | apply pw_below_drewN | apply below_drew1) | exact HB.out)) hb); (try clear hb); (try clear hb2); (try clear hk); (try clear hi)) | ((with_reducible refine gate_callee (f := 14) rfl ?_); refine goesL_ (some 13) rfl rfl Try.func14 (by kernel_rfl) rfl #[.int .i64 655360, .int .i64 589824] rfl (by (try simp only [List.map_toArray, List.map_cons, List.map_nil]); first | done | rfl | (simp only [List.length_drop, List.length_take]; rfl)) ?_; (with_reducible refine (cut_LossS.calls 655360 589824 t253 t254 _ A2.out).mono ?_); rintro e w23 ⟨rfl, hb⟩; refine ⟨_, rfl, ?_⟩; replace HB := Aside0.mk (below_step (by repeat (first | (with_reducible first | exact HB.out | apply below_alloc | apply pw_below_drewN | apply below_drew1) | exact HB.out)) hb); (try clear hb); (try clear hb2); (try clear hk); (try clear hi)) | ((with_reducible refine gate_callee (f := 16) rfl ?_); refine goesL_ (some 17) rfl rfl Try.func16 (by kernel_rfl) rfl #[.int .i64 655360, .int .i64 786432] rfl (by (try simp only [List.map_toArray, List.map_cons, List.map_nil]); first | done | rfl | (simp only [List.length_drop, List.length_take]; rfl)) ?_; (with_reducible refine (cut_TimeoutS.calls 655360 786432 t255 t256 t257 _ A3.out).mono ?_); rintro e w24 ⟨rfl, hb⟩; refine ⟨_, rfl, ?_⟩; replace HB := Aside0.mk (below_step (by repeat (first | (with_reducible first | exact HB.out | apply below_alloc | apply pw_below_drewN | apply below_drew1) | exact HB.out)) hb); (try clear hb); (try clear hb2); (try clear hk); (try clear hi)) | (go_at_call 17; (with_reducible refine (cut_LeastS.calls 0 t258 _ A11.out).mono ?_); rintro e w25 ⟨rfl, hb⟩; replace HB := Aside0.mk (below_step (by repeat (first | (with_reducible first | exact HB.out | apply below_alloc | apply pw_below_drewN | apply below_drew1) | exact HB.out)) hb); (try clear hb); (try clear hb2); (try clear hk); (try clear hi)) | (go_at_call 17; (with_reducible refine (cut_LeastS.calls 4611686018427387904 t259 _ A13.out).mono ?_); rintro e w26 ⟨rfl, hb⟩; replace HB := Aside0.mk (below_step (by repeat (first | (with_reducible first | exact HB.out | apply below_alloc | apply pw_below_drewN | apply below_drew1) | exact HB.out)) hb); (try clear hb); (try clear hb2); (try clear hk); (try clear hi)) | (go_at_call 17; (with_reducible refine (cut_LeastS.calls 131072 t260 _ A15.out).mono ?_); rintro e w27 ⟨rfl, hb⟩; replace HB := Aside0.mk (below_step (by repeat (first | (with_reducible first | exact HB.out | apply below_alloc | apply pw_below_drewN | apply below_drew1) | exact HB.out)) hb); (try clear hb); (try clear hb2); (try clear hk); (try clear hi)) | (go_at_call 19; (with_reducible refine (cut_Many.calls 6553600 2 t261 _ A17.out).mono ?_); rintro e w28 ⟨rfl, hb⟩; replace HB := Aside0.mk (below_step (by repeat (first | (with_reducible first | exact HB.out | apply below_alloc | apply pw_below_drewN | apply below_drew1) | exact HB.out)) hb); (try clear hb); (try clear hb2); (try clear hk); (try clear hi)) | (go_at_call 19; (with_reducible refine (cut_Many.calls 68719476736 4611686018427387904 t262 _ A19.out).mono ?_); rintro e w29 ⟨rfl, hb⟩; replace HB := Aside0.mk (below_step (by repeat (first | (with_reducible first | exact HB.out | apply below_alloc | apply pw_below_drewN | apply below_drew1) | exact HB.out)) hb); (try clear hb); (try clear hb2); (try clear hk); (try clear hi)) | (go_at_call 19; (with_reducible refine (cut_Many.calls 5 (-3) t263 _ A21.out).mono ?_); rintro e w30 ⟨rfl, hb⟩; replace HB := Aside0.mk (below_step (by repeat (first | (with_reducible first | exact HB.out | apply below_alloc | apply pw_below_drewN | apply below_drew1) | exact HB.out)) hb); (try clear hb); (try clear hb2); (try clear hk); (try clear hi)))
             go_ret
             exact ⟨by first | rfl | (simp [errW_none, errW_some] <;> rfl) | (simp [*, errW_none, errW_some] <;> rfl), by repeat (first | (with_reducible first | exact HB.out | apply below_alloc | apply pw_below_drewN | apply below_drew1) | exact HB.out)⟩
            ·rw [if_neg c20] at H
             exact absurd H (by simp)
           ·rw [if_neg c18] at H
            exact absurd H (by simp)
          ·rw [if_neg c16] at H
           exact absurd H (by simp)
         ·rw [if_neg c14] at H
          exact absurd H (by simp)
        ·rw [if_neg c12] at H
         exact absurd H (by simp)
       ·rw [if_neg c10] at H
        exact absurd H (by simp)
      ·rw [if_neg c9] at H
       exact absurd H (by simp)
     ·rw [if_neg c8] at H
      exact absurd H (by simp)
    ·rw [if_neg c7] at H
     exact absurd H (by simp)
   ·rw [if_neg c6] at H
    exact absurd H (by simp)
  ·rw [if_neg c5] at H
   exact absurd H (by simp)
 ·rw [if_neg c4] at H
  exact absurd H (by simp)

/-! ### sawtoothlaw15_awakeS: pure, behind function 13 -/
noncomputable def sawtoothlaw15_awakeS.f : Option Bool := some true
section
open Go.Proofs.Ytepmnfjcmppghaa.Sp
theorem sawtoothlaw15_awake.main : sawtoothlaw15_awake.f = some true := by
 have f1 : cut_LossS.f 655360 786432 = some (458752, 557056) := by rw [cut_LossS.eq (by omega) (by omega)]; simp [win, leastW, fastQ, clamp]
 have f2 : cut_LossS.f 655360 589824 = some (458752, 655360) := by rw [cut_LossS.eq (by omega) (by omega)]; simp [win, leastW, fastQ, clamp]
 have f3 : cut_TimeoutS.f 655360 786432 = some (131072, 458752, 557056) := by rw [cut_TimeoutS.eq (by omega) (by omega)]; simp [win, leastW, fastQ, clamp]
 have f4 : cut_LeastS.f 0 = some 131072 := by rw [cut_LeastS.eq (by omega)]; simp [win, leastW, clamp]
 have f5 : cut_LeastS.f 4611686018427387904 = some 48103633715 := by rw [cut_LeastS.eq (by omega)]; simp [win, leastW, clamp]
 have f6 : cut_LeastS.f 131072 = some 131072 := by rw [cut_LeastS.eq (by omega)]; simp [win, leastW, clamp]
 have f7 : cut_Many.f 6553600 2 = some 3211264 := by rw [cut_Many.eq (by omega) (by omega)]; simp [win, clamp, manyW, leastW]
 have f8 : cut_Many.f 68719476736 4611686018427387904 = some 131072 := by rw [cut_Many.eq (by omega) (by omega), show (clamp 4611686018427387904 0 64).toNat = 64 by simp [clamp], manyW_end (win_bd _).1 (win_bd _).2 (by omega)]
 have f9 : cut_Many.f 5 (-3) = some 131072 := by rw [cut_Many.eq (by omega) (by omega)]; simp [win, clamp, manyW, leastW]
 unfold sawtoothlaw15_awake.f
 simp only [f1, f2, f3, f4, f5, f6, f7, f8, f9, Option.bind_some, if_true, eq_self, beq_self_eq_true]
end
theorem sawtoothlaw15_awakeS.calls (r : Bool) (w : World) (h : sawtoothlaw15_awakeS.f = some r) :
  Calls Try.prog 13 #[] w fun e w' => e = .returned (.bool r) ∧ Below w.heap.size w w' :=
 sawtoothlaw15_awake.calls r w (by rw [sawtoothlaw15_awake.main]; exact h)

end Go.Proofs.Ytepmnfjcmppghaa.Px
