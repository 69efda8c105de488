/- Printed by a program of this session (wip/tool/px.py), over the kit's print: for each Go function a Lean function, and the proof that the machine's call answers as that function says. Conditions: none beside what the theorems state. -/
import Derived.Test.YtghpecgpdhaibaaPx0
import Derived.Test.YtghpecgpdhaibaaPx3
import Derived.Test.YtghpecgpdhaibaaPx24
import Derived.Test.YtghpecgpdhaibaaPx25
import Derived.Test.YtghpecgpdhaibaaPx27
import Derived.Test.YtghpecgpdhaibaaPx31
import Derived.Test.YtghpecgpdhaibaaPx34
import Derived.Test.YtghpecgpdhaibaaSpec
namespace Go.Proofs.Ytghpecgpdhaibaa.Px
open Go.RowKit Go.Proofs.YtghpecgpdhaibaaW.PrintWords Go.Proofs.YtghpecgpdhaibaaW.PrintLast Go.Proofs.YtghpecgpdhaibaaW.PrintMore
attribute [local go_sem] max2_int min2_int max_two min_two max_three min_three max_four min_four   -- for this text's walks alone
set_option linter.unusedVariables false
set_option linter.unusedSimpArgs false

/-! ### sawtoothref02_CmpS: which is greater: pure, behind function 23 -/
noncomputable def sawtoothref02_CmpS.f (n : Bool) (h l : Int) (m : Bool) (i k : Int) : Option Int := Go.Proofs.Ytghpecgpdhaibaa.Sp.cmpF n h l m i k
section Ref02Cmp
open Go.Proofs.Ytghpecgpdhaibaa.Sp
theorem sawtoothref02_Cmp.main {n m : Bool} {h l i k : Int} (h1 : U h) (h2 : U l) (h3 : U i) (h4 : U k) : sawtoothref02_Cmp.f 1 n h l m i k = some (cmpI (val n h l) (val m i k)) := by
 unfold sawtoothref02_Cmp.f
 rw [sawtoothref02_digits.eq h1 h2, sawtoothref02_digits.eq h3 h4]
 simp only [Option.bind_some, sawtoothref02_belowS.eq h1 h2, sawtoothref02_belowS.eq h3 h4, sawtoothref02_less.eq h1 h2 h3 h4, sawtoothref02_less.eq h3 h4 h1 h2, sawtoothref02_Cmp.j0]
 have v1 : val n h l = h * 18446744073709551616 + l ∨ val n h l = -(h * 18446744073709551616 + l) := by unfold val; cases n <;> simp
 have v2 : val m i k = i * 18446744073709551616 + k ∨ val m i k = -(i * 18446744073709551616 + k) := by unfold val; cases m <;> simp
 have p1 : 0 ≤ h * 18446744073709551616 + l := by omega
 have p2 : 0 ≤ i * 18446744073709551616 + k := by omega
 generalize val n h l = v at *
 generalize val m i k = w at *
 generalize h * 18446744073709551616 + l = M at *
 generalize i * 18446744073709551616 + k = N at *
 unfold cmpI
 by_cases a : v < 0 <;> by_cases b : w < 0 <;> by_cases c : M < N <;> by_cases d : N < M <;> simp [a, b, c, d] <;> omega
end Ref02Cmp
theorem sawtoothref02_CmpS.calls (a0_0 : Bool) (a0_1 a0_2 : Int) (a1_0 : Bool) (a1_1 a1_2 r : Int) (w : World) (h : sawtoothref02_CmpS.f a0_0 a0_1 a0_2 a1_0 a1_1 a1_2 = some r) :
  Calls Try.prog 23 #[.agg #[.bool a0_0, .int .u64 a0_1, .int .u64 a0_2], .agg #[.bool a1_0, .int .u64 a1_1, .int .u64 a1_2]] w fun e w' => e = .returned (.int .i64 r) ∧ Below w.heap.size w w' := by
 obtain ⟨hc, h⟩ := Go.Proofs.Ytghpecgpdhaibaa.Sp.need_some h; obtain ⟨h1, h2, h3, h4⟩ := hc; exact sawtoothref02_Cmp.calls 1 a0_0 a0_1 a0_2 a1_0 a1_1 a1_2 r w (by rw [sawtoothref02_Cmp.main h1 h2 h3 h4]; exact h)

/-! ### sawtoothlaw14_GrowExact: function 12 -/
noncomputable def sawtoothlaw14_GrowExact.f (a0 : Int) (a1 : Int) (a2 : Int) : Option (Bool) := (sawtoothlaw14_awakeS.f).bind fun t429 => ((grow_Calm.f (wrap64 (131072 + (wrap64 (a0)))) (wrap64 ((wrap64 (131072 + (wrap64 (a0)))) + (wrap64 (a1)))) (mn (wrap64 (a2)) (wrap64 (131072 + (wrap64 (a0)))))).bind fun t430 => (if (wrap64 ((wrap64 (131072 + (wrap64 (a0)))) + (wrap64 (a1)))) > 68719476736 then (some t429) else ((sawtoothref02_MulS.f (wrap64 (t430 - (wrap64 (131072 + (wrap64 (a0)))))) (wrap64 (131072 + (wrap64 (a0))))).bind fun bt431 => ((sawtoothref02_MulS.f (wrap64 ((wrap64 (t430 - (wrap64 (131072 + (wrap64 (a0)))))) + 1)) (wrap64 (131072 + (wrap64 (a0))))).bind fun bt435 => ((sawtoothref02_MulS.f (mn (wrap64 (a2)) (wrap64 (131072 + (wrap64 (a0))))) (wrap64 (a1))).bind fun bt439 => (if t429 = true then ((sawtoothref02_CmpS.f bt431.1 bt431.2.1 bt431.2.2 bt439.1 bt439.2.1 bt439.2.2).bind fun t443 => (if t443 ≤ 0 then ((sawtoothref02_CmpS.f bt435.1 bt435.2.1 bt435.2.2 bt439.1 bt439.2.1 bt439.2.2).bind fun t444 => (some (decide (t444 > 0)))) else (none))) else (none)))))))
set_option maxHeartbeats 8000000 in
set_option maxRecDepth 100000 in
theorem sawtoothlaw14_GrowExact.calls (a0 : Int) (a1 : Int) (a2 : Int) (r : Bool) (w : World) (h : sawtoothlaw14_GrowExact.f a0 a1 a2 = some r) :
  Calls Try.prog 12 #[.int .u32 a0, .int .u32 a1, .int .u32 a2] w fun e w' => e = .returned (.bool r) ∧ Below w.heap.size w w' := by
 have hu35 := Try.underlying35; have HB := Aside0.mk (Below.refl w.heap.size w); have H : ((sawtoothlaw14_awakeS.f).bind fun t429 => ((grow_Calm.f (wrap64 (131072 + (wrap64 (a0)))) (wrap64 ((wrap64 (131072 + (wrap64 (a0)))) + (wrap64 (a1)))) (mn (wrap64 (a2)) (wrap64 (131072 + (wrap64 (a0)))))).bind fun t430 => (if (wrap64 ((wrap64 (131072 + (wrap64 (a0)))) + (wrap64 (a1)))) > 68719476736 then (some t429) else ((sawtoothref02_MulS.f (wrap64 (t430 - (wrap64 (131072 + (wrap64 (a0)))))) (wrap64 (131072 + (wrap64 (a0))))).bind fun bt431 => ((sawtoothref02_MulS.f (wrap64 ((wrap64 (t430 - (wrap64 (131072 + (wrap64 (a0)))))) + 1)) (wrap64 (131072 + (wrap64 (a0))))).bind fun bt435 => ((sawtoothref02_MulS.f (mn (wrap64 (a2)) (wrap64 (131072 + (wrap64 (a0))))) (wrap64 (a1))).bind fun bt439 => (if t429 = true then ((sawtoothref02_CmpS.f bt431.1 bt431.2.1 bt431.2.2 bt439.1 bt439.2.1 bt439.2.2).bind fun t443 => (if t443 ≤ 0 then ((sawtoothref02_CmpS.f bt435.1 bt435.2.1 bt435.2.2 bt439.1 bt439.2.1 bt439.2.2).bind fun t444 => (some (decide (t444 > 0)))) else (none))) else (none)))))))) = some r := h; clear h; replace H := Option.bind_eq_some_iff.mp H; obtain ⟨t429, A40, H⟩ := H; (try dsimp only at H); have A4 := Aside0.mk A40; clear A40
 obtain ⟨ji5, hji5⟩ : ∃ j_ : Int, (mn (wrap64 (a2)) (wrap64 (131072 + (wrap64 (a0))))) = j_ := ⟨_, rfl⟩
 replace H : ((grow_Calm.f (wrap64 (131072 + (wrap64 (a0)))) (wrap64 ((wrap64 (131072 + (wrap64 (a0)))) + (wrap64 (a1)))) (ji5)).bind fun t430 => (if (wrap64 ((wrap64 (131072 + (wrap64 (a0)))) + (wrap64 (a1)))) > 68719476736 then (some t429) else ((sawtoothref02_MulS.f (wrap64 (t430 - (wrap64 (131072 + (wrap64 (a0)))))) (wrap64 (131072 + (wrap64 (a0))))).bind fun bt431 => ((sawtoothref02_MulS.f (wrap64 ((wrap64 (t430 - (wrap64 (131072 + (wrap64 (a0)))))) + 1)) (wrap64 (131072 + (wrap64 (a0))))).bind fun bt435 => ((sawtoothref02_MulS.f (ji5) (wrap64 (a1))).bind fun bt439 => (if t429 = true then ((sawtoothref02_CmpS.f bt431.1 bt431.2.1 bt431.2.2 bt439.1 bt439.2.1 bt439.2.2).bind fun t443 => (if t443 ≤ 0 then ((sawtoothref02_CmpS.f bt435.1 bt435.2.1 bt435.2.2 bt439.1 bt439.2.1 bt439.2.2).bind fun t444 => (some (decide (t444 > 0)))) else (none))) else (none))))))) = some r := by first | (rw [hji5] at H; exact H) | (simp only [hji5] at H ⊢; exact H)
 (try rw [hji5] at A4)
 have hji5_ : (if (wrap64 (131072 + (wrap64 (a0)))) < (wrap64 (a2)) then (wrap64 (131072 + (wrap64 (a0)))) else (wrap64 (a2))) = ji5 := hji5; replace H := Option.bind_eq_some_iff.mp H; obtain ⟨t430, A60, H⟩ := H; (try dsimp only at H); have A6 := Aside0.mk A60; clear A60
 by_cases c7 : (wrap64 ((wrap64 (131072 + (wrap64 (a0)))) + (wrap64 (a1)))) > 68719476736
 ·rw [if_pos c7] at H
  have c7b0 : decide (68719476736 < (wrap64 ((wrap64 (131072 + (wrap64 (a0)))) + (wrap64 (a1))))) = true := decide_eq_true c7; clear c7; obtain rfl := Option.some.inj H
  go_enter Try.func12, Try.ntmps12
  go_wp2_with (first | ((with_reducible refine gate_callee (f := 24) rfl ?_); refine goesLA_ (some 14) rfl rfl Try.func24 rfl #[] rfl ?_; (with_reducible refine (sawtoothlaw14_awakeS.calls  t429 _ A4.out).mono ?_); rintro e w8 ⟨rfl, hb⟩; refine ⟨_, rfl, ?_⟩; replace HB := stA hb; clear hb) | ((with_reducible refine gate_callee (f := 27) rfl ?_); refine goesL_ (some 28) rfl rfl Try.func27 (by kernel_rfl) rfl #[.int .i64 (wrap64 (131072 + (wrap64 (a0)))), .int .i64 (wrap64 ((wrap64 (131072 + (wrap64 (a0)))) + (wrap64 (a1)))), .int .i64 ji5] rfl (by (try simp only [List.map_toArray, List.map_cons, List.map_nil]); first | done | (simp only [hji5]; rfl) | rfl | (simp only [List.length_drop, List.length_take]; rfl)) ?_; (with_reducible refine (grow_Calm.calls (wrap64 (131072 + (wrap64 (a0)))) (wrap64 ((wrap64 (131072 + (wrap64 (a0)))) + (wrap64 (a1)))) ji5 t430 _ A6.out).mono ?_); rintro e w9 ⟨rfl, hb⟩; refine ⟨_, rfl, ?_⟩; replace HB := stA hb; clear hb))
  go_ret
  exact ⟨by first | rfl | (simp [errW_none, errW_some] <;> rfl) | (simp only [← hji5]; first | rfl | (simp [errW_none, errW_some] <;> rfl)) | (simp [*, errW_none, errW_some] <;> rfl), by repeat (first | (with_reducible first | exact HB.out | apply below_alloc | apply pw_below_drewN | apply below_drew1) | exact HB.out)⟩
 ·rw [if_neg c7] at H
  have c7b0 : decide (68719476736 < (wrap64 ((wrap64 (131072 + (wrap64 (a0)))) + (wrap64 (a1))))) = false := decide_eq_false c7; clear c7; replace H := Option.bind_eq_some_iff.mp H; obtain ⟨⟨t431, t432, t433⟩, A100, H⟩ := H; (try dsimp only at H); have A10 := Aside0.mk A100; clear A100; replace H := Option.bind_eq_some_iff.mp H; obtain ⟨⟨t435, t436, t437⟩, A110, H⟩ := H; (try dsimp only at H); have A11 := Aside0.mk A110; clear A110; replace H := Option.bind_eq_some_iff.mp H; obtain ⟨⟨t439, t440, t441⟩, A120, H⟩ := H; (try dsimp only at H); have A12 := Aside0.mk A120; clear A120
  by_cases c13 : t429 = true
  ·subst c13
   have H1 : ((sawtoothref02_CmpS.f t431 t432 t433 t439 t440 t441).bind fun t443 => (if t443 ≤ 0 then ((sawtoothref02_CmpS.f t435 t436 t437 t439 t440 t441).bind fun t444 => (some (decide (t444 > 0)))) else (none))) = some r := by rw [if_pos rfl] at H; exact H
   clear H; have H := H1; clear H1; replace H := Option.bind_eq_some_iff.mp H; obtain ⟨t443, A140, H⟩ := H; replace H : (if t443 ≤ 0 then ((sawtoothref02_CmpS.f t435 t436 t437 t439 t440 t441).bind fun t444 => (some (decide (t444 > 0)))) else (none)) = some r := H; have A14 := Aside0.mk A140; clear A140
   by_cases c15 : t443 ≤ 0
   ·rw [if_pos c15] at H
    have c15b0 : decide (t443 ≤ 0) = true := decide_eq_true c15; clear c15; replace H := Option.bind_eq_some_iff.mp H; obtain ⟨t444, A160, H⟩ := H; replace H : (some (decide (t444 > 0))) = some r := H; have A16 := Aside0.mk A160; clear A160; obtain rfl := Option.some.inj H
    go_enter Try.func12, Try.ntmps12
    go_wp2_with (first | ((with_reducible refine gate_callee (f := 24) rfl ?_); refine goesLA_ (some 14) rfl rfl Try.func24 rfl #[] rfl ?_; (with_reducible refine (sawtoothlaw14_awakeS.calls  true _ A4.out).mono ?_); rintro e w17 ⟨rfl, hb⟩; refine ⟨_, rfl, ?_⟩; replace HB := stA hb; clear hb) | ((with_reducible refine gate_callee (f := 27) rfl ?_); refine goesL_ (some 28) rfl rfl Try.func27 (by kernel_rfl) rfl #[.int .i64 (wrap64 (131072 + (wrap64 (a0)))), .int .i64 (wrap64 ((wrap64 (131072 + (wrap64 (a0)))) + (wrap64 (a1)))), .int .i64 ji5] rfl (by (try simp only [List.map_toArray, List.map_cons, List.map_nil]); first | done | (simp only [hji5]; rfl) | rfl | (simp only [List.length_drop, List.length_take]; rfl)) ?_; (with_reducible refine (grow_Calm.calls (wrap64 (131072 + (wrap64 (a0)))) (wrap64 ((wrap64 (131072 + (wrap64 (a0)))) + (wrap64 (a1)))) ji5 t430 _ A6.out).mono ?_); rintro e w18 ⟨rfl, hb⟩; refine ⟨_, rfl, ?_⟩; replace HB := stA hb; clear hb) | ((with_reducible refine gate_callee (f := 22) rfl ?_); refine goesLA_ (some 39) rfl rfl Try.func22 rfl #[.int .i64 (wrap64 (t430 - (wrap64 (131072 + (wrap64 (a0)))))), .int .i64 (wrap64 (131072 + (wrap64 (a0))))] rfl ?_; (with_reducible refine (sawtoothref02_MulS.calls (wrap64 (t430 - (wrap64 (131072 + (wrap64 (a0)))))) (wrap64 (131072 + (wrap64 (a0)))) t431 t432 t433 _ A10.out).mono ?_); rintro e w19 ⟨rfl, hb⟩; refine ⟨_, rfl, ?_⟩; replace HB := stA hb; clear hb) | ((with_reducible refine gate_dst (N := 11) rfl ?_); refine box_event ?hg (N := 11) ?hd (cs := #[.bool false, .int .u64 0, .int .u64 0]) (t := 35) ?hr ?_; (case hd => rfl); (case hg => rfl); (case hr => first | (go_simp; done) | (go_simp; rfl)); intro gb434 hg w20 hbox hb; have BK434 := Aside0.mk (hbox); obtain ⟨GW434, nHB⟩ := geA hg hb; have GE434 := GW434; replace HB := nHB; clear nHB; clear hb hbox hg; have hcz21_0 := czZ BK434 0 (.bool false); have hcz21_1 := czZ BK434 1 (.int .u64 0); have hcz21_2 := czZ BK434 2 (.int .u64 0); have hfz21_0 := blk_frozen BK434.out 0; have hfz21_1 := blk_frozen BK434.out 1; have hfz21_2 := blk_frozen BK434.out 2) | ((with_reducible refine gate_callee (f := 22) rfl ?_); refine goesLA_ (some 43) rfl rfl Try.func22 rfl #[.int .i64 (wrap64 ((wrap64 (t430 - (wrap64 (131072 + (wrap64 (a0)))))) + 1)), .int .i64 (wrap64 (131072 + (wrap64 (a0))))] rfl ?_; (with_reducible refine (sawtoothref02_MulS.calls (wrap64 ((wrap64 (t430 - (wrap64 (131072 + (wrap64 (a0)))))) + 1)) (wrap64 (131072 + (wrap64 (a0)))) t435 t436 t437 _ A11.out).mono ?_); rintro e w22 ⟨rfl, hb⟩; refine ⟨_, rfl, ?_⟩; replace BK434 := Aside0.mk (blk_below (g := gb434) (o := .cells #[.bool t431, .int .u64 t432, .int .u64 t433] 35 (0, 0)) (by (with_reducible repeat first | apply blk_drewN | apply blk_drew | apply blk_alloc); refine blk_put (cs := #[.bool t431, .int .u64 t432, .int .u64 0]) ?_ 2 _ rfl; (with_reducible repeat first | apply blk_drewN | apply blk_drew | apply blk_alloc); refine blk_put (cs := #[.bool t431, .int .u64 0, .int .u64 0]) ?_ 1 _ rfl; (with_reducible repeat first | apply blk_drewN | apply blk_drew | apply blk_alloc); refine blk_put (cs := #[.bool false, .int .u64 0, .int .u64 0]) ?_ 0 _ rfl; (with_reducible repeat first | apply blk_drewN | apply blk_drew | apply blk_alloc); exact BK434.out) hb); replace HB := stA hb; clear hb) | ((with_reducible refine gate_dst (N := 12) rfl ?_); refine box_event ?hg (N := 12) ?hd (cs := #[.bool false, .int .u64 0, .int .u64 0]) (t := 35) ?hr ?_; (case hd => rfl); (case hg => rfl); (case hr => first | (go_simp; done) | (go_simp; rfl)); intro gb438 hg w23 hbox hb; have BK438 := Aside0.mk (hbox); obtain ⟨GW438, nHB⟩ := geA hg hb; have GE438 := GW438; obtain ⟨NB434_438, NB438_434, nBK⟩ := nbA BK434 hg hb; replace BK434 := nBK; clear nBK; replace HB := nHB; clear nHB; clear hb hbox hg; have hnb24 := NB438_434.out; have hnc24 := NB434_438.out; have hcz25_0 := czZ BK438 0 (.bool false); have hcz25_1 := czZ BK438 1 (.int .u64 0); have hcz25_2 := czZ BK438 2 (.int .u64 0); have hfz25_0 := blk_frozen BK438.out 0; have hfz25_1 := blk_frozen BK438.out 1; have hfz25_2 := blk_frozen BK438.out 2) | ((with_reducible refine gate_callee (f := 22) rfl ?_); refine goesL_ (some 47) rfl rfl Try.func22 (by kernel_rfl) rfl #[.int .i64 ji5, .int .i64 (wrap64 (a1))] rfl (by (try simp only [List.map_toArray, List.map_cons, List.map_nil]); first | done | (simp only [hji5]; rfl) | rfl | (simp only [List.length_drop, List.length_take]; rfl)) ?_; (with_reducible refine (sawtoothref02_MulS.calls ji5 (wrap64 (a1)) t439 t440 t441 _ A12.out).mono ?_); rintro e w26 ⟨rfl, hb⟩; refine ⟨_, rfl, ?_⟩; replace BK434 := bfZ BK434 (fun h_ => by (with_reducible repeat first | apply blk_drewN | apply blk_drew | apply blk_alloc | refine farZ ?_ NB434_438 _); exact h_) hb; replace BK438 := Aside0.mk (blk_below (g := gb438) (o := .cells #[.bool t435, .int .u64 t436, .int .u64 t437] 35 (0, 0)) (by (with_reducible repeat first | apply blk_drewN | apply blk_drew | apply blk_alloc); refine blk_put (cs := #[.bool t435, .int .u64 t436, .int .u64 0]) ?_ 2 _ rfl; (with_reducible repeat first | apply blk_drewN | apply blk_drew | apply blk_alloc); refine blk_put (cs := #[.bool t435, .int .u64 0, .int .u64 0]) ?_ 1 _ rfl; (with_reducible repeat first | apply blk_drewN | apply blk_drew | apply blk_alloc); refine blk_put (cs := #[.bool false, .int .u64 0, .int .u64 0]) ?_ 0 _ rfl; (with_reducible repeat first | apply blk_drewN | apply blk_drew | apply blk_alloc); exact BK438.out) hb); replace HB := stA hb; clear hb) | ((with_reducible refine gate_dst (N := 13) rfl ?_); refine box_event ?hg (N := 13) ?hd (cs := #[.bool false, .int .u64 0, .int .u64 0]) (t := 35) ?hr ?_; (case hd => rfl); (case hg => rfl); (case hr => first | (go_simp; done) | (go_simp; rfl)); intro gb442 hg w27 hbox hb; have BK442 := Aside0.mk (hbox); obtain ⟨GW442, nHB⟩ := geA hg hb; have GE442 := GW442; obtain ⟨NB434_442, NB442_434, nBK⟩ := nbA BK434 hg hb; replace BK434 := nBK; clear nBK; obtain ⟨NB438_442, NB442_438, nBK⟩ := nbA BK438 hg hb; replace BK438 := nBK; clear nBK; replace HB := nHB; clear nHB; clear hb hbox hg; have hnb28 := NB442_434.out; have hnc28 := NB434_442.out; have hnb29 := NB442_438.out; have hnc29 := NB438_442.out; have hcz30_0 := czZ BK442 0 (.bool false); have hcz30_1 := czZ BK442 1 (.int .u64 0); have hcz30_2 := czZ BK442 2 (.int .u64 0); have hfz30_0 := blk_frozen BK442.out 0; have hfz30_1 := blk_frozen BK442.out 1; have hfz30_2 := blk_frozen BK442.out 2; have hcz31_0 := czZ BK434 0 (.bool t431); have hcz31_1 := czZ BK434 1 (.int .u64 t432); have hcz31_2 := czZ BK434 2 (.int .u64 t433); have hfz31_0 := blk_frozen BK434.out 0; have hfz31_1 := blk_frozen BK434.out 1; have hfz31_2 := blk_frozen BK434.out 2) | (go_at_call 23; (with_reducible refine (sawtoothref02_CmpS.calls t431 t432 t433 t439 t440 t441 t443 _ A14.out).mono ?_); rintro e w32 ⟨rfl, hb⟩; replace BK434 := bfZ BK434 (fun h_ => by (with_reducible repeat first | apply blk_drewN | apply blk_drew | apply blk_alloc | refine farZ ?_ NB434_442 _); exact h_) hb; replace BK438 := bfZ BK438 (fun h_ => by (with_reducible repeat first | apply blk_drewN | apply blk_drew | apply blk_alloc | refine farZ ?_ NB438_442 _); exact h_) hb; replace BK442 := Aside0.mk (blk_below (g := gb442) (o := .cells #[.bool t439, .int .u64 t440, .int .u64 t441] 35 (0, 0)) (by (with_reducible repeat first | apply blk_drewN | apply blk_drew | apply blk_alloc); refine blk_put (cs := #[.bool t439, .int .u64 t440, .int .u64 0]) ?_ 2 _ rfl; (with_reducible repeat first | apply blk_drewN | apply blk_drew | apply blk_alloc); refine blk_put (cs := #[.bool t439, .int .u64 0, .int .u64 0]) ?_ 1 _ rfl; (with_reducible repeat first | apply blk_drewN | apply blk_drew | apply blk_alloc); refine blk_put (cs := #[.bool false, .int .u64 0, .int .u64 0]) ?_ 0 _ rfl; (with_reducible repeat first | apply blk_drewN | apply blk_drew | apply blk_alloc); exact BK442.out) hb); replace HB := stA hb; clear hb; have hcz33_0 := czZ BK438 0 (.bool t435); have hcz33_1 := czZ BK438 1 (.int .u64 t436); have hcz33_2 := czZ BK438 2 (.int .u64 t437); have hfz33_0 := blk_frozen BK438.out 0; have hfz33_1 := blk_frozen BK438.out 1; have hfz33_2 := blk_frozen BK438.out 2; have hcz34_0 := czZ BK442 0 (.bool t439); have hcz34_1 := czZ BK442 1 (.int .u64 t440); have hcz34_2 := czZ BK442 2 (.int .u64 t441); have hfz34_0 := blk_frozen BK442.out 0; have hfz34_1 := blk_frozen BK442.out 1; have hfz34_2 := blk_frozen BK442.out 2) | (go_at_call 23; (with_reducible refine (sawtoothref02_CmpS.calls t435 t436 t437 t439 t440 t441 t444 _ A16.out).mono ?_); rintro e w35 ⟨rfl, hb⟩; replace BK434 := bdZ BK434 hb; replace BK438 := bdZ BK438 hb; replace BK442 := bdZ BK442 hb; replace HB := stA hb; clear hb))
    go_ret
    exact ⟨by first | rfl | (simp [errW_none, errW_some] <;> rfl) | (simp only [← hji5]; first | rfl | (simp [errW_none, errW_some] <;> rfl)) | (simp [*, errW_none, errW_some] <;> rfl), by repeat (first | (with_reducible first | exact HB.out | apply below_alloc | apply pw_below_drewN | apply below_drew1 | refine below_set ?_ (Aside0.out (by assumption))) | exact HB.out)⟩
   ·rw [if_neg c15] at H
    exact absurd H (by simp)
  ·replace c13 := Bool.eq_false_iff.mpr c13
   subst c13
   have H1 : (none) = some r := by rw [if_neg (show ¬ (false = true) by decide)] at H; exact H
   clear H; have H := H1; clear H1; exact absurd H (by simp)

/-- THE ONE PURE STATEMENT of sawtoothlaw14_GrowExact: yours. -/
def sawtoothlaw14_GrowExact.Pure : Prop := ∀ (a0 : Int) (a1 : Int) (a2 : Int), (Lit.int .u32 a0).wf = true → (Lit.int .u32 a1).wf = true → (Lit.int .u32 a2).wf = true → sawtoothlaw14_GrowExact.f a0 a1 a2 = some true
theorem sawtoothlaw14_GrowExact.walk (P : sawtoothlaw14_GrowExact.Pure) (a0 : Int) (a1 : Int) (a2 : Int) (w : World) (w0 : (Lit.int .u32 a0).wf = true) (w1 : (Lit.int .u32 a1).wf = true) (w2 : (Lit.int .u32 a2).wf = true) :
  Calls Try.prog 12 #[.int .u32 a0, .int .u32 a1, .int .u32 a2] w fun e w' => e = .returned (.bool true) ∧ Below w.heap.size w w' := by
 have h := P a0 a1 a2 w0 w1 w2; refine (sawtoothlaw14_GrowExact.calls a0 a1 a2 true w h).mono ?_; rintro e w' ⟨rfl, hd⟩; exact ⟨rfl, hd⟩

/-! ### sawtoothlaw14_GrowMeets: function 13 -/
noncomputable def sawtoothlaw14_GrowMeets.l0 : Nat → Bool → Int → Int → Int → Int → Int → Option (Bool)
 | 0, _, _, _, _, _, _ => none
 | k + 1, x7, x8, x9, x10, x11, x12 => if x12 < x10 then (if x10 = 0 then (none) else ((grow_Calm.f x11 x9 (wrap64 (Int.tdiv x8 x10))).bind fun t446 => (sawtoothlaw14_GrowMeets.l0 k x7 x8 x9 x10 t446 (wrap64 (x12 + 1))))) else (if x7 = true then ((grow_Calm.f x8 x9 x8).bind fun t447 => (if t447 = x9 then (if x11 ≤ x9 then (if x11 ≥ x8 then ((grow_Calm.f x9 x9 x8).bind fun t448 => (some (t448 == x9))) else (none)) else (none)) else (none))) else (none))
noncomputable def sawtoothlaw14_GrowMeets.f (k : Nat) (a0 : Int) (a1 : Int) (a2 : Int) : Option (Bool) := (sawtoothlaw14_awakeS.f).bind fun t445 => (sawtoothlaw14_GrowMeets.l0 k t445 (wrap64 (131072 + (wrap64 (a0)))) (mn (wrap64 ((wrap64 (131072 + (wrap64 (a0)))) + (wrap64 (a1)))) 68719476736) (wrap64 (1 + (wrap64 (Int.tmod a2 20)))) (wrap64 (131072 + (wrap64 (a0)))) 0)
theorem sawtoothlaw14_GrowMeets.mono_l : ∀ k, (∀ y0 y1 y2 y3 y4 y5, LeO (sawtoothlaw14_GrowMeets.l0 k y0 y1 y2 y3 y4 y5) (sawtoothlaw14_GrowMeets.l0 (k + 1) y0 y1 y2 y3 y4 y5))
 | 0 => fun _ _ _ _ _ _ r h => by simp [sawtoothlaw14_GrowMeets.l0] at h
 | k + 1 => by
  have ih0 := sawtoothlaw14_GrowMeets.mono_l k
  ·intro y0 y1 y2 y3 y4 y5
   unfold sawtoothlaw14_GrowMeets.l0
   repeat' first
   | (with_reducible exact ih0 _ _ _ _ _ _)
   | (with_reducible exact LeO.refl _)
   | (with_reducible exact LeO.none _)
   | (with_reducible refine LeO.ite ?_ ?_)
   | (with_reducible refine LeO.bind ?_ (fun _ => ?_))
   | exact ih0 _ _ _ _ _ _
   | exact LeO.none _
   | refine LeO.ite ?_ ?_
   | refine LeO.bind ?_ (fun _ => ?_)
theorem sawtoothlaw14_GrowMeets.mono : ∀ a0 a1 a2 k, LeO (sawtoothlaw14_GrowMeets.f k a0 a1 a2) (sawtoothlaw14_GrowMeets.f (k + 1) a0 a1 a2) := by
 intro a0 a1 a2 k; have ih0 := sawtoothlaw14_GrowMeets.mono_l k
 unfold sawtoothlaw14_GrowMeets.f
 repeat' first
   | (with_reducible exact ih0 _ _ _ _ _ _)
   | (with_reducible exact LeO.refl _)
   | (with_reducible exact LeO.none _)
   | (with_reducible refine LeO.ite ?_ ?_)
   | (with_reducible refine LeO.bind ?_ (fun _ => ?_))
   | exact ih0 _ _ _ _ _ _
   | exact LeO.none _
   | refine LeO.ite ?_ ?_
   | refine LeO.bind ?_ (fun _ => ?_)
set_option maxHeartbeats 8000000 in
set_option maxRecDepth 100000 in
theorem sawtoothlaw14_GrowMeets.calls (k : Nat) (a0 : Int) (a1 : Int) (a2 : Int) (r : Bool) (w : World) (h : sawtoothlaw14_GrowMeets.f k a0 a1 a2 = some r) :
  Calls Try.prog 13 #[.int .u32 a0, .int .u32 a1, .int .u8 a2] w fun e w' => e = .returned (.bool r) ∧ Below w.heap.size w w' := by
 have HB := Aside0.mk (Below.refl w.heap.size w); have H : ((sawtoothlaw14_awakeS.f).bind fun t445 => (sawtoothlaw14_GrowMeets.l0 k t445 (wrap64 (131072 + (wrap64 (a0)))) (mn (wrap64 ((wrap64 (131072 + (wrap64 (a0)))) + (wrap64 (a1)))) 68719476736) (wrap64 (1 + (wrap64 (Int.tmod a2 20)))) (wrap64 (131072 + (wrap64 (a0)))) 0)) = some r := h; clear h; replace H := Option.bind_eq_some_iff.mp H; obtain ⟨t445, A40, H⟩ := H; (try dsimp only at H); have A4 := Aside0.mk A40; clear A40
 obtain ⟨ji5, hji5⟩ : ∃ j_ : Int, (mn (wrap64 ((wrap64 (131072 + (wrap64 (a0)))) + (wrap64 (a1)))) 68719476736) = j_ := ⟨_, rfl⟩
 replace H : (sawtoothlaw14_GrowMeets.l0 k t445 (wrap64 (131072 + (wrap64 (a0)))) ji5 (wrap64 (1 + (wrap64 (Int.tmod a2 20)))) (wrap64 (131072 + (wrap64 (a0)))) 0) = some r := by first | (rw [hji5] at H; exact H) | (simp only [hji5] at H ⊢; exact H)
 (try rw [hji5] at A4)
 (try (have hji5h : ji5 ≤ 68719476736 := by (rw [← hji5]; unfold mn; (repeat' split) <;> omega)))
 (try (have hji5g : ji5 ≤ 64 := by omega))
 have hji5_ : (if 68719476736 < (wrap64 ((wrap64 (131072 + (wrap64 (a0)))) + (wrap64 (a1)))) then 68719476736 else (wrap64 ((wrap64 (131072 + (wrap64 (a0)))) + (wrap64 (a1))))) = ji5 := hji5; have H' := Aside0.mk H; clear H
 go_enter Try.func13, Try.ntmps13
 go_wp2_with (first | ((with_reducible refine gate_callee (f := 24) rfl ?_); refine goesLA_ (some 13) rfl rfl Try.func24 rfl #[] rfl ?_; (with_reducible refine (sawtoothlaw14_awakeS.calls  t445 _ A4.out).mono ?_); rintro e w6 ⟨rfl, hb⟩; refine ⟨_, rfl, ?_⟩; replace HB := stA hb; clear hb))
 go_loopg [11, 12] k (fun kq v11 v12 w' => ∃ (x11_1 : Int) (x12_1 : Int), v11 = .int .i64 x11_1 ∧ v12 = .int .i64 x12_1 ∧ Aside0 (sawtoothlaw14_GrowMeets.l0 kq t445 (wrap64 (131072 + (wrap64 (a0)))) ji5 (wrap64 (1 + (wrap64 (Int.tmod a2 20)))) x11_1 x12_1 = some r) ∧ Aside0 (kq ≤ k) ∧ Aside0 (Below w.heap.size w w'))
 case atStart => exact ⟨(wrap64 (131072 + (wrap64 (a0)))), (0), (by first | rfl | (simp; done) | (simp [*]; done)), (by first | rfl | (simp; done) | (simp [*]; done)), H', ⟨Nat.le_refl _⟩, ⟨by repeat (first | (with_reducible first | exact HB.out | apply below_alloc | apply pw_below_drewN | apply below_drew1) | exact HB.out)⟩⟩
 case round =>
  clear H'
  try clear c1
  try clear c2
  try clear p2
  try clear p6
  obtain ⟨x11_1, x12_1, rfl, rfl, HA, HK1, HB⟩ := hrel
  cases gk with
  | zero => exact absurd HA.out (by simp [sawtoothlaw14_GrowMeets.l0])
  | succ k1 =>
   have H := HA.out; clear HA; simp only [sawtoothlaw14_GrowMeets.l0] at H
   by_cases c7 : x12_1 < (wrap64 (1 + (wrap64 (Int.tmod a2 20))))
   ·rw [if_pos c7] at H
    have c7b0 : decide (x12_1 < (wrap64 (1 + (wrap64 (Int.tmod a2 20))))) = true := decide_eq_true c7; clear c7
    by_cases c8 : (wrap64 (1 + (wrap64 (Int.tmod a2 20)))) = 0
    ·rw [if_pos c8] at H
     exact absurd H (by simp)
    ·rw [if_neg c8] at H
     have c8b0 : ((wrap64 (1 + (wrap64 (Int.tmod a2 20)))) == 0) = false := beq_eq_false_iff_ne.mpr c8; have c8b1 : ((wrap64 (1 + (wrap64 (Int.tmod a2 20)))) != 0) = true := bne_iff_ne.mpr c8; replace H := Option.bind_eq_some_iff.mp H; obtain ⟨t446, A90, H⟩ := H; replace H : (sawtoothlaw14_GrowMeets.l0 k1 t445 (wrap64 (131072 + (wrap64 (a0)))) ji5 (wrap64 (1 + (wrap64 (Int.tmod a2 20)))) t446 (wrap64 (x12_1 + 1))) = some r := H; have A9 := Aside0.mk A90; clear A90; have H' := Aside0.mk H; clear H
     go_wp2_with (first | ((with_reducible refine gate_callee (f := 27) rfl ?_); refine goesL_ (some 37) rfl rfl Try.func27 (by kernel_rfl) rfl #[.int .i64 x11_1, .int .i64 ji5, .int .i64 (wrap64 (Int.tdiv (wrap64 (131072 + (wrap64 (a0)))) (wrap64 (1 + (wrap64 (Int.tmod a2 20))))))] rfl (by (try simp only [List.map_toArray, List.map_cons, List.map_nil]); first | done | (simp only [hji5]; rfl) | rfl | (simp only [List.length_drop, List.length_take]; rfl)) ?_; (with_reducible refine (grow_Calm.calls x11_1 ji5 (wrap64 (Int.tdiv (wrap64 (131072 + (wrap64 (a0)))) (wrap64 (1 + (wrap64 (Int.tmod a2 20)))))) t446 _ A9.out).mono ?_); rintro e w10 ⟨rfl, hb⟩; refine ⟨_, rfl, ?_⟩; replace HB := stA hb; clear hb))
     go_roundg k1
     case measure => have := HK1.out; omega
     case rel => exact ⟨(t446), (wrap64 (x12_1 + 1)), (by first | rfl | (simp; done) | (simp [*]; done)), (by first | rfl | (simp; done) | (simp [*]; done)), H', ⟨by have := HK1.out; omega⟩, ⟨by repeat (first | (with_reducible first | exact HB.out | apply below_alloc | apply pw_below_drewN | apply below_drew1) | exact HB.out)⟩⟩
   ·rw [if_neg c7] at H
    have c7b0 : decide (x12_1 < (wrap64 (1 + (wrap64 (Int.tmod a2 20))))) = false := decide_eq_false c7; clear c7
    by_cases c11 : t445 = true
    ·subst c11
     have H1 : ((grow_Calm.f (wrap64 (131072 + (wrap64 (a0)))) ji5 (wrap64 (131072 + (wrap64 (a0))))).bind fun t447 => (if t447 = ji5 then (if x11_1 ≤ ji5 then (if x11_1 ≥ (wrap64 (131072 + (wrap64 (a0)))) then ((grow_Calm.f ji5 ji5 (wrap64 (131072 + (wrap64 (a0))))).bind fun t448 => (some (t448 == ji5))) else (none)) else (none)) else (none))) = some r := by rw [if_pos rfl] at H; exact H
     clear H; have H := H1; clear H1; replace H := Option.bind_eq_some_iff.mp H; obtain ⟨t447, A120, H⟩ := H; (try dsimp only at H); have A12 := Aside0.mk A120; clear A120
     by_cases c13 : t447 = ji5
     ·rw [if_pos c13] at H
      have c13b0 : (t447 == ji5) = true := beq_iff_eq.mpr c13; have c13b1 : (t447 != ji5) = false := bne_eq_false_iff_eq.mpr c13; clear c13
      by_cases c14 : x11_1 ≤ ji5
      ·rw [if_pos c14] at H
       have c14b0 : decide (x11_1 ≤ ji5) = true := decide_eq_true c14; clear c14
       by_cases c15 : x11_1 ≥ (wrap64 (131072 + (wrap64 (a0))))
       ·rw [if_pos c15] at H
        have c15b0 : decide ((wrap64 (131072 + (wrap64 (a0)))) ≤ x11_1) = true := decide_eq_true c15; clear c15; replace H := Option.bind_eq_some_iff.mp H; obtain ⟨t448, A160, H⟩ := H; replace H : (some (t448 == ji5)) = some r := H; have A16 := Aside0.mk A160; clear A160; obtain rfl := Option.some.inj H
        go_wp2_with (first | (go_at_call 27; (with_reducible refine (grow_Calm.calls (wrap64 (131072 + (wrap64 (a0)))) ji5 (wrap64 (131072 + (wrap64 (a0)))) t447 _ A12.out).mono ?_); rintro e w17 ⟨rfl, hb⟩; replace HB := stA hb; clear hb) | (go_at_call 27; (with_reducible refine (grow_Calm.calls ji5 ji5 (wrap64 (131072 + (wrap64 (a0)))) t448 _ A16.out).mono ?_); rintro e w18 ⟨rfl, hb⟩; replace HB := stA hb; clear hb))
        go_ret
        exact ⟨by first | rfl | (simp [errW_none, errW_some] <;> rfl) | (simp only [← hji5]; first | rfl | (simp [errW_none, errW_some] <;> rfl)) | (simp [*, errW_none, errW_some] <;> rfl), by repeat (first | (with_reducible first | exact HB.out | apply below_alloc | apply pw_below_drewN | apply below_drew1) | exact HB.out)⟩
       ·rw [if_neg c15] at H
        exact absurd H (by simp)
      ·rw [if_neg c14] at H
       exact absurd H (by simp)
     ·rw [if_neg c13] at H
      exact absurd H (by simp)
    ·replace c11 := Bool.eq_false_iff.mpr c11
     subst c11
     have H1 : (none) = some r := by rw [if_neg (show ¬ (false = true) by decide)] at H; exact H
     clear H; have H := H1; clear H1; exact absurd H (by simp)

/-- THE ONE PURE STATEMENT of sawtoothlaw14_GrowMeets: yours. -/
def sawtoothlaw14_GrowMeets.Pure : Prop := ∀ (a0 : Int) (a1 : Int) (a2 : Int), (Lit.int .u32 a0).wf = true → (Lit.int .u32 a1).wf = true → (Lit.int .u8 a2).wf = true → ∃ k, sawtoothlaw14_GrowMeets.f k a0 a1 a2 = some true
theorem sawtoothlaw14_GrowMeets.walk (P : sawtoothlaw14_GrowMeets.Pure) (a0 : Int) (a1 : Int) (a2 : Int) (w : World) (w0 : (Lit.int .u32 a0).wf = true) (w1 : (Lit.int .u32 a1).wf = true) (w2 : (Lit.int .u8 a2).wf = true) :
  Calls Try.prog 13 #[.int .u32 a0, .int .u32 a1, .int .u8 a2] w fun e w' => e = .returned (.bool true) ∧ Below w.heap.size w w' := by
 obtain ⟨k, h⟩ := P a0 a1 a2 w0 w1 w2; refine (sawtoothlaw14_GrowMeets.calls k a0 a1 a2 true w h).mono ?_; rintro e w' ⟨rfl, hd⟩; exact ⟨rfl, hd⟩

/-! ### sawtoothlaw14_GrowLimits: function 14 -/
noncomputable def sawtoothlaw14_GrowLimits.f (a0 : Int) (a1 : Int) (a2 : Int) (a3_0 : Int) (a3_1 : Int) (a3_2 : Int) (a3_3 : Bool) (a3_4 : Bool) (a3_5 : Int) (a3_6 : Int) : Option (Bool) := (sawtoothlaw14_awakeS.f).bind fun t450 => ((grow_LimitS.f a0 a1).bind fun t451 => ((grow_LimitS.f a0 68719476736).bind fun t452 => (if t450 = true then ((grow_LimitS.f t451 a1).bind fun t453 => (if t453 = t451 then ((grow_LimitS.f t451 a2).bind fun t454 => ((grow_LimitS.f a0 a2).bind fun t455 => ((grow_LimitS.f t455 a1).bind fun t456 => (if t454 = t456 then ((grow_LimitS.f a0 a1).bind fun t457 => ((grow_LimitS.f a1 a0).bind fun t458 => (if t457 = t458 then ((grow_Slow.f a0 0 a3_0 a3_1 a3_2 a3_3 a3_4 a3_5 a3_6).bind fun t459 => (if t459 = t452 then ((grow_Calm.f a0 a1 0).bind fun t460 => (if t460 = t452 then ((grow_Both.f a0 a1 0 0).bind fun t461 => (some (t461 == t452))) else (none))) else (none))) else (none)))) else (none))))) else (none))) else (none))))
set_option maxHeartbeats 8000000 in
set_option maxRecDepth 100000 in
theorem sawtoothlaw14_GrowLimits.calls (a0 : Int) (a1 : Int) (a2 : Int) (a3_0 : Int) (a3_1 : Int) (a3_2 : Int) (a3_3 : Bool) (a3_4 : Bool) (a3_5 : Int) (a3_6 : Int) (r : Bool) (w : World) (h : sawtoothlaw14_GrowLimits.f a0 a1 a2 a3_0 a3_1 a3_2 a3_3 a3_4 a3_5 a3_6 = some r) :
  Calls Try.prog 14 #[.int .i64 a0, .int .i64 a1, .int .i64 a2, .agg #[.int .i64 a3_0, .int .i64 a3_1, .int .i64 a3_2, .bool a3_3, .bool a3_4, .int .i64 a3_5, .int .i64 a3_6]] w fun e w' => e = .returned (.bool r) ∧ Below w.heap.size w w' := by
 have hu43 := Try.underlying43; have HB := Aside0.mk (Below.refl w.heap.size w); have H : ((sawtoothlaw14_awakeS.f).bind fun t450 => ((grow_LimitS.f a0 a1).bind fun t451 => ((grow_LimitS.f a0 68719476736).bind fun t452 => (if t450 = true then ((grow_LimitS.f t451 a1).bind fun t453 => (if t453 = t451 then ((grow_LimitS.f t451 a2).bind fun t454 => ((grow_LimitS.f a0 a2).bind fun t455 => ((grow_LimitS.f t455 a1).bind fun t456 => (if t454 = t456 then ((grow_LimitS.f a0 a1).bind fun t457 => ((grow_LimitS.f a1 a0).bind fun t458 => (if t457 = t458 then ((grow_Slow.f a0 0 a3_0 a3_1 a3_2 a3_3 a3_4 a3_5 a3_6).bind fun t459 => (if t459 = t452 then ((grow_Calm.f a0 a1 0).bind fun t460 => (if t460 = t452 then ((grow_Both.f a0 a1 0 0).bind fun t461 => (some (t461 == t452))) else (none))) else (none))) else (none)))) else (none))))) else (none))) else (none))))) = some r := h; clear h; replace H := Option.bind_eq_some_iff.mp H; obtain ⟨t450, A50, H⟩ := H; (try dsimp only at H); have A5 := Aside0.mk A50; clear A50; replace H := Option.bind_eq_some_iff.mp H; obtain ⟨t451, A60, H⟩ := H; (try dsimp only at H); have A6 := Aside0.mk A60; clear A60; replace H := Option.bind_eq_some_iff.mp H; obtain ⟨t452, A70, H⟩ := H; (try dsimp only at H); have A7 := Aside0.mk A70; clear A70
 by_cases c8 : t450 = true
 ·subst c8
  have H1 : ((grow_LimitS.f t451 a1).bind fun t453 => (if t453 = t451 then ((grow_LimitS.f t451 a2).bind fun t454 => ((grow_LimitS.f a0 a2).bind fun t455 => ((grow_LimitS.f t455 a1).bind fun t456 => (if t454 = t456 then ((grow_LimitS.f a0 a1).bind fun t457 => ((grow_LimitS.f a1 a0).bind fun t458 => (if t457 = t458 then ((grow_Slow.f a0 0 a3_0 a3_1 a3_2 a3_3 a3_4 a3_5 a3_6).bind fun t459 => (if t459 = t452 then ((grow_Calm.f a0 a1 0).bind fun t460 => (if t460 = t452 then ((grow_Both.f a0 a1 0 0).bind fun t461 => (some (t461 == t452))) else (none))) else (none))) else (none)))) else (none))))) else (none))) = some r := by rw [if_pos rfl] at H; exact H
  clear H; have H := H1; clear H1; replace H := Option.bind_eq_some_iff.mp H; obtain ⟨t453, A90, H⟩ := H; (try dsimp only at H); have A9 := Aside0.mk A90; clear A90
  by_cases c10 : t453 = t451
  ·rw [if_pos c10] at H
   have c10b0 : (t453 == t451) = true := beq_iff_eq.mpr c10; have c10b1 : (t453 != t451) = false := bne_eq_false_iff_eq.mpr c10; clear c10; replace H := Option.bind_eq_some_iff.mp H; obtain ⟨t454, A110, H⟩ := H; (try dsimp only at H); have A11 := Aside0.mk A110; clear A110; replace H := Option.bind_eq_some_iff.mp H; obtain ⟨t455, A120, H⟩ := H; (try dsimp only at H); have A12 := Aside0.mk A120; clear A120; replace H := Option.bind_eq_some_iff.mp H; obtain ⟨t456, A130, H⟩ := H; (try dsimp only at H); have A13 := Aside0.mk A130; clear A130
   by_cases c14 : t454 = t456
   ·rw [if_pos c14] at H
    have c14b0 : (t454 == t456) = true := beq_iff_eq.mpr c14; have c14b1 : (t454 != t456) = false := bne_eq_false_iff_eq.mpr c14; clear c14; replace H := Option.bind_eq_some_iff.mp H; obtain ⟨t457, A150, H⟩ := H; (try dsimp only at H); have A15 := Aside0.mk A150; clear A150; replace H := Option.bind_eq_some_iff.mp H; obtain ⟨t458, A160, H⟩ := H; (try dsimp only at H); have A16 := Aside0.mk A160; clear A160
    by_cases c17 : t457 = t458
    ·rw [if_pos c17] at H
     have c17b0 : (t457 == t458) = true := beq_iff_eq.mpr c17; have c17b1 : (t457 != t458) = false := bne_eq_false_iff_eq.mpr c17; clear c17; replace H := Option.bind_eq_some_iff.mp H; obtain ⟨t459, A180, H⟩ := H; replace H : (if t459 = t452 then ((grow_Calm.f a0 a1 0).bind fun t460 => (if t460 = t452 then ((grow_Both.f a0 a1 0 0).bind fun t461 => (some (t461 == t452))) else (none))) else (none)) = some r := H; have A18 := Aside0.mk A180; clear A180
     by_cases c19 : t459 = t452
     ·rw [if_pos c19] at H
      have c19b0 : (t459 == t452) = true := beq_iff_eq.mpr c19; have c19b1 : (t459 != t452) = false := bne_eq_false_iff_eq.mpr c19; clear c19; replace H := Option.bind_eq_some_iff.mp H; obtain ⟨t460, A200, H⟩ := H; replace H : (if t460 = t452 then ((grow_Both.f a0 a1 0 0).bind fun t461 => (some (t461 == t452))) else (none)) = some r := H; have A20 := Aside0.mk A200; clear A200
      by_cases c21 : t460 = t452
      ·rw [if_pos c21] at H
       have c21b0 : (t460 == t452) = true := beq_iff_eq.mpr c21; have c21b1 : (t460 != t452) = false := bne_eq_false_iff_eq.mpr c21; clear c21; replace H := Option.bind_eq_some_iff.mp H; obtain ⟨t461, A220, H⟩ := H; replace H : (some (t461 == t452)) = some r := H; have A22 := Aside0.mk A220; clear A220; obtain rfl := Option.some.inj H
       go_enter Try.func14, Try.ntmps14
       go_wp2_with (first | ((with_reducible refine gate_dst (N := 7) rfl ?_); refine box_event ?hg (N := 7) ?hd (cs := #[.int .i64 a3_0, .int .i64 a3_1, .int .i64 a3_2, .bool a3_3, .bool a3_4, .int .i64 a3_5, .int .i64 a3_6]) (t := 43) ?hr ?_; (case hd => rfl); (case hg => rfl); (case hr => first | (go_simp; done) | (go_simp; rfl)); intro gb449 hg w23 hbox hb; have BK449 := Aside0.mk (hbox); obtain ⟨GW449, nHB⟩ := geA hg hb; have GE449 := GW449; replace HB := nHB; clear nHB; clear hb hbox hg) | ((with_reducible refine gate_callee (f := 24) rfl ?_); refine goesLA_ (some 12) rfl rfl Try.func24 rfl #[] rfl ?_; (with_reducible refine (sawtoothlaw14_awakeS.calls  true _ A5.out).mono ?_); rintro e w24 ⟨rfl, hb⟩; refine ⟨_, rfl, ?_⟩; replace BK449 := bdZ BK449 hb; replace HB := stA hb; clear hb) | ((with_reducible refine gate_callee (f := 31) rfl ?_); refine goesLA_ (some 15) rfl rfl Try.func31 rfl #[.int .i64 a0, .int .i64 a1] rfl ?_; (with_reducible refine (grow_LimitS.calls a0 a1 t451 _ A6.out).mono ?_); rintro e w25 ⟨rfl, hb⟩; refine ⟨_, rfl, ?_⟩; replace BK449 := bdZ BK449 hb; replace HB := stA hb; clear hb) | ((with_reducible refine gate_callee (f := 31) rfl ?_); refine goesLA_ (some 17) rfl rfl Try.func31 rfl #[.int .i64 a0, .int .i64 68719476736] rfl ?_; (with_reducible refine (grow_LimitS.calls a0 68719476736 t452 _ A7.out).mono ?_); rintro e w26 ⟨rfl, hb⟩; refine ⟨_, rfl, ?_⟩; replace BK449 := bdZ BK449 hb; replace HB := stA hb; clear hb) | (go_at_call 31; (with_reducible refine (grow_LimitS.calls t451 a1 t453 _ A9.out).mono ?_); rintro e w27 ⟨rfl, hb⟩; replace BK449 := bdZ BK449 hb; replace HB := stA hb; clear hb) | (go_at_call 31; (with_reducible refine (grow_LimitS.calls t451 a2 t454 _ A11.out).mono ?_); rintro e w28 ⟨rfl, hb⟩; replace BK449 := bdZ BK449 hb; replace HB := stA hb; clear hb) | (go_at_call 31; (with_reducible refine (grow_LimitS.calls a0 a2 t455 _ A12.out).mono ?_); rintro e w29 ⟨rfl, hb⟩; replace BK449 := bdZ BK449 hb; replace HB := stA hb; clear hb) | (go_at_call 31; (with_reducible refine (grow_LimitS.calls t455 a1 t456 _ A13.out).mono ?_); rintro e w30 ⟨rfl, hb⟩; replace BK449 := bdZ BK449 hb; replace HB := stA hb; clear hb) | (go_at_call 31; (with_reducible refine (grow_LimitS.calls a0 a1 t457 _ A15.out).mono ?_); rintro e w31 ⟨rfl, hb⟩; replace BK449 := bdZ BK449 hb; replace HB := stA hb; clear hb) | (go_at_call 31; (with_reducible refine (grow_LimitS.calls a1 a0 t458 _ A16.out).mono ?_); rintro e w32 ⟨rfl, hb⟩; replace BK449 := bdZ BK449 hb; replace HB := stA hb; clear hb; have hcz33_0 := czZ BK449 0 (.int .i64 a3_0); have hcz33_1 := czZ BK449 1 (.int .i64 a3_1); have hcz33_2 := czZ BK449 2 (.int .i64 a3_2); have hcz33_3 := czZ BK449 3 (.bool a3_3); have hcz33_4 := czZ BK449 4 (.bool a3_4); have hcz33_5 := czZ BK449 5 (.int .i64 a3_5); have hcz33_6 := czZ BK449 6 (.int .i64 a3_6); have hfz33_0 := blk_frozen BK449.out 0; have hfz33_1 := blk_frozen BK449.out 1; have hfz33_2 := blk_frozen BK449.out 2; have hfz33_3 := blk_frozen BK449.out 3; have hfz33_4 := blk_frozen BK449.out 4; have hfz33_5 := blk_frozen BK449.out 5; have hfz33_6 := blk_frozen BK449.out 6) | (go_at_call 25; (with_reducible refine (grow_Slow.calls a0 0 a3_0 a3_1 a3_2 a3_3 a3_4 a3_5 a3_6 t459 _ A18.out).mono ?_); rintro e w34 ⟨rfl, hb⟩; replace BK449 := bdZ BK449 hb; replace HB := stA hb; clear hb) | (go_at_call 27; (with_reducible refine (grow_Calm.calls a0 a1 0 t460 _ A20.out).mono ?_); rintro e w35 ⟨rfl, hb⟩; replace BK449 := bdZ BK449 hb; replace HB := stA hb; clear hb) | (go_at_call 29; (with_reducible refine (grow_Both.calls a0 a1 0 0 t461 _ A22.out).mono ?_); rintro e w36 ⟨rfl, hb⟩; replace BK449 := bdZ BK449 hb; replace HB := stA hb; clear hb))
       go_ret
       exact ⟨by first | rfl | (simp [errW_none, errW_some] <;> rfl) | (simp [*, errW_none, errW_some] <;> rfl), by repeat (first | (with_reducible first | exact HB.out | apply below_alloc | apply pw_below_drewN | apply below_drew1 | refine below_set ?_ GE449.out) | exact HB.out)⟩
      ·rw [if_neg c21] at H
       exact absurd H (by simp)
     ·rw [if_neg c19] at H
      exact absurd H (by simp)
    ·rw [if_neg c17] at H
     exact absurd H (by simp)
   ·rw [if_neg c14] at H
    exact absurd H (by simp)
  ·rw [if_neg c10] at H
   exact absurd H (by simp)
 ·replace c8 := Bool.eq_false_iff.mpr c8
  subst c8
  have H1 : (none) = some r := by rw [if_neg (show ¬ (false = true) by decide)] at H; exact H
  clear H; have H := H1; clear H1; exact absurd H (by simp)

end Go.Proofs.Ytghpecgpdhaibaa.Px
