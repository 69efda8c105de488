/- Printed by a program of this session (wip/tool/px.py), over the kit's print: for each Go function a Lean function, and the proof that the machine's call answers as that function says. Conditions: none beside what the theorems state. -/
import Derived.Test.YtidpdaiolkcgnaaPx0
import Derived.Test.YtidpdaiolkcgnaaPx27
import Derived.Test.YtidpdaiolkcgnaaPx30
import Derived.Test.YtidpdaiolkcgnaaPx32
import Derived.Test.YtidpdaiolkcgnaaPx33
import Derived.Test.YtidpdaiolkcgnaaPx35
import Derived.Test.YtidpdaiolkcgnaaPx37
import Derived.Test.YtidpdaiolkcgnaaPx38
import Derived.Test.YtidpdaiolkcgnaaPx39
import Derived.Test.YtidpdaiolkcgnaaSpec
namespace Go.Proofs.Ytidpdaiolkcgnaa.Px
open Go.RowKit Go.Proofs.YtidpdaiolkcgnaaW.PrintWords Go.Proofs.YtidpdaiolkcgnaaW.PrintLast Go.Proofs.YtidpdaiolkcgnaaW.PrintMore
attribute [local go_sem] max2_int min2_int max_two min_two max_three min_three max_four min_four   -- for this text's walks alone
set_option linter.unusedVariables false
set_option linter.unusedSimpArgs false

/-! ### sawtoothref02_CmpS: which is greater: pure, behind function 58 -/
noncomputable def sawtoothref02_CmpS.f (n : Bool) (h l : Int) (m : Bool) (i k : Int) : Option Int := Go.Proofs.Ytidpdaiolkcgnaa.Sp.cmpF n h l m i k
section Ref02Cmp
open Go.Proofs.Ytidpdaiolkcgnaa.Sp
theorem sawtoothref02_Cmp.main {n m : Bool} {h l i k : Int} (h1 : U h) (h2 : U l) (h3 : U i) (h4 : U k) : sawtoothref02_Cmp.f 1 n h l m i k = some (cmpI (val n h l) (val m i k)) := by
 unfold sawtoothref02_Cmp.f
 rw [sawtoothref02_digits.eq h1 h2, sawtoothref02_digits.eq h3 h4]
 simp only [Option.bind_some, sawtoothref02_belowS.eq h1 h2, sawtoothref02_belowS.eq h3 h4, sawtoothref02_less.eq h1 h2 h3 h4, sawtoothref02_less.eq h3 h4 h1 h2, sawtoothref02_Cmp.j0]
 have v1 : val n h l = h * 18446744073709551616 + l ∨ val n h l = -(h * 18446744073709551616 + l) := by unfold val; cases n <;> simp
 have v2 : val m i k = i * 18446744073709551616 + k ∨ val m i k = -(i * 18446744073709551616 + k) := by unfold val; cases m <;> simp
 have p1 : 0 ≤ h * 18446744073709551616 + l := by omega
 have p2 : 0 ≤ i * 18446744073709551616 + k := by omega
 generalize val n h l = v at *
 generalize val m i k = w at *
 generalize h * 18446744073709551616 + l = M at *
 generalize i * 18446744073709551616 + k = N at *
 unfold cmpI
 by_cases a : v < 0 <;> by_cases b : w < 0 <;> by_cases c : M < N <;> by_cases d : N < M <;> simp [a, b, c, d] <;> omega
end Ref02Cmp
theorem sawtoothref02_CmpS.calls (a0_0 : Bool) (a0_1 a0_2 : Int) (a1_0 : Bool) (a1_1 a1_2 r : Int) (w : World) (h : sawtoothref02_CmpS.f a0_0 a0_1 a0_2 a1_0 a1_1 a1_2 = some r) :
  Calls Try.prog 58 #[.agg #[.bool a0_0, .int .u64 a0_1, .int .u64 a0_2], .agg #[.bool a1_0, .int .u64 a1_1, .int .u64 a1_2]] w fun e w' => e = .returned (.int .i64 r) ∧ Below w.heap.size w w' := by
 obtain ⟨hc, h⟩ := Go.Proofs.Ytidpdaiolkcgnaa.Sp.need_some h; obtain ⟨h1, h2, h3, h4⟩ := hc; exact sawtoothref02_Cmp.calls 1 a0_0 a0_1 a0_2 a1_0 a1_1 a1_2 r w (by rw [sawtoothref02_Cmp.main h1 h2 h3 h4]; exact h)

/-! ### sawtoothref04_part: function 47 -/
noncomputable def sawtoothref04_part.f (a0 : Int) (a1 : Int) (a2 : Int) (a3 : Int) : Option (Int × Int) := if a2 < 1 then (some (0, 20)) else ((sawtoothref02_MulS.f a0 a1).bind fun bt435 => ((sawtoothref02_OfS.f a3).bind fun bt438 => ((sawtoothref02_AddS.f bt435.1 bt435.2.1 bt435.2.2 bt438.1 bt438.2.1 bt438.2.2).bind fun bt441 => ((sawtoothref02_DivS.f bt441.1 bt441.2.1 bt441.2.2.1 (IntKind.u64.wrap (a2))).bind fun bt446 => ((sawtoothref02_IntS.f bt446.1 bt446.2.1 bt446.2.2.1).bind fun t452 => ((sawtoothref02_OfS.f t452).bind fun bt453 => ((sawtoothref02_CmpS.f bt446.1 bt446.2.1 bt446.2.2.1 bt453.1 bt453.2.1 bt453.2.2).bind fun t456 => (if t456 = 0 then (some (t452, 0)) else (some (0, 10))))))))))
set_option maxHeartbeats 8000000 in
set_option maxRecDepth 100000 in
theorem sawtoothref04_part.calls (a0 : Int) (a1 : Int) (a2 : Int) (a3 : Int) (r1 : Int) (r2 : Int) (w : World) (h : sawtoothref04_part.f a0 a1 a2 a3 = some (r1, r2)) :
  Calls Try.prog 47 #[.int .i64 a0, .int .i64 a1, .int .i64 a2, .int .i64 a3] w fun e w' => e = .returned (.tuple #[.int .i64 r1, .int .i64 r2]) ∧ Below w.heap.size w w' := by
 have hu58 := Try.underlying58; have HB := Aside0.mk (Below.refl w.heap.size w); have H : (if a2 < 1 then (some (0, 20)) else ((sawtoothref02_MulS.f a0 a1).bind fun bt435 => ((sawtoothref02_OfS.f a3).bind fun bt438 => ((sawtoothref02_AddS.f bt435.1 bt435.2.1 bt435.2.2 bt438.1 bt438.2.1 bt438.2.2).bind fun bt441 => ((sawtoothref02_DivS.f bt441.1 bt441.2.1 bt441.2.2.1 (IntKind.u64.wrap (a2))).bind fun bt446 => ((sawtoothref02_IntS.f bt446.1 bt446.2.1 bt446.2.2.1).bind fun t452 => ((sawtoothref02_OfS.f t452).bind fun bt453 => ((sawtoothref02_CmpS.f bt446.1 bt446.2.1 bt446.2.2.1 bt453.1 bt453.2.1 bt453.2.2).bind fun t456 => (if t456 = 0 then (some (t452, 0)) else (some (0, 10))))))))))) = some (r1, r2) := h; clear h
 by_cases c5 : a2 < 1
 ·rw [if_pos c5] at H
  have c5b0 : decide (a2 < 1) = true := decide_eq_true c5; clear c5; simp only [Option.some.injEq, Prod.mk.injEq] at H; obtain ⟨rfl, rfl⟩ := H
  go_enter Try.func47, Try.ntmps47
  go_wp2
  go_ret2
  exact ⟨by first | rfl | (simp [errW_none, errW_some] <;> rfl) | (simp [*, errW_none, errW_some] <;> rfl), by repeat (first | (with_reducible first | exact HB.out | apply below_alloc | apply pw_below_drewN | apply below_drew1) | exact HB.out)⟩
 ·rw [if_neg c5] at H
  have c5b0 : decide (a2 < 1) = false := decide_eq_false c5; clear c5; replace H := Option.bind_eq_some_iff.mp H; obtain ⟨⟨t435, t436, t437⟩, A60, H⟩ := H; (try dsimp only at H); have A6 := Aside0.mk A60; clear A60; replace H := Option.bind_eq_some_iff.mp H; obtain ⟨⟨t438, t439, t440⟩, A70, H⟩ := H; (try dsimp only at H); have A7 := Aside0.mk A70; clear A70; replace H := Option.bind_eq_some_iff.mp H; obtain ⟨⟨t441, t442, t443, t444⟩, A80, H⟩ := H; (try dsimp only at H); have A8 := Aside0.mk A80; clear A80; replace H := Option.bind_eq_some_iff.mp H; obtain ⟨⟨t446, t447, t448, t449, t450⟩, A90, H⟩ := H; (try dsimp only at H); have A9 := Aside0.mk A90; clear A90; replace H := Option.bind_eq_some_iff.mp H; obtain ⟨t452, A100, H⟩ := H; (try dsimp only at H); have A10 := Aside0.mk A100; clear A100; replace H := Option.bind_eq_some_iff.mp H; obtain ⟨⟨t453, t454, t455⟩, A110, H⟩ := H; replace H : ((sawtoothref02_CmpS.f t446 t447 t448 t453 t454 t455).bind fun t456 => (if t456 = 0 then (some (t452, 0)) else (some (0, 10)))) = some (r1, r2) := H; have A11 := Aside0.mk A110; clear A110; replace H := Option.bind_eq_some_iff.mp H; obtain ⟨t456, A120, H⟩ := H; replace H : (if t456 = 0 then (some (t452, 0)) else (some (0, 10))) = some (r1, r2) := H; have A12 := Aside0.mk A120; clear A120
  go_enter Try.func47, Try.ntmps47
  try go_wp2_with (first | ((with_reducible refine gate_callee (f := 54) rfl ?_); refine goesLA_ (some 21) rfl rfl Try.func54 rfl #[.int .i64 a0, .int .i64 a1] rfl ?_; (with_reducible refine (sawtoothref02_MulS.calls a0 a1 t435 t436 t437 _ A6.out).mono ?_); rintro e w14 ⟨rfl, hb⟩; refine ⟨_, rfl, ?_⟩; replace HB := stA hb; clear hb) | ((with_reducible refine gate_callee (f := 55) rfl ?_); refine goesLA_ (some 23) rfl rfl Try.func55 rfl #[.int .i64 a3] rfl ?_; (with_reducible refine (sawtoothref02_OfS.calls a3 t438 t439 t440 _ A7.out).mono ?_); rintro e w15 ⟨rfl, hb⟩; refine ⟨_, rfl, ?_⟩; replace HB := stA hb; clear hb) | ((with_reducible refine gate_callee (f := 53) rfl ?_); refine goesLA_ (some 24) rfl rfl Try.func53 rfl #[.agg #[.bool t435, .int .u64 t436, .int .u64 t437], .agg #[.bool t438, .int .u64 t439, .int .u64 t440]] rfl ?_; (with_reducible refine (sawtoothref02_AddS.calls t435 t436 t437 t438 t439 t440 t441 t442 t443 t444 _ A8.out).mono ?_); rintro e w16 ⟨rfl, hb⟩; refine ⟨_, rfl, ?_⟩; replace HB := stA hb; clear hb) | ((with_reducible refine gate_dst (N := 10) rfl ?_); refine box_event ?hg (N := 10) ?hd (cs := #[.bool false, .int .u64 0, .int .u64 0]) (t := 58) ?hr ?_; (case hd => rfl); (case hg => rfl); (case hr => first | (go_simp; done) | (go_simp; rfl)); intro gb445 hg w17 hbox hb; have BK445 := Aside0.mk (hbox); obtain ⟨GW445, nHB⟩ := geA hg hb; have GE445 := GW445; replace HB := nHB; clear nHB; clear hb hbox hg; have hcz18_0 := czZ BK445 0 (.bool false); have hcz18_1 := czZ BK445 1 (.int .u64 0); have hcz18_2 := czZ BK445 2 (.int .u64 0); have hfz18_0 := blk_frozen BK445.out 0; have hfz18_1 := blk_frozen BK445.out 1; have hfz18_2 := blk_frozen BK445.out 2) | ((with_reducible refine gate_callee (f := 56) rfl ?_); refine goesLA_ (some 31) rfl rfl Try.func56 rfl #[.agg #[.bool t441, .int .u64 t442, .int .u64 t443], .int .u64 (IntKind.u64.wrap (a2))] rfl ?_; (with_reducible refine (sawtoothref02_DivS.calls t441 t442 t443 (IntKind.u64.wrap (a2)) t446 t447 t448 t449 t450 _ A9.out).mono ?_); rintro e w19 ⟨rfl, hb⟩; refine ⟨_, rfl, ?_⟩; replace BK445 := Aside0.mk (blk_below (g := gb445) (o := .cells #[.bool t441, .int .u64 t442, .int .u64 t443] 58 (0, 0)) (by (with_reducible repeat first | apply blk_drewN | apply blk_drew | apply blk_alloc); refine blk_put (cs := #[.bool t441, .int .u64 t442, .int .u64 0]) ?_ 2 _ rfl; (with_reducible repeat first | apply blk_drewN | apply blk_drew | apply blk_alloc); refine blk_put (cs := #[.bool t441, .int .u64 0, .int .u64 0]) ?_ 1 _ rfl; (with_reducible repeat first | apply blk_drewN | apply blk_drew | apply blk_alloc); refine blk_put (cs := #[.bool false, .int .u64 0, .int .u64 0]) ?_ 0 _ rfl; (with_reducible repeat first | apply blk_drewN | apply blk_drew | apply blk_alloc); exact BK445.out) hb); replace HB := stA hb; clear hb) | ((with_reducible refine gate_dst (N := 12) rfl ?_); refine box_event ?hg (N := 12) ?hd (cs := #[.bool false, .int .u64 0, .int .u64 0]) (t := 58) ?hr ?_; (case hd => rfl); (case hg => rfl); (case hr => first | (go_simp; done) | (go_simp; rfl)); intro gb451 hg w20 hbox hb; have BK451 := Aside0.mk (hbox); obtain ⟨GW451, nHB⟩ := geA hg hb; have GE451 := GW451; obtain ⟨NB445_451, NB451_445, nBK⟩ := nbA BK445 hg hb; replace BK445 := nBK; clear nBK; replace HB := nHB; clear nHB; clear hb hbox hg; have hnb21 := NB451_445.out; have hnc21 := NB445_451.out; have hcz22_0 := czZ BK451 0 (.bool false); have hcz22_1 := czZ BK451 1 (.int .u64 0); have hcz22_2 := czZ BK451 2 (.int .u64 0); have hfz22_0 := blk_frozen BK451.out 0; have hfz22_1 := blk_frozen BK451.out 1; have hfz22_2 := blk_frozen BK451.out 2) | ((with_reducible refine gate_callee (f := 57) rfl ?_); refine goesLA_ (some 36) rfl rfl Try.func57 rfl #[.agg #[.bool t446, .int .u64 t447, .int .u64 t448]] rfl ?_; (with_reducible refine (sawtoothref02_IntS.calls t446 t447 t448 t452 _ A10.out).mono ?_); rintro e w23 ⟨rfl, hb⟩; refine ⟨_, rfl, ?_⟩; replace BK445 := bfZ BK445 (fun h_ => by (with_reducible repeat first | apply blk_drewN | apply blk_drew | apply blk_alloc | refine farZ ?_ NB445_451 _); exact h_) hb; replace BK451 := Aside0.mk (blk_below (g := gb451) (o := .cells #[.bool t446, .int .u64 t447, .int .u64 t448] 58 (0, 0)) (by (with_reducible repeat first | apply blk_drewN | apply blk_drew | apply blk_alloc); refine blk_put (cs := #[.bool t446, .int .u64 t447, .int .u64 0]) ?_ 2 _ rfl; (with_reducible repeat first | apply blk_drewN | apply blk_drew | apply blk_alloc); refine blk_put (cs := #[.bool t446, .int .u64 0, .int .u64 0]) ?_ 1 _ rfl; (with_reducible repeat first | apply blk_drewN | apply blk_drew | apply blk_alloc); refine blk_put (cs := #[.bool false, .int .u64 0, .int .u64 0]) ?_ 0 _ rfl; (with_reducible repeat first | apply blk_drewN | apply blk_drew | apply blk_alloc); exact BK451.out) hb); replace HB := stA hb; clear hb))
  replace BK445 := Aside0.mk (blk_drew BK445.out); replace BK451 := Aside0.mk (blk_drew BK451.out); replace HB := Aside0.mk (below_drew1 HB.out); refine start_ (n := 5) (S := fun w' => w'.cell? ⟨gb451, 0, none⟩ = some (.bool t446) ∧ w'.cell? ⟨gb451, 1, none⟩ = some (.int .u64 t447) ∧ w'.cell? ⟨gb451, 2, none⟩ = some (.int .u64 t448)) (ds := []) #[N,N,N,N,N] (by kernel_rfl) rfl rfl ⟨(blk_cell BK451.out 0).trans rfl, (blk_cell BK451.out 1).trans rfl, (blk_cell BK451.out 2).trans rfl⟩ (fun hHeld => ?_)
  generalize w23.drew = w24 at BK445 BK451 HB hHeld ⊢
  refine pureA_ (i := 1) (N := some 38) #[N,Y,N,N,N] rfl rfl (by kernel_rfl) ?_
  refine take_ (i := 0) (N := some 37) (v := ?_) (a' := ?_) #[Y,Y,N,N,N] rfl rfl (by kernel_rfl) (fun _ _ _ h => h) (Or.inl ⟨by rfl, ?_⟩) hHeld ?_ ?_; rotate_left
  ·rintro w' ⟨s0, s1, s2⟩; go_simp
   with_reducible rfl
  rotate_left
  ·simp only [Act.put, sA, sB, sC, i64_w, i32_w]
   rfl
  refine one_ (i := 2) (N := some 39) #[Y,Y,Y,N,N] rfl rfl (by kernel_rfl) (by decide) (fun K hK => ?_); refine goesA_ Try.func55 rfl #[.int .i64 t452] (by rfl) rfl rfl ?_
  with_reducible refine (sawtoothref02_OfS.calls t452 t453 t454 t455 _ A11.out).mono ?_
  rintro e w25 ⟨rfl, hb⟩; refine ⟨_, rfl, ?_⟩; replace BK445 := bbZ BK445 hb; replace BK451 := bbZ BK451 hb; replace HB := Aside0.mk (below_step HB.out hb); clear hb; refine hK.out _ _ ⟨(blk_cell BK451.out 0).trans rfl, (blk_cell BK451.out 1).trans rfl, (blk_cell BK451.out 2).trans rfl⟩ (fun hHeld => ?_); clear hK K; refine normA_ (some 39) ?_
  refine one_ (i := 3) (N := some 40) #[Y,Y,Y,Y,N] rfl rfl (by kernel_rfl) (by decide) (fun K hK => ?_); refine goesA_ Try.func58 rfl #[.agg #[.bool t446, .int .u64 t447, .int .u64 t448], .agg #[.bool t453, .int .u64 t454, .int .u64 t455]] (by rfl) rfl rfl ?_
  with_reducible refine (sawtoothref02_CmpS.calls t446 t447 t448 t453 t454 t455 t456 _ A12.out).mono ?_
  rintro e w26 ⟨rfl, hb⟩; refine ⟨_, rfl, ?_⟩; replace BK445 := bbZ BK445 hb; replace BK451 := bbZ BK451 hb; replace HB := Aside0.mk (below_step HB.out hb); clear hb; refine hK.out _ _ ⟨(blk_cell BK451.out 0).trans rfl, (blk_cell BK451.out 1).trans rfl, (blk_cell BK451.out 2).trans rfl⟩ (fun hHeld => ?_); clear hK K; refine normA_ (some 40) ?_
  refine pureA_ (i := 4) (N := some 41) #[Y,Y,Y,Y,Y] rfl rfl (by kernel_rfl) ?_
  refine done_ (by kernel_rfl) ?_
  by_cases c13 : t456 = 0
  ·rw [if_pos c13] at H
   have c13b0 : (t456 == 0) = true := beq_iff_eq.mpr c13; have c13b1 : (t456 != 0) = false := bne_eq_false_iff_eq.mpr c13; clear c13; simp only [Option.some.injEq, Prod.mk.injEq] at H; obtain ⟨rfl, rfl⟩ := H
   try go_wp2
   go_ret2
   exact ⟨by first | rfl | (simp [errW_none, errW_some] <;> rfl) | (simp [*, errW_none, errW_some] <;> rfl), by repeat (first | (with_reducible first | exact HB.out | apply below_alloc | apply pw_below_drewN | apply below_drew1 | refine below_set ?_ (Aside0.out (by assumption))) | exact HB.out)⟩
  ·rw [if_neg c13] at H
   have c13b0 : (t456 == 0) = false := beq_eq_false_iff_ne.mpr c13; have c13b1 : (t456 != 0) = true := bne_iff_ne.mpr c13; simp only [Option.some.injEq, Prod.mk.injEq] at H; obtain ⟨rfl, rfl⟩ := H
   try go_wp2
   go_ret2
   exact ⟨by first | rfl | (simp [errW_none, errW_some] <;> rfl) | (simp [*, errW_none, errW_some] <;> rfl), by repeat (first | (with_reducible first | exact HB.out | apply below_alloc | apply pw_below_drewN | apply below_drew1 | refine below_set ?_ (Aside0.out (by assumption))) | exact HB.out)⟩

/-! ### sawtoothref04_partS: a part of a product, and some more: pure, behind function 47 -/
noncomputable def sawtoothref04_partS.f (a b c d : Int) : Option (Int × Int) := Go.Proofs.Ytidpdaiolkcgnaa.Sp.need (Go.Proofs.Ytidpdaiolkcgnaa.Sp.I a ∧ Go.Proofs.Ytidpdaiolkcgnaa.Sp.I b ∧ Go.Proofs.Ytidpdaiolkcgnaa.Sp.I c ∧ Go.Proofs.Ytidpdaiolkcgnaa.Sp.I d) (if c < 1 then some (0, 20) else Go.Proofs.Ytidpdaiolkcgnaa.Sp.fit ((a * b + d) / c))
section Ref04Part
open Go.Proofs.Ytidpdaiolkcgnaa.Sp
theorem sawtoothref04_partS.eq {a b c d : Int} (h1 : I a) (h2 : I b) (h3 : I c) (h4 : I d) : sawtoothref04_partS.f a b c d = if c < 1 then some (0, 20) else fit ((a * b + d) / c) := need_pos ⟨h1, h2, h3, h4⟩
theorem sawtoothref04_part.main {a b c d : Int} (h1 : I a) (h2 : I b) (h3 : I c) (h4 : I d) : sawtoothref04_part.f a b c d = if c < 1 then some (0, 20) else fit ((a * b + d) / c) := by
 unfold sawtoothref04_part.f sawtoothref02_MulS.f sawtoothref02_OfS.f sawtoothref02_AddS.f sawtoothref02_DivS.f sawtoothref02_IntS.f sawtoothref02_CmpS.f
 by_cases hc : c < 1
 ·rw [if_pos hc, if_pos hc]
 have m := mulI h1 h2
 rw [if_neg hc, if_neg hc, mulF_eq h1 h2, ofF_eq h4]
 simp only [Option.bind_some]
 rw [addF_enc (by omega) (by omega), held_in (by omega), u64w_in (x := c) (by omega)]
 simp only [Option.bind_some]
 have hB : B (a * b + d) := by omega
 rw [divF_enc hB (by omega), quo_pos (by omega)]
 simp only [Option.bind_some]; have hq := div_B hB (show 0 < c by omega)
 generalize (a * b + d) / c = q at *
 rw [intF_enc hq]
 simp only [Option.bind_some]
 rw [ofF_eq (near_I _)]
 simp only [Option.bind_some]
 rw [cmpF_enc hq (I_B (near_I _))]
 simp only [Option.bind_some]
 unfold fit
 by_cases hi : I q
 ·rw [near_in hi, cmpI_eq rfl, if_pos rfl, if_pos hi]
 ·rw [if_neg hi, if_neg]
  unfold cmpI near
  split
  ·omega
  ·split
   ·have := near_I q; unfold near at this; split at * <;> (try split at *) <;> omega
   ·omega
end Ref04Part
theorem sawtoothref04_partS.calls (a b c d r1 r2 : Int) (w : World) (h : sawtoothref04_partS.f a b c d = some (r1, r2)) :
  Calls Try.prog 47 #[.int .i64 a, .int .i64 b, .int .i64 c, .int .i64 d] w fun e w' => e = .returned (.tuple #[.int .i64 r1, .int .i64 r2]) ∧ Below w.heap.size w w' := by
 obtain ⟨⟨h1, h2, h3, h4⟩, h⟩ := Go.Proofs.Ytidpdaiolkcgnaa.Sp.need_some h; exact sawtoothref04_part.calls a b c d r1 r2 w (by rw [sawtoothref04_part.main h1 h2 h3 h4]; exact h)

/-! ### sawtoothref04_Ceil: function 33 -/
noncomputable def sawtoothref04_Ceil.f (a0 : Int) (a1 : Int) (a2 : Int) : Option (Int × Int) := (sawtoothref04_partS.f a0 a1 a2 (wrap64 ((mx a2 1) - 1))).bind fun bt457 => (some (bt457.1, bt457.2))
set_option maxHeartbeats 8000000 in
set_option maxRecDepth 100000 in
theorem sawtoothref04_Ceil.calls (a0 : Int) (a1 : Int) (a2 : Int) (r1 : Int) (r2 : Int) (w : World) (h : sawtoothref04_Ceil.f a0 a1 a2 = some (r1, r2)) :
  Calls Try.prog 33 #[.int .i64 a0, .int .i64 a1, .int .i64 a2] w fun e w' => e = .returned (.tuple #[.int .i64 r1, .int .i64 r2]) ∧ Below w.heap.size w w' := by
 have HB := Aside0.mk (Below.refl w.heap.size w); have H : ((sawtoothref04_partS.f a0 a1 a2 (wrap64 ((mx a2 1) - 1))).bind fun bt457 => (some (bt457.1, bt457.2))) = some (r1, r2) := h; clear h
 obtain ⟨ji4, hji4⟩ : ∃ j_ : Int, (mx a2 1) = j_ := ⟨_, rfl⟩
 replace H : ((sawtoothref04_partS.f a0 a1 a2 (wrap64 ((ji4) - 1))).bind fun bt457 => (some (bt457.1, bt457.2))) = some (r1, r2) := by first | (rw [hji4] at H; exact H) | (simp only [hji4] at H ⊢; exact H)
 (try (have hji4l : 1 ≤ ji4 := by (rw [← hji4]; unfold mx; (repeat' split) <;> omega)))
 (try (have hji4m : 0 ≤ ji4 := by omega))
 have hji4_ : (if a2 < 1 then 1 else a2) = ji4 := hji4; replace H := Option.bind_eq_some_iff.mp H; obtain ⟨⟨t457, t458⟩, A50, H⟩ := H; replace H : (some (t457, t458)) = some (r1, r2) := H; have A5 := Aside0.mk A50; clear A50; simp only [Option.some.injEq, Prod.mk.injEq] at H; obtain ⟨rfl, rfl⟩ := H
 go_enter Try.func33, Try.ntmps33
 go_wp2_with (first | ((with_reducible refine gate_callee (f := 47) rfl ?_); refine goesL_ (some 14) rfl rfl Try.func47 (by kernel_rfl) rfl #[.int .i64 a0, .int .i64 a1, .int .i64 a2, .int .i64 (wrap64 ((ji4) - 1))] rfl (by (try simp only [List.map_toArray, List.map_cons, List.map_nil]); first | done | (simp only [hji4]; rfl) | rfl | (simp only [List.length_drop, List.length_take]; rfl)) ?_; (with_reducible refine (sawtoothref04_partS.calls a0 a1 a2 (wrap64 ((ji4) - 1)) t457 t458 _ A5.out).mono ?_); rintro e w6 ⟨rfl, hb⟩; refine ⟨_, rfl, ?_⟩; replace HB := stA hb; clear hb))
 go_ret2
 exact ⟨by first | rfl | (simp [errW_none, errW_some] <;> rfl) | (simp only [← hji4]; first | rfl | (simp [errW_none, errW_some] <;> rfl)) | (simp [*, errW_none, errW_some] <;> rfl), by repeat (first | (with_reducible first | exact HB.out | apply below_alloc | apply pw_below_drewN | apply below_drew1) | exact HB.out)⟩

/-! ### sawtoothref04_CeilS: a part of a product, from above: pure, behind function 33 -/
noncomputable def sawtoothref04_CeilS.f (a b c : Int) : Option (Int × Int) := Go.Proofs.Ytidpdaiolkcgnaa.Sp.need (Go.Proofs.Ytidpdaiolkcgnaa.Sp.I a ∧ Go.Proofs.Ytidpdaiolkcgnaa.Sp.I b ∧ Go.Proofs.Ytidpdaiolkcgnaa.Sp.I c) (Go.Proofs.Ytidpdaiolkcgnaa.Sp.ceilQ a b c)
section
open Go.Proofs.Ytidpdaiolkcgnaa.Sp
theorem sawtoothref04_CeilS.eq {a b c : Int} (h1 : I a) (h2 : I b) (h3 : I c) : sawtoothref04_CeilS.f a b c = ceilQ a b c := need_pos ⟨h1, h2, h3⟩
theorem sawtoothref04_Ceil.main {a b c : Int} (h1 : I a) (h2 : I b) (h3 : I c) : sawtoothref04_Ceil.f a b c = ceilQ a b c := by
 unfold sawtoothref04_Ceil.f
 have e : wrap64 (mx c 1 - 1) = if c < 1 then 0 else c - 1 := by unfold mx wrap64; (repeat' split) <;> omega
 have e2 : I (if c < 1 then 0 else c - 1) := by split <;> omega
 rw [e, sawtoothref04_partS.eq h1 h2 h3 e2]
 rw [show ∀ x : Option (Int × Int), (x.bind fun bt => some (bt.1, bt.2)) = x from fun x => by cases x <;> rfl]
 unfold ceilQ
 by_cases hc : c < 1
 ·rw [if_pos hc, if_pos hc]
 ·rw [if_neg hc, if_neg hc, if_neg hc, ceil_up _ (by omega)]
end
theorem sawtoothref04_CeilS.calls (a b c r1 r2 : Int) (w : World) (h : sawtoothref04_CeilS.f a b c = some (r1, r2)) :
  Calls Try.prog 33 #[.int .i64 a, .int .i64 b, .int .i64 c] w fun e w' => e = .returned (.tuple #[.int .i64 r1, .int .i64 r2]) ∧ Below w.heap.size w w' := by
 obtain ⟨⟨h1, h2, h3⟩, h⟩ := Go.Proofs.Ytidpdaiolkcgnaa.Sp.need_some h; exact sawtoothref04_Ceil.calls a b c r1 r2 w (by rw [sawtoothref04_Ceil.main h1 h2 h3]; exact h)

/-! ### sawtoothref18_Wait: function 17 -/
noncomputable def sawtoothref18_Wait.j0 : Nat → Int → Int → Bool → Int → Int → Option (Int)
 | 0, _, _, _, _, _ => none
 | k + 1, x2, x8, x23, x460000, x460001 => if x23 = true then (some 0) else (if x2 < 1 then (some 1099511627776) else ((sawtoothref18_taken.f x2).bind fun t462 => ((sawtoothref04_CeilS.f (wrap64 (x8 - x460001)) 1 t462).bind fun bt463 => (if bt463.1 > 1099511627776 then (some 1099511627776) else (some bt463.1)))))
noncomputable def sawtoothref18_Wait.f (k : Nat) (a0_0 : Int) (a0_1 : Int) (a1 : Int) (a2 : Int) : Option (Int) := (sawtoothref18_CheckS.f a0_0 a0_1).bind fun t460 => ((sawtoothref01_MulS.f (mx a1 0) 1000000).bind fun t461 => (if t460 = true then (sawtoothref18_Wait.j0 k a2 t461 (decide (t461 ≤ a0_1)) a0_0 a0_1) else (sawtoothref18_Wait.j0 k a2 t461 true a0_0 a0_1)))
theorem sawtoothref18_Wait.mono_l : ∀ k, (∀ y0 y1 y2 y3 y4, LeO (sawtoothref18_Wait.j0 k y0 y1 y2 y3 y4) (sawtoothref18_Wait.j0 (k + 1) y0 y1 y2 y3 y4))
 | 0 => fun _ _ _ _ _ r h => by simp [sawtoothref18_Wait.j0] at h
 | k + 1 => by
  have ih0 := sawtoothref18_Wait.mono_l k
  ·intro y0 y1 y2 y3 y4
   unfold sawtoothref18_Wait.j0
   repeat' first
   | (with_reducible exact ih0 _ _ _ _ _)
   | (with_reducible exact LeO.refl _)
   | (with_reducible exact LeO.none _)
   | (with_reducible refine LeO.ite ?_ ?_)
   | (with_reducible refine LeO.bind ?_ (fun _ => ?_))
   | exact ih0 _ _ _ _ _
   | exact LeO.none _
   | refine LeO.ite ?_ ?_
   | refine LeO.bind ?_ (fun _ => ?_)
theorem sawtoothref18_Wait.mono : ∀ a0 a1 a2 a3 k, LeO (sawtoothref18_Wait.f k a0 a1 a2 a3) (sawtoothref18_Wait.f (k + 1) a0 a1 a2 a3) := by
 intro a0 a1 a2 a3 k; have ih0 := sawtoothref18_Wait.mono_l k
 unfold sawtoothref18_Wait.f
 repeat' first
   | (with_reducible exact ih0 _ _ _ _ _)
   | (with_reducible exact LeO.refl _)
   | (with_reducible exact LeO.none _)
   | (with_reducible refine LeO.ite ?_ ?_)
   | (with_reducible refine LeO.bind ?_ (fun _ => ?_))
   | exact ih0 _ _ _ _ _
   | exact LeO.none _
   | refine LeO.ite ?_ ?_
   | refine LeO.bind ?_ (fun _ => ?_)
def sawtoothref18_Wait.T7 : Bool × List (List Nat × List Nat) := (true, [([], []), ([], []), ([1], [1]), ([0, 2], [0, 2]), ([], []), ([4], [4]), ([3, 5, 5], [3, 5]), ([6], [6]), ([7], [7]), ([7], [7]), ([8, 6, 0, 1, 2, 3, 4, 5, 6, 7, 8], [8]), ([9, 10, 0, 1, 2, 3, 4, 5, 6, 7, 8, 9, 10], [9])])
def sawtoothref18_Wait.B7 : List Nat := [0, 0, 2, 7, 0, 16, 63, 127, 255, 255, 511, 2047]
theorem sawtoothref18_Wait.tab7 : rtab .any (opsOf Try.f17 7) = sawtoothref18_Wait.T7 := by kernel_rfl
theorem sawtoothref18_Wait.bits7 : waitsOk sawtoothref18_Wait.T7.2 sawtoothref18_Wait.B7 = true := by kernel_rfl
set_option maxHeartbeats 8000000 in
set_option maxRecDepth 100000 in
theorem sawtoothref18_Wait.calls (k : Nat) (a0_0 : Int) (a0_1 : Int) (a1 : Int) (a2 : Int) (r : Int) (w : World) (h : sawtoothref18_Wait.f k a0_0 a0_1 a1 a2 = some r) :
  Calls Try.prog 17 #[.agg #[.int .i64 a0_0, .int .i64 a0_1], .int .i64 a1, .int .i64 a2] w fun e w' => e = .returned (.int .i64 r) ∧ Below w.heap.size w w' := by
 have hu23 := Try.underlying23; have HB := Aside0.mk (Below.refl w.heap.size w); have H : ((sawtoothref18_CheckS.f a0_0 a0_1).bind fun t460 => ((sawtoothref01_MulS.f (mx a1 0) 1000000).bind fun t461 => (if t460 = true then (sawtoothref18_Wait.j0 k a2 t461 (decide (t461 ≤ a0_1)) a0_0 a0_1) else (sawtoothref18_Wait.j0 k a2 t461 true a0_0 a0_1)))) = some r := h; clear h; replace H := Option.bind_eq_some_iff.mp H; obtain ⟨t460, A40, H⟩ := H; (try dsimp only at H); have A4 := Aside0.mk A40; clear A40
 obtain ⟨ji5, hji5⟩ : ∃ j_ : Int, (mx a1 0) = j_ := ⟨_, rfl⟩
 replace H : ((sawtoothref01_MulS.f (ji5) 1000000).bind fun t461 => (if t460 = true then (sawtoothref18_Wait.j0 k a2 t461 (decide (t461 ≤ a0_1)) a0_0 a0_1) else (sawtoothref18_Wait.j0 k a2 t461 true a0_0 a0_1))) = some r := by first | (rw [hji5] at H; exact H) | (simp only [hji5] at H ⊢; exact H)
 (try rw [hji5] at A4)
 (try (have hji5l : 0 ≤ ji5 := by (rw [← hji5]; unfold mx; (repeat' split) <;> omega)))
 (try (have hji5m : 0 ≤ ji5 := by omega))
 have hji5_ : (if a1 < 0 then 0 else a1) = ji5 := hji5; replace H := Option.bind_eq_some_iff.mp H; obtain ⟨t461, A60, H⟩ := H; replace H : (if t460 = true then (sawtoothref18_Wait.j0 k a2 t461 (decide (t461 ≤ a0_1)) a0_0 a0_1) else (sawtoothref18_Wait.j0 k a2 t461 true a0_0 a0_1)) = some r := H; have A6 := Aside0.mk A60; clear A60; have HC7 := Aside0.mk H; clear H
 go_enter Try.func17, Try.ntmps17
 go_upto_region 3 with (first | ((with_reducible refine gate_dst (N := 3) rfl ?_); refine box_event ?hg (N := 3) ?hd (cs := #[.int .i64 a0_0, .int .i64 a0_1]) (t := 23) ?hr ?_; (case hd => rfl); (case hg => rfl); (case hr => first | (go_simp; done) | (go_simp; rfl)); intro gb459 hg w8 hbox hb; have BK459 := Aside0.mk (hbox); obtain ⟨GW459, nHB⟩ := geA hg hb; have GE459 := GW459; replace HB := nHB; clear nHB; clear hb hbox hg; have hcz9_0 := czZ BK459 0 (.int .i64 a0_0); have hcz9_1 := czZ BK459 1 (.int .i64 a0_1); have hfz9_0 := blk_frozen BK459.out 0; have hfz9_1 := blk_frozen BK459.out 1) | ((with_reducible refine gate_callee (f := 15) rfl ?_); refine goesLA_ (some 12) rfl rfl Try.func15 rfl #[.agg #[.int .i64 a0_0, .int .i64 a0_1]] rfl ?_; (with_reducible refine (sawtoothref18_CheckS.calls a0_0 a0_1 t460 _ A4.out).mono ?_); rintro e w10 ⟨rfl, hb⟩; refine ⟨_, rfl, ?_⟩; replace BK459 := bdZ BK459 hb; replace HB := stA hb; clear hb) | ((with_reducible refine gate_callee (f := 26) rfl ?_); refine goesL_ (some 15) rfl rfl Try.func26 (by kernel_rfl) rfl #[.int .i64 ji5, .int .i64 1000000] rfl (by (try simp only [List.map_toArray, List.map_cons, List.map_nil]); first | done | (simp only [hji5]; rfl) | rfl | (simp only [List.length_drop, List.length_take]; rfl)) ?_; (with_reducible refine (sawtoothref01_MulS.calls ji5 1000000 t461 _ A6.out).mono ?_); rintro e w11 ⟨rfl, hb⟩; refine ⟨_, rfl, ?_⟩; replace BK459 := bdZ BK459 hb; replace HB := stA hb; clear hb))
 (try simp only [Act.put, sA, sB, sC])
 go_cut [23] (fun v23 wc => ∃ (kq : Nat) (x23_6 : Bool), v23 = .bool x23_6 ∧ Aside0 (sawtoothref18_Wait.j0 kq a2 t461 x23_6 a0_0 a0_1 = some r) ∧ Aside0 (kq ≤ k) ∧ Aside0 (wc.heap[gb459]? = some (.cells #[.int .i64 a0_0, .int .i64 a0_1] 23 (0, 0))) ∧ Aside0 (Below w.heap.size w wc))
 case first =>
  have H := HC7.out; clear HC7
  by_cases c12 : t460 = true
  ·subst c12
   have H1 : (sawtoothref18_Wait.j0 k a2 t461 (decide (t461 ≤ a0_1)) a0_0 a0_1) = some r := by rw [if_pos rfl] at H; exact H
   clear H; have H := H1; clear H1; have H' := Aside0.mk H; clear H; have hcz13_0 := czZ BK459 0 (.int .i64 a0_0); have hcz13_1 := czZ BK459 1 (.int .i64 a0_1); have hfz13_0 := blk_frozen BK459.out 0; have hfz13_1 := blk_frozen BK459.out 1
   go_wp2
   go_meet
   case rel => exact ⟨_, (decide (t461 ≤ a0_1)), (by first | rfl | (simp; done) | (simp [*]; done)), H', ⟨by first | omega | exact Nat.le_refl _⟩, ⟨by (with_reducible repeat first | apply blk_drewN | apply blk_drew | apply blk_alloc); exact BK459.out⟩, ⟨by repeat (first | (with_reducible first | exact HB.out | apply below_alloc | apply pw_below_drewN | apply below_drew1 | refine below_set ?_ GE459.out) | exact HB.out)⟩⟩
  ·replace c12 := Bool.eq_false_iff.mpr c12
   subst c12
   have H1 : (sawtoothref18_Wait.j0 k a2 t461 true a0_0 a0_1) = some r := by rw [if_neg (show ¬ (false = true) by decide)] at H; exact H
   clear H; have H := H1; clear H1; have H' := Aside0.mk H; clear H
   go_wp2
   go_meet
   case rel => exact ⟨_, (true), (by first | rfl | (simp; done) | (simp [*]; done)), H', ⟨by first | omega | exact Nat.le_refl _⟩, ⟨by (with_reducible repeat first | apply blk_drewN | apply blk_drew | apply blk_alloc); exact BK459.out⟩, ⟨by repeat (first | (with_reducible first | exact HB.out | apply below_alloc | apply pw_below_drewN | apply below_drew1 | refine below_set ?_ GE459.out) | exact HB.out)⟩⟩
 case rest =>
  clear HC7
  try clear c1
  try clear c2
  try clear p2
  try clear c12
  try clear hcz13_0
  try clear hcz13_1
  try clear hcz9_0
  try clear hcz9_1
  try clear hfz13_0
  try clear hfz13_1
  try clear hfz9_0
  try clear hfz9_1
  obtain ⟨kq, x23_6, rfl, HA, HJ6, BK459, HB⟩ := hcut
  cases kq with
  | zero => exact absurd HA.out (by simp [sawtoothref18_Wait.j0])
  | succ kj6 =>
   have H := HA.out; clear HA; simp only [sawtoothref18_Wait.j0] at H
   by_cases c14 : x23_6 = true
   ·subst c14
    have H1 : (some 0) = some r := by rw [if_pos rfl] at H; exact H
    clear H; have H := H1; clear H1; obtain rfl := Option.some.inj H
    go_wp2
    go_ret
    exact ⟨by first | rfl | (simp [errW_none, errW_some] <;> rfl) | (simp only [← hji5]; first | rfl | (simp [errW_none, errW_some] <;> rfl)) | (simp [*, errW_none, errW_some] <;> rfl), by repeat (first | (with_reducible first | exact HB.out | apply below_alloc | apply pw_below_drewN | apply below_drew1 | refine below_set ?_ GE459.out) | exact HB.out)⟩
   ·replace c14 := Bool.eq_false_iff.mpr c14
    subst c14
    have H1 : (if a2 < 1 then (some 1099511627776) else ((sawtoothref18_taken.f a2).bind fun t462 => ((sawtoothref04_CeilS.f (wrap64 (t461 - a0_1)) 1 t462).bind fun bt463 => (if bt463.1 > 1099511627776 then (some 1099511627776) else (some bt463.1))))) = some r := by rw [if_neg (show ¬ (false = true) by decide)] at H; exact H
    clear H; have H := H1; clear H1
    by_cases c15 : a2 < 1
    ·rw [if_pos c15] at H
     have c15b0 : decide (a2 < 1) = true := decide_eq_true c15; clear c15; obtain rfl := Option.some.inj H
     go_wp2
     go_ret
     exact ⟨by first | rfl | (simp [errW_none, errW_some] <;> rfl) | (simp only [← hji5]; first | rfl | (simp [errW_none, errW_some] <;> rfl)) | (simp [*, errW_none, errW_some] <;> rfl), by repeat (first | (with_reducible first | exact HB.out | apply below_alloc | apply pw_below_drewN | apply below_drew1 | refine below_set ?_ GE459.out) | exact HB.out)⟩
    ·rw [if_neg c15] at H
     have c15b0 : decide (a2 < 1) = false := decide_eq_false c15; clear c15; replace H := Option.bind_eq_some_iff.mp H; obtain ⟨t462, A160, H⟩ := H; replace H : ((sawtoothref04_CeilS.f (wrap64 (t461 - a0_1)) 1 t462).bind fun bt463 => (if bt463.1 > 1099511627776 then (some 1099511627776) else (some bt463.1))) = some r := H; have A16 := Aside0.mk A160; clear A160; replace H := Option.bind_eq_some_iff.mp H; obtain ⟨⟨t463, t464⟩, A170, H⟩ := H; replace H : (if t463 > 1099511627776 then (some 1099511627776) else (some t463)) = some r := H; have A17 := Aside0.mk A170; clear A170
     by_cases c18 : t463 > 1099511627776
     ·rw [if_pos c18] at H
      have c18b0 : decide (1099511627776 < t463) = true := decide_eq_true c18; clear c18; obtain rfl := Option.some.inj H
      try go_wp2
      replace BK459 := Aside0.mk (blk_drew BK459.out); replace HB := Aside0.mk (below_drew1 HB.out); refine start_ (n := 12) (S := fun w' => w'.cell? ⟨gb459, 0, none⟩ = some (.int .i64 a0_0) ∧ w'.cell? ⟨gb459, 1, none⟩ = some (.int .i64 a0_1)) (ds := []) #[N,N,N,N,N,N,N,N,N,N,N,N] (by kernel_rfl) rfl rfl ⟨(blk_cell BK459.out 0).trans rfl, (blk_cell BK459.out 1).trans rfl⟩ (fun hHeld => ?_); refine with_tabW sawtoothref18_Wait.tab7 sawtoothref18_Wait.bits7 (fun HT_ HW_ => ?_)
      generalize wc.drew = w19 at BK459 HB hHeld ⊢
      refine pureA_ (i := 0) (N := some 27) #[Y,N,N,N,N,N,N,N,N,N,N,N] rfl rfl (any_of HT_.out (by kernel_rfl)) ?_
      refine pureA_ (i := 1) (N := some 28) #[Y,Y,N,N,N,N,N,N,N,N,N,N] rfl rfl (any_of HT_.out (by kernel_rfl)) ?_
      refine pureA_ (i := 4) (N := some 31) #[Y,Y,N,N,Y,N,N,N,N,N,N,N] rfl rfl (any_of HT_.out (by kernel_rfl)) ?_
      refine take_ (i := 2) (N := some 29) (v := ?_) (a' := ?_) #[Y,Y,Y,N,Y,N,N,N,N,N,N,N] rfl rfl (take_ofW HT_.out HW_.out (by kernel_rfl)) (fun _ _ _ h => h) (Or.inl ⟨by rfl, ?_⟩) hHeld ?_ ?_; rotate_left
      ·rintro w' ⟨s0, s1⟩; go_simp
       with_reducible rfl
      rotate_left
      ·simp only [Act.put, sA, sB, sC, i64_w, i32_w]
       rfl
      refine pureA_ (i := 3) (N := some 30) #[Y,Y,Y,Y,Y,N,N,N,N,N,N,N] rfl rfl (any_of HT_.out (by kernel_rfl)) ?_
      refine one_ (i := 5) (N := some 32) #[Y,Y,Y,Y,Y,Y,N,N,N,N,N,N] rfl rfl (one_of HT_.out (by kernel_rfl)) (by decide) (fun K hK => ?_); refine goesA_ Try.func27 rfl #[.int .i64 a2] (by rfl) rfl rfl ?_
      with_reducible refine (sawtoothref18_taken.calls a2 t462 _ A16.out).mono ?_
      rintro e w20 ⟨rfl, hb⟩; refine ⟨_, rfl, ?_⟩; replace BK459 := bbZ BK459 hb; replace HB := Aside0.mk (below_step HB.out hb); clear hb; refine hK.out _ _ ⟨(blk_cell BK459.out 0).trans rfl, (blk_cell BK459.out 1).trans rfl⟩ (fun hHeld => ?_); clear hK K; refine normA_ (some 32) ?_
      refine one_ (i := 6) (N := some 33) #[Y,Y,Y,Y,Y,Y,Y,N,N,N,N,N] rfl rfl (one_of HT_.out (by kernel_rfl)) (by decide) (fun K hK => ?_); refine goesA_ Try.func33 rfl #[.int .i64 (wrap64 (t461 - a0_1)), .int .i64 1, .int .i64 t462] (by rfl) rfl rfl ?_
      with_reducible refine (sawtoothref04_CeilS.calls (wrap64 (t461 - a0_1)) 1 t462 t463 t464 _ A17.out).mono ?_
      rintro e w21 ⟨rfl, hb⟩; refine ⟨_, rfl, ?_⟩; replace BK459 := bbZ BK459 hb; replace HB := Aside0.mk (below_step HB.out hb); clear hb; refine hK.out _ _ ⟨(blk_cell BK459.out 0).trans rfl, (blk_cell BK459.out 1).trans rfl⟩ (fun hHeld => ?_); clear hK K; refine normA_ (some 33) ?_
      refine pureA_ (i := 7) (N := some 26) #[Y,Y,Y,Y,Y,Y,Y,Y,N,N,N,N] rfl rfl (any_of HT_.out (by kernel_rfl)) ?_
      refine pureA_ (i := 8) (N := some 34) #[Y,Y,Y,Y,Y,Y,Y,Y,Y,N,N,N] rfl rfl (any_of HT_.out (by kernel_rfl)) ?_
      refine pureA_ (i := 9) (N := some 35) #[Y,Y,Y,Y,Y,Y,Y,Y,Y,Y,N,N] rfl rfl (any_of HT_.out (by kernel_rfl)) ?_
      refine pureA_ (i := 10) (N := some 9) #[Y,Y,Y,Y,Y,Y,Y,Y,Y,Y,Y,N] rfl rfl (any_of HT_.out (by kernel_rfl)) ?_
      refine pureA_ (i := 11) (N := some 10) #[Y,Y,Y,Y,Y,Y,Y,Y,Y,Y,Y,Y] rfl rfl (any_of HT_.out (by kernel_rfl)) ?_
      refine done_ (done_of HT_.out (by kernel_rfl)) ?_
      try go_wp2
      go_ret
      exact ⟨by first | rfl | (simp [errW_none, errW_some] <;> rfl) | (simp only [← hji5]; first | rfl | (simp [errW_none, errW_some] <;> rfl)) | (simp [*, errW_none, errW_some] <;> rfl), by repeat (first | (with_reducible first | exact HB.out | apply below_alloc | apply pw_below_drewN | apply below_drew1 | refine below_set ?_ GE459.out) | exact HB.out)⟩
     ·rw [if_neg c18] at H
      have c18b0 : decide (1099511627776 < t463) = false := decide_eq_false c18; clear c18; obtain rfl := Option.some.inj H
      try go_wp2
      replace BK459 := Aside0.mk (blk_drew BK459.out); replace HB := Aside0.mk (below_drew1 HB.out); refine start_ (n := 12) (S := fun w' => w'.cell? ⟨gb459, 0, none⟩ = some (.int .i64 a0_0) ∧ w'.cell? ⟨gb459, 1, none⟩ = some (.int .i64 a0_1)) (ds := []) #[N,N,N,N,N,N,N,N,N,N,N,N] (by kernel_rfl) rfl rfl ⟨(blk_cell BK459.out 0).trans rfl, (blk_cell BK459.out 1).trans rfl⟩ (fun hHeld => ?_); refine with_tabW sawtoothref18_Wait.tab7 sawtoothref18_Wait.bits7 (fun HT_ HW_ => ?_)
      generalize wc.drew = w22 at BK459 HB hHeld ⊢
      refine pureA_ (i := 0) (N := some 27) #[Y,N,N,N,N,N,N,N,N,N,N,N] rfl rfl (any_of HT_.out (by kernel_rfl)) ?_
      refine pureA_ (i := 1) (N := some 28) #[Y,Y,N,N,N,N,N,N,N,N,N,N] rfl rfl (any_of HT_.out (by kernel_rfl)) ?_
      refine pureA_ (i := 4) (N := some 31) #[Y,Y,N,N,Y,N,N,N,N,N,N,N] rfl rfl (any_of HT_.out (by kernel_rfl)) ?_
      refine take_ (i := 2) (N := some 29) (v := ?_) (a' := ?_) #[Y,Y,Y,N,Y,N,N,N,N,N,N,N] rfl rfl (take_ofW HT_.out HW_.out (by kernel_rfl)) (fun _ _ _ h => h) (Or.inl ⟨by rfl, ?_⟩) hHeld ?_ ?_; rotate_left
      ·rintro w' ⟨s0, s1⟩; go_simp
       with_reducible rfl
      rotate_left
      ·simp only [Act.put, sA, sB, sC, i64_w, i32_w]
       rfl
      refine pureA_ (i := 3) (N := some 30) #[Y,Y,Y,Y,Y,N,N,N,N,N,N,N] rfl rfl (any_of HT_.out (by kernel_rfl)) ?_
      refine one_ (i := 5) (N := some 32) #[Y,Y,Y,Y,Y,Y,N,N,N,N,N,N] rfl rfl (one_of HT_.out (by kernel_rfl)) (by decide) (fun K hK => ?_); refine goesA_ Try.func27 rfl #[.int .i64 a2] (by rfl) rfl rfl ?_
      with_reducible refine (sawtoothref18_taken.calls a2 t462 _ A16.out).mono ?_
      rintro e w23 ⟨rfl, hb⟩; refine ⟨_, rfl, ?_⟩; replace BK459 := bbZ BK459 hb; replace HB := Aside0.mk (below_step HB.out hb); clear hb; refine hK.out _ _ ⟨(blk_cell BK459.out 0).trans rfl, (blk_cell BK459.out 1).trans rfl⟩ (fun hHeld => ?_); clear hK K; refine normA_ (some 32) ?_
      refine one_ (i := 6) (N := some 33) #[Y,Y,Y,Y,Y,Y,Y,N,N,N,N,N] rfl rfl (one_of HT_.out (by kernel_rfl)) (by decide) (fun K hK => ?_); refine goesA_ Try.func33 rfl #[.int .i64 (wrap64 (t461 - a0_1)), .int .i64 1, .int .i64 t462] (by rfl) rfl rfl ?_
      with_reducible refine (sawtoothref04_CeilS.calls (wrap64 (t461 - a0_1)) 1 t462 t463 t464 _ A17.out).mono ?_
      rintro e w24 ⟨rfl, hb⟩; refine ⟨_, rfl, ?_⟩; replace BK459 := bbZ BK459 hb; replace HB := Aside0.mk (below_step HB.out hb); clear hb; refine hK.out _ _ ⟨(blk_cell BK459.out 0).trans rfl, (blk_cell BK459.out 1).trans rfl⟩ (fun hHeld => ?_); clear hK K; refine normA_ (some 33) ?_
      refine pureA_ (i := 7) (N := some 26) #[Y,Y,Y,Y,Y,Y,Y,Y,N,N,N,N] rfl rfl (any_of HT_.out (by kernel_rfl)) ?_
      refine pureA_ (i := 8) (N := some 34) #[Y,Y,Y,Y,Y,Y,Y,Y,Y,N,N,N] rfl rfl (any_of HT_.out (by kernel_rfl)) ?_
      refine pureA_ (i := 9) (N := some 35) #[Y,Y,Y,Y,Y,Y,Y,Y,Y,Y,N,N] rfl rfl (any_of HT_.out (by kernel_rfl)) ?_
      refine pureA_ (i := 10) (N := some 9) #[Y,Y,Y,Y,Y,Y,Y,Y,Y,Y,Y,N] rfl rfl (any_of HT_.out (by kernel_rfl)) ?_
      refine pureA_ (i := 11) (N := some 10) #[Y,Y,Y,Y,Y,Y,Y,Y,Y,Y,Y,Y] rfl rfl (any_of HT_.out (by kernel_rfl)) ?_
      refine done_ (done_of HT_.out (by kernel_rfl)) ?_
      try go_wp2
      go_ret
      exact ⟨by first | rfl | (simp [errW_none, errW_some] <;> rfl) | (simp only [← hji5]; first | rfl | (simp [errW_none, errW_some] <;> rfl)) | (simp [*, errW_none, errW_some] <;> rfl), by repeat (first | (with_reducible first | exact HB.out | apply below_alloc | apply pw_below_drewN | apply below_drew1 | refine below_set ?_ GE459.out) | exact HB.out)⟩

/-! ### sawtoothref18_WaitS: pure, behind function 17 -/
section
open Go.Proofs.Ytidpdaiolkcgnaa.Sp
noncomputable def sawtoothref18_WaitS.f (t : Int) (h : Int) (n : Int) (r : Int) : Option (Int) := need (I h ∧ I n ∧ I r) (some (waitB t h n r))
theorem sawtoothref18_WaitS.eq {t : Int} {h : Int} {n : Int} {r : Int} (h1 : I h) (h2 : I n) (h3 : I r) : sawtoothref18_WaitS.f t h n r = some (waitB t h n r) := need_pos ⟨h1, h2, h3⟩
theorem sawtoothref18_Wait.main {t : Int} {h : Int} {n : Int} {r : Int} (h1 : I h) (h2 : I n) (h3 : I r) : sawtoothref18_Wait.f 1 t h n r = some (waitB t h n r) := by
 unfold sawtoothref18_Wait.f
 simp only [sawtoothref18_Wait.j0]
 unfold sawtoothref18_taken.f
 have e : mx n 0 = if n < 0 then 0 else n := rfl
 have i0 : I (if n < 0 then 0 else n) := by split <;> omega
 have p0 : 0 ≤ (if n < 0 then 0 else n) := by split <;> omega
 rw [e, sawtoothref01_MulS.eq i0 (by omega), sawtoothref18_CheckS.eq, sawtoothref01_ClampS.eq]
 simp only [Option.bind_some]
 unfold waitB needB
 have q0 : 0 ≤ near ((if n < 0 then 0 else n) * 1000000) ∧ near ((if n < 0 then 0 else n) * 1000000) ≤ 9223372036854775807 := by unfold near; split <;> (try split) <;> omega
 generalize near ((if n < 0 then 0 else n) * 1000000) = q at *
 by_cases c : bOk t h = true
 ·obtain ⟨b1, b2, b3, b4⟩ := bOk_iff.1 c
  rw [if_pos c]
  by_cases l : q ≤ h
  ·rw [if_pos (decide_eq_true l), if_neg (by omega)]
  ·rw [if_neg (by simp; omega), if_pos (show bOk t h = true ∧ h < q from ⟨c, by omega⟩)]
   by_cases r1 : r < 1
   ·rw [if_pos r1, if_pos r1]
   ·rw [if_neg r1, if_neg r1]
    have k : 1 ≤ clamp r 0 1099511627776 ∧ clamp r 0 1099511627776 ≤ 1099511627776 := by unfold clamp; (repeat' split) <;> omega
    generalize clamp r 0 1099511627776 = d at *
    have v := ceil_up (q - h) (show 0 < d by omega); have v1 := Int.ediv_nonneg (show 0 ≤ q - h + (d - 1) by omega) (show 0 ≤ d by omega)
    have v2 : (q - h + (d - 1)) / d ≤ q - h := by
     apply Int.ediv_le_of_le_mul (by omega)
     have := Int.mul_le_mul_of_nonneg_left (a := 1) (b := d) (c := q - h - 1) (by omega) (by omega)
     have e3 : (q - h) * d = (q - h - 1) * d + d := by rw [Int.sub_mul (q - h) 1 d]; omega
     omega
    rw [w64 (x := q - h) (by omega), sawtoothref04_CeilS.eq (by omega) (by omega) (by omega), ceilQ_in (by omega) (by rw [Int.mul_one, v]; omega)]
    simp only [Option.bind_some, Int.mul_one]
    split <;> rfl
 ·rw [if_neg c, if_pos trivial, if_neg (fun x => c x.1)]
end
theorem sawtoothref18_WaitS.calls (a0_0 : Int) (a0_1 : Int) (a1 : Int) (a2 : Int) (r : Int) (w : World) (h : sawtoothref18_WaitS.f a0_0 a0_1 a1 a2 = some r) :
  Calls Try.prog 17 #[.agg #[.int .i64 a0_0, .int .i64 a0_1], .int .i64 a1, .int .i64 a2] w fun e w' => e = .returned (.int .i64 r) ∧ Below w.heap.size w w' := by
 obtain ⟨hc, h⟩ := Go.Proofs.Ytidpdaiolkcgnaa.Sp.need_some h; obtain ⟨h1, h2, h3⟩ := hc; exact sawtoothref18_Wait.calls 1 a0_0 a0_1 a1 a2 r w (by rw [sawtoothref18_Wait.main h1 h2 h3]; exact h)

end Go.Proofs.Ytidpdaiolkcgnaa.Px
