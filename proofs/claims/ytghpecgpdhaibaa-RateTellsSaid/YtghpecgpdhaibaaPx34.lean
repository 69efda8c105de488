/- Printed by a program of this session (wip/tool/px.py), over the kit's print: for each Go function a Lean function, and the proof that the machine's call answers as that function says. Conditions: none beside what the theorems state. -/
import Derived.Test.YtghpecgpdhaibaaPx0
import Derived.Test.YtghpecgpdhaibaaPx26
import Derived.Test.YtghpecgpdhaibaaPx28
import Derived.Test.YtghpecgpdhaibaaPx29
import Derived.Test.YtghpecgpdhaibaaPx31
import Derived.Test.YtghpecgpdhaibaaPx32
import Derived.Test.YtghpecgpdhaibaaPx33
import Derived.Test.YtghpecgpdhaibaaSpec
namespace Go.Proofs.Ytghpecgpdhaibaa.Px
open Go.RowKit Go.Proofs.YtghpecgpdhaibaaW.PrintWords Go.Proofs.YtghpecgpdhaibaaW.PrintLast Go.Proofs.YtghpecgpdhaibaaW.PrintMore
attribute [local go_sem] max2_int min2_int max_two min_two max_three min_three max_four min_four   -- for this text's walks alone
set_option linter.unusedVariables false
set_option linter.unusedSimpArgs false

/-! ### sawtoothref02_CmpS: which is greater: pure, behind function 23 -/
noncomputable def sawtoothref02_CmpS.f (n : Bool) (h l : Int) (m : Bool) (i k : Int) : Option Int := Go.Proofs.Ytghpecgpdhaibaa.Sp.cmpF n h l m i k
section Ref02Cmp
open Go.Proofs.Ytghpecgpdhaibaa.Sp
theorem sawtoothref02_Cmp.main {n m : Bool} {h l i k : Int} (h1 : U h) (h2 : U l) (h3 : U i) (h4 : U k) : sawtoothref02_Cmp.f 1 n h l m i k = some (cmpI (val n h l) (val m i k)) := by
 unfold sawtoothref02_Cmp.f
 rw [sawtoothref02_digits.eq h1 h2, sawtoothref02_digits.eq h3 h4]
 simp only [Option.bind_some, sawtoothref02_belowS.eq h1 h2, sawtoothref02_belowS.eq h3 h4, sawtoothref02_less.eq h1 h2 h3 h4, sawtoothref02_less.eq h3 h4 h1 h2, sawtoothref02_Cmp.j0]
 have v1 : val n h l = h * 18446744073709551616 + l ∨ val n h l = -(h * 18446744073709551616 + l) := by unfold val; cases n <;> simp
 have v2 : val m i k = i * 18446744073709551616 + k ∨ val m i k = -(i * 18446744073709551616 + k) := by unfold val; cases m <;> simp
 have p1 : 0 ≤ h * 18446744073709551616 + l := by omega
 have p2 : 0 ≤ i * 18446744073709551616 + k := by omega
 generalize val n h l = v at *
 generalize val m i k = w at *
 generalize h * 18446744073709551616 + l = M at *
 generalize i * 18446744073709551616 + k = N at *
 unfold cmpI
 by_cases a : v < 0 <;> by_cases b : w < 0 <;> by_cases c : M < N <;> by_cases d : N < M <;> simp [a, b, c, d] <;> omega
end Ref02Cmp
theorem sawtoothref02_CmpS.calls (a0_0 : Bool) (a0_1 a0_2 : Int) (a1_0 : Bool) (a1_1 a1_2 r : Int) (w : World) (h : sawtoothref02_CmpS.f a0_0 a0_1 a0_2 a1_0 a1_1 a1_2 = some r) :
  Calls Try.prog 23 #[.agg #[.bool a0_0, .int .u64 a0_1, .int .u64 a0_2], .agg #[.bool a1_0, .int .u64 a1_1, .int .u64 a1_2]] w fun e w' => e = .returned (.int .i64 r) ∧ Below w.heap.size w w' := by
 obtain ⟨hc, h⟩ := Go.Proofs.Ytghpecgpdhaibaa.Sp.need_some h; obtain ⟨h1, h2, h3, h4⟩ := hc; exact sawtoothref02_Cmp.calls 1 a0_0 a0_1 a0_2 a1_0 a1_1 a1_2 r w (by rw [sawtoothref02_Cmp.main h1 h2 h3 h4]; exact h)

/-! ### sawtoothref04_part: function 67 -/
noncomputable def sawtoothref04_part.f (a0 : Int) (a1 : Int) (a2 : Int) (a3 : Int) : Option (Int × Int) := if a2 < 1 then (some (0, 20)) else ((sawtoothref02_MulS.f a0 a1).bind fun bt419 => ((sawtoothref02_OfS.f a3).bind fun bt422 => ((sawtoothref02_AddS.f bt419.1 bt419.2.1 bt419.2.2 bt422.1 bt422.2.1 bt422.2.2).bind fun bt425 => ((sawtoothref02_DivS.f bt425.1 bt425.2.1 bt425.2.2.1 (IntKind.u64.wrap (a2))).bind fun bt430 => ((sawtoothref02_IntS.f bt430.1 bt430.2.1 bt430.2.2.1).bind fun t436 => ((sawtoothref02_OfS.f t436).bind fun bt437 => ((sawtoothref02_CmpS.f bt430.1 bt430.2.1 bt430.2.2.1 bt437.1 bt437.2.1 bt437.2.2).bind fun t440 => (if t440 = 0 then (some (t436, 0)) else (some (0, 10))))))))))
set_option maxHeartbeats 8000000 in
set_option maxRecDepth 100000 in
theorem sawtoothref04_part.calls (a0 : Int) (a1 : Int) (a2 : Int) (a3 : Int) (r1 : Int) (r2 : Int) (w : World) (h : sawtoothref04_part.f a0 a1 a2 a3 = some (r1, r2)) :
  Calls Try.prog 67 #[.int .i64 a0, .int .i64 a1, .int .i64 a2, .int .i64 a3] w fun e w' => e = .returned (.tuple #[.int .i64 r1, .int .i64 r2]) ∧ Below w.heap.size w w' := by
 have hu35 := Try.underlying35; have HB := Aside0.mk (Below.refl w.heap.size w); have H : (if a2 < 1 then (some (0, 20)) else ((sawtoothref02_MulS.f a0 a1).bind fun bt419 => ((sawtoothref02_OfS.f a3).bind fun bt422 => ((sawtoothref02_AddS.f bt419.1 bt419.2.1 bt419.2.2 bt422.1 bt422.2.1 bt422.2.2).bind fun bt425 => ((sawtoothref02_DivS.f bt425.1 bt425.2.1 bt425.2.2.1 (IntKind.u64.wrap (a2))).bind fun bt430 => ((sawtoothref02_IntS.f bt430.1 bt430.2.1 bt430.2.2.1).bind fun t436 => ((sawtoothref02_OfS.f t436).bind fun bt437 => ((sawtoothref02_CmpS.f bt430.1 bt430.2.1 bt430.2.2.1 bt437.1 bt437.2.1 bt437.2.2).bind fun t440 => (if t440 = 0 then (some (t436, 0)) else (some (0, 10))))))))))) = some (r1, r2) := h; clear h
 by_cases c5 : a2 < 1
 ·rw [if_pos c5] at H
  have c5b0 : decide (a2 < 1) = true := decide_eq_true c5; clear c5; simp only [Option.some.injEq, Prod.mk.injEq] at H; obtain ⟨rfl, rfl⟩ := H
  go_enter Try.func67, Try.ntmps67
  go_wp2
  go_ret2
  exact ⟨by first | rfl | (simp [errW_none, errW_some] <;> rfl) | (simp [*, errW_none, errW_some] <;> rfl), by repeat (first | (with_reducible first | exact HB.out | apply below_alloc | apply pw_below_drewN | apply below_drew1) | exact HB.out)⟩
 ·rw [if_neg c5] at H
  have c5b0 : decide (a2 < 1) = false := decide_eq_false c5; clear c5; replace H := Option.bind_eq_some_iff.mp H; obtain ⟨⟨t419, t420, t421⟩, A60, H⟩ := H; (try dsimp only at H); have A6 := Aside0.mk A60; clear A60; replace H := Option.bind_eq_some_iff.mp H; obtain ⟨⟨t422, t423, t424⟩, A70, H⟩ := H; (try dsimp only at H); have A7 := Aside0.mk A70; clear A70; replace H := Option.bind_eq_some_iff.mp H; obtain ⟨⟨t425, t426, t427, t428⟩, A80, H⟩ := H; (try dsimp only at H); have A8 := Aside0.mk A80; clear A80; replace H := Option.bind_eq_some_iff.mp H; obtain ⟨⟨t430, t431, t432, t433, t434⟩, A90, H⟩ := H; (try dsimp only at H); have A9 := Aside0.mk A90; clear A90; replace H := Option.bind_eq_some_iff.mp H; obtain ⟨t436, A100, H⟩ := H; (try dsimp only at H); have A10 := Aside0.mk A100; clear A100; replace H := Option.bind_eq_some_iff.mp H; obtain ⟨⟨t437, t438, t439⟩, A110, H⟩ := H; replace H : ((sawtoothref02_CmpS.f t430 t431 t432 t437 t438 t439).bind fun t440 => (if t440 = 0 then (some (t436, 0)) else (some (0, 10)))) = some (r1, r2) := H; have A11 := Aside0.mk A110; clear A110; replace H := Option.bind_eq_some_iff.mp H; obtain ⟨t440, A120, H⟩ := H; replace H : (if t440 = 0 then (some (t436, 0)) else (some (0, 10))) = some (r1, r2) := H; have A12 := Aside0.mk A120; clear A120
  by_cases c13 : t440 = 0
  ·rw [if_pos c13] at H
   have c13b0 : (t440 == 0) = true := beq_iff_eq.mpr c13; have c13b1 : (t440 != 0) = false := bne_eq_false_iff_eq.mpr c13; clear c13; simp only [Option.some.injEq, Prod.mk.injEq] at H; obtain ⟨rfl, rfl⟩ := H
   go_enter Try.func67, Try.ntmps67
   try go_wp2_with (first | ((with_reducible refine gate_callee (f := 22) rfl ?_); refine goesLA_ (some 21) rfl rfl Try.func22 rfl #[.int .i64 a0, .int .i64 a1] rfl ?_; (with_reducible refine (sawtoothref02_MulS.calls a0 a1 t419 t420 t421 _ A6.out).mono ?_); rintro e w14 ⟨rfl, hb⟩; refine ⟨_, rfl, ?_⟩; replace HB := stA hb; clear hb) | ((with_reducible refine gate_callee (f := 45) rfl ?_); refine goesLA_ (some 23) rfl rfl Try.func45 rfl #[.int .i64 a3] rfl ?_; (with_reducible refine (sawtoothref02_OfS.calls a3 t422 t423 t424 _ A7.out).mono ?_); rintro e w15 ⟨rfl, hb⟩; refine ⟨_, rfl, ?_⟩; replace HB := stA hb; clear hb) | ((with_reducible refine gate_callee (f := 65) rfl ?_); refine goesLA_ (some 24) rfl rfl Try.func65 rfl #[.agg #[.bool t419, .int .u64 t420, .int .u64 t421], .agg #[.bool t422, .int .u64 t423, .int .u64 t424]] rfl ?_; (with_reducible refine (sawtoothref02_AddS.calls t419 t420 t421 t422 t423 t424 t425 t426 t427 t428 _ A8.out).mono ?_); rintro e w16 ⟨rfl, hb⟩; refine ⟨_, rfl, ?_⟩; replace HB := stA hb; clear hb) | ((with_reducible refine gate_dst (N := 10) rfl ?_); refine box_event ?hg (N := 10) ?hd (cs := #[.bool false, .int .u64 0, .int .u64 0]) (t := 35) ?hr ?_; (case hd => rfl); (case hg => rfl); (case hr => first | (go_simp; done) | (go_simp; rfl)); intro gb429 hg w17 hbox hb; have BK429 := Aside0.mk (hbox); obtain ⟨GW429, nHB⟩ := geA hg hb; have GE429 := GW429; replace HB := nHB; clear nHB; clear hb hbox hg; have hcz18_0 := czZ BK429 0 (.bool false); have hcz18_1 := czZ BK429 1 (.int .u64 0); have hcz18_2 := czZ BK429 2 (.int .u64 0); have hfz18_0 := blk_frozen BK429.out 0; have hfz18_1 := blk_frozen BK429.out 1; have hfz18_2 := blk_frozen BK429.out 2) | ((with_reducible refine gate_callee (f := 40) rfl ?_); refine goesLA_ (some 31) rfl rfl Try.func40 rfl #[.agg #[.bool t425, .int .u64 t426, .int .u64 t427], .int .u64 (IntKind.u64.wrap (a2))] rfl ?_; (with_reducible refine (sawtoothref02_DivS.calls t425 t426 t427 (IntKind.u64.wrap (a2)) t430 t431 t432 t433 t434 _ A9.out).mono ?_); rintro e w19 ⟨rfl, hb⟩; refine ⟨_, rfl, ?_⟩; replace BK429 := Aside0.mk (blk_below (g := gb429) (o := .cells #[.bool t425, .int .u64 t426, .int .u64 t427] 35 (0, 0)) (by (with_reducible repeat first | apply blk_drewN | apply blk_drew | apply blk_alloc); refine blk_put (cs := #[.bool t425, .int .u64 t426, .int .u64 0]) ?_ 2 _ rfl; (with_reducible repeat first | apply blk_drewN | apply blk_drew | apply blk_alloc); refine blk_put (cs := #[.bool t425, .int .u64 0, .int .u64 0]) ?_ 1 _ rfl; (with_reducible repeat first | apply blk_drewN | apply blk_drew | apply blk_alloc); refine blk_put (cs := #[.bool false, .int .u64 0, .int .u64 0]) ?_ 0 _ rfl; (with_reducible repeat first | apply blk_drewN | apply blk_drew | apply blk_alloc); exact BK429.out) hb); replace HB := stA hb; clear hb) | ((with_reducible refine gate_dst (N := 12) rfl ?_); refine box_event ?hg (N := 12) ?hd (cs := #[.bool false, .int .u64 0, .int .u64 0]) (t := 35) ?hr ?_; (case hd => rfl); (case hg => rfl); (case hr => first | (go_simp; done) | (go_simp; rfl)); intro gb435 hg w20 hbox hb; have BK435 := Aside0.mk (hbox); obtain ⟨GW435, nHB⟩ := geA hg hb; have GE435 := GW435; obtain ⟨NB429_435, NB435_429, nBK⟩ := nbA BK429 hg hb; replace BK429 := nBK; clear nBK; replace HB := nHB; clear nHB; clear hb hbox hg; have hnb21 := NB435_429.out; have hnc21 := NB429_435.out; have hcz22_0 := czZ BK435 0 (.bool false); have hcz22_1 := czZ BK435 1 (.int .u64 0); have hcz22_2 := czZ BK435 2 (.int .u64 0); have hfz22_0 := blk_frozen BK435.out 0; have hfz22_1 := blk_frozen BK435.out 1; have hfz22_2 := blk_frozen BK435.out 2) | ((with_reducible refine gate_callee (f := 41) rfl ?_); refine goesLA_ (some 36) rfl rfl Try.func41 rfl #[.agg #[.bool t430, .int .u64 t431, .int .u64 t432]] rfl ?_; (with_reducible refine (sawtoothref02_IntS.calls t430 t431 t432 t436 _ A10.out).mono ?_); rintro e w23 ⟨rfl, hb⟩; refine ⟨_, rfl, ?_⟩; replace BK429 := bfZ BK429 (fun h_ => by (with_reducible repeat first | apply blk_drewN | apply blk_drew | apply blk_alloc | refine farZ ?_ NB429_435 _); exact h_) hb; replace BK435 := Aside0.mk (blk_below (g := gb435) (o := .cells #[.bool t430, .int .u64 t431, .int .u64 t432] 35 (0, 0)) (by (with_reducible repeat first | apply blk_drewN | apply blk_drew | apply blk_alloc); refine blk_put (cs := #[.bool t430, .int .u64 t431, .int .u64 0]) ?_ 2 _ rfl; (with_reducible repeat first | apply blk_drewN | apply blk_drew | apply blk_alloc); refine blk_put (cs := #[.bool t430, .int .u64 0, .int .u64 0]) ?_ 1 _ rfl; (with_reducible repeat first | apply blk_drewN | apply blk_drew | apply blk_alloc); refine blk_put (cs := #[.bool false, .int .u64 0, .int .u64 0]) ?_ 0 _ rfl; (with_reducible repeat first | apply blk_drewN | apply blk_drew | apply blk_alloc); exact BK435.out) hb); replace HB := stA hb; clear hb))
   replace BK429 := Aside0.mk (blk_drew BK429.out); replace BK435 := Aside0.mk (blk_drew BK435.out); replace HB := Aside0.mk (below_drew1 HB.out); refine start_ (n := 5) (S := fun w' => w'.cell? ⟨gb435, 0, none⟩ = some (.bool t430) ∧ w'.cell? ⟨gb435, 1, none⟩ = some (.int .u64 t431) ∧ w'.cell? ⟨gb435, 2, none⟩ = some (.int .u64 t432)) (ds := []) #[N,N,N,N,N] (by kernel_rfl) rfl rfl ⟨(blk_cell BK435.out 0).trans rfl, (blk_cell BK435.out 1).trans rfl, (blk_cell BK435.out 2).trans rfl⟩ (fun hHeld => ?_)
   generalize w23.drew = w24 at BK429 BK435 HB hHeld ⊢
   refine pureA_ (i := 1) (N := some 38) #[N,Y,N,N,N] rfl rfl (by kernel_rfl) ?_
   refine take_ (i := 0) (N := some 37) (v := ?_) (a' := ?_) #[Y,Y,N,N,N] rfl rfl (by kernel_rfl) (fun _ _ _ h => h) (Or.inl ⟨by rfl, ?_⟩) hHeld ?_ ?_; rotate_left
   ·rintro w' ⟨s0, s1, s2⟩; go_simp
    with_reducible rfl
   rotate_left
   ·simp only [Act.put, sA, sB, sC, i64_w, i32_w]
    rfl
   refine one_ (i := 2) (N := some 39) #[Y,Y,Y,N,N] rfl rfl (by kernel_rfl) (by decide) (fun K hK => ?_); refine goesA_ Try.func45 rfl #[.int .i64 t436] (by rfl) rfl rfl ?_
   with_reducible refine (sawtoothref02_OfS.calls t436 t437 t438 t439 _ A11.out).mono ?_
   rintro e w25 ⟨rfl, hb⟩; refine ⟨_, rfl, ?_⟩; replace BK429 := bbZ BK429 hb; replace BK435 := bbZ BK435 hb; replace HB := Aside0.mk (below_step HB.out hb); clear hb; refine hK.out _ _ ⟨(blk_cell BK435.out 0).trans rfl, (blk_cell BK435.out 1).trans rfl, (blk_cell BK435.out 2).trans rfl⟩ (fun hHeld => ?_); clear hK K; refine normA_ (some 39) ?_
   refine one_ (i := 3) (N := some 40) #[Y,Y,Y,Y,N] rfl rfl (by kernel_rfl) (by decide) (fun K hK => ?_); refine goesA_ Try.func23 rfl #[.agg #[.bool t430, .int .u64 t431, .int .u64 t432], .agg #[.bool t437, .int .u64 t438, .int .u64 t439]] (by rfl) rfl rfl ?_
   with_reducible refine (sawtoothref02_CmpS.calls t430 t431 t432 t437 t438 t439 t440 _ A12.out).mono ?_
   rintro e w26 ⟨rfl, hb⟩; refine ⟨_, rfl, ?_⟩; replace BK429 := bbZ BK429 hb; replace BK435 := bbZ BK435 hb; replace HB := Aside0.mk (below_step HB.out hb); clear hb; refine hK.out _ _ ⟨(blk_cell BK435.out 0).trans rfl, (blk_cell BK435.out 1).trans rfl, (blk_cell BK435.out 2).trans rfl⟩ (fun hHeld => ?_); clear hK K; refine normA_ (some 40) ?_
   refine pureA_ (i := 4) (N := some 41) #[Y,Y,Y,Y,Y] rfl rfl (by kernel_rfl) ?_
   refine done_ (by kernel_rfl) ?_
   try go_wp2
   go_ret2
   exact ⟨by first | rfl | (simp [errW_none, errW_some] <;> rfl) | (simp [*, errW_none, errW_some] <;> rfl), by repeat (first | (with_reducible first | exact HB.out | apply below_alloc | apply pw_below_drewN | apply below_drew1 | refine below_set ?_ (Aside0.out (by assumption))) | exact HB.out)⟩
  ·rw [if_neg c13] at H
   have c13b0 : (t440 == 0) = false := beq_eq_false_iff_ne.mpr c13; have c13b1 : (t440 != 0) = true := bne_iff_ne.mpr c13; simp only [Option.some.injEq, Prod.mk.injEq] at H; obtain ⟨rfl, rfl⟩ := H
   go_enter Try.func67, Try.ntmps67
   try go_wp2_with (first | ((with_reducible refine gate_callee (f := 22) rfl ?_); refine goesLA_ (some 21) rfl rfl Try.func22 rfl #[.int .i64 a0, .int .i64 a1] rfl ?_; (with_reducible refine (sawtoothref02_MulS.calls a0 a1 t419 t420 t421 _ A6.out).mono ?_); rintro e w27 ⟨rfl, hb⟩; refine ⟨_, rfl, ?_⟩; replace HB := stA hb; clear hb) | ((with_reducible refine gate_callee (f := 45) rfl ?_); refine goesLA_ (some 23) rfl rfl Try.func45 rfl #[.int .i64 a3] rfl ?_; (with_reducible refine (sawtoothref02_OfS.calls a3 t422 t423 t424 _ A7.out).mono ?_); rintro e w28 ⟨rfl, hb⟩; refine ⟨_, rfl, ?_⟩; replace HB := stA hb; clear hb) | ((with_reducible refine gate_callee (f := 65) rfl ?_); refine goesLA_ (some 24) rfl rfl Try.func65 rfl #[.agg #[.bool t419, .int .u64 t420, .int .u64 t421], .agg #[.bool t422, .int .u64 t423, .int .u64 t424]] rfl ?_; (with_reducible refine (sawtoothref02_AddS.calls t419 t420 t421 t422 t423 t424 t425 t426 t427 t428 _ A8.out).mono ?_); rintro e w29 ⟨rfl, hb⟩; refine ⟨_, rfl, ?_⟩; replace HB := stA hb; clear hb) | ((with_reducible refine gate_dst (N := 10) rfl ?_); refine box_event ?hg (N := 10) ?hd (cs := #[.bool false, .int .u64 0, .int .u64 0]) (t := 35) ?hr ?_; (case hd => rfl); (case hg => rfl); (case hr => first | (go_simp; done) | (go_simp; rfl)); intro gb429 hg w30 hbox hb; have BK429 := Aside0.mk (hbox); obtain ⟨GW429, nHB⟩ := geA hg hb; have GE429 := GW429; replace HB := nHB; clear nHB; clear hb hbox hg; have hcz31_0 := czZ BK429 0 (.bool false); have hcz31_1 := czZ BK429 1 (.int .u64 0); have hcz31_2 := czZ BK429 2 (.int .u64 0); have hfz31_0 := blk_frozen BK429.out 0; have hfz31_1 := blk_frozen BK429.out 1; have hfz31_2 := blk_frozen BK429.out 2) | ((with_reducible refine gate_callee (f := 40) rfl ?_); refine goesLA_ (some 31) rfl rfl Try.func40 rfl #[.agg #[.bool t425, .int .u64 t426, .int .u64 t427], .int .u64 (IntKind.u64.wrap (a2))] rfl ?_; (with_reducible refine (sawtoothref02_DivS.calls t425 t426 t427 (IntKind.u64.wrap (a2)) t430 t431 t432 t433 t434 _ A9.out).mono ?_); rintro e w32 ⟨rfl, hb⟩; refine ⟨_, rfl, ?_⟩; replace BK429 := Aside0.mk (blk_below (g := gb429) (o := .cells #[.bool t425, .int .u64 t426, .int .u64 t427] 35 (0, 0)) (by (with_reducible repeat first | apply blk_drewN | apply blk_drew | apply blk_alloc); refine blk_put (cs := #[.bool t425, .int .u64 t426, .int .u64 0]) ?_ 2 _ rfl; (with_reducible repeat first | apply blk_drewN | apply blk_drew | apply blk_alloc); refine blk_put (cs := #[.bool t425, .int .u64 0, .int .u64 0]) ?_ 1 _ rfl; (with_reducible repeat first | apply blk_drewN | apply blk_drew | apply blk_alloc); refine blk_put (cs := #[.bool false, .int .u64 0, .int .u64 0]) ?_ 0 _ rfl; (with_reducible repeat first | apply blk_drewN | apply blk_drew | apply blk_alloc); exact BK429.out) hb); replace HB := stA hb; clear hb) | ((with_reducible refine gate_dst (N := 12) rfl ?_); refine box_event ?hg (N := 12) ?hd (cs := #[.bool false, .int .u64 0, .int .u64 0]) (t := 35) ?hr ?_; (case hd => rfl); (case hg => rfl); (case hr => first | (go_simp; done) | (go_simp; rfl)); intro gb435 hg w33 hbox hb; have BK435 := Aside0.mk (hbox); obtain ⟨GW435, nHB⟩ := geA hg hb; have GE435 := GW435; obtain ⟨NB429_435, NB435_429, nBK⟩ := nbA BK429 hg hb; replace BK429 := nBK; clear nBK; replace HB := nHB; clear nHB; clear hb hbox hg; have hnb34 := NB435_429.out; have hnc34 := NB429_435.out; have hcz35_0 := czZ BK435 0 (.bool false); have hcz35_1 := czZ BK435 1 (.int .u64 0); have hcz35_2 := czZ BK435 2 (.int .u64 0); have hfz35_0 := blk_frozen BK435.out 0; have hfz35_1 := blk_frozen BK435.out 1; have hfz35_2 := blk_frozen BK435.out 2) | ((with_reducible refine gate_callee (f := 41) rfl ?_); refine goesLA_ (some 36) rfl rfl Try.func41 rfl #[.agg #[.bool t430, .int .u64 t431, .int .u64 t432]] rfl ?_; (with_reducible refine (sawtoothref02_IntS.calls t430 t431 t432 t436 _ A10.out).mono ?_); rintro e w36 ⟨rfl, hb⟩; refine ⟨_, rfl, ?_⟩; replace BK429 := bfZ BK429 (fun h_ => by (with_reducible repeat first | apply blk_drewN | apply blk_drew | apply blk_alloc | refine farZ ?_ NB429_435 _); exact h_) hb; replace BK435 := Aside0.mk (blk_below (g := gb435) (o := .cells #[.bool t430, .int .u64 t431, .int .u64 t432] 35 (0, 0)) (by (with_reducible repeat first | apply blk_drewN | apply blk_drew | apply blk_alloc); refine blk_put (cs := #[.bool t430, .int .u64 t431, .int .u64 0]) ?_ 2 _ rfl; (with_reducible repeat first | apply blk_drewN | apply blk_drew | apply blk_alloc); refine blk_put (cs := #[.bool t430, .int .u64 0, .int .u64 0]) ?_ 1 _ rfl; (with_reducible repeat first | apply blk_drewN | apply blk_drew | apply blk_alloc); refine blk_put (cs := #[.bool false, .int .u64 0, .int .u64 0]) ?_ 0 _ rfl; (with_reducible repeat first | apply blk_drewN | apply blk_drew | apply blk_alloc); exact BK435.out) hb); replace HB := stA hb; clear hb))
   replace BK429 := Aside0.mk (blk_drew BK429.out); replace BK435 := Aside0.mk (blk_drew BK435.out); replace HB := Aside0.mk (below_drew1 HB.out); refine start_ (n := 5) (S := fun w' => w'.cell? ⟨gb435, 0, none⟩ = some (.bool t430) ∧ w'.cell? ⟨gb435, 1, none⟩ = some (.int .u64 t431) ∧ w'.cell? ⟨gb435, 2, none⟩ = some (.int .u64 t432)) (ds := []) #[N,N,N,N,N] (by kernel_rfl) rfl rfl ⟨(blk_cell BK435.out 0).trans rfl, (blk_cell BK435.out 1).trans rfl, (blk_cell BK435.out 2).trans rfl⟩ (fun hHeld => ?_)
   generalize w36.drew = w37 at BK429 BK435 HB hHeld ⊢
   refine pureA_ (i := 1) (N := some 38) #[N,Y,N,N,N] rfl rfl (by kernel_rfl) ?_
   refine take_ (i := 0) (N := some 37) (v := ?_) (a' := ?_) #[Y,Y,N,N,N] rfl rfl (by kernel_rfl) (fun _ _ _ h => h) (Or.inl ⟨by rfl, ?_⟩) hHeld ?_ ?_; rotate_left
   ·rintro w' ⟨s0, s1, s2⟩; go_simp
    with_reducible rfl
   rotate_left
   ·simp only [Act.put, sA, sB, sC, i64_w, i32_w]
    rfl
   refine one_ (i := 2) (N := some 39) #[Y,Y,Y,N,N] rfl rfl (by kernel_rfl) (by decide) (fun K hK => ?_); refine goesA_ Try.func45 rfl #[.int .i64 t436] (by rfl) rfl rfl ?_
   with_reducible refine (sawtoothref02_OfS.calls t436 t437 t438 t439 _ A11.out).mono ?_
   rintro e w38 ⟨rfl, hb⟩; refine ⟨_, rfl, ?_⟩; replace BK429 := bbZ BK429 hb; replace BK435 := bbZ BK435 hb; replace HB := Aside0.mk (below_step HB.out hb); clear hb; refine hK.out _ _ ⟨(blk_cell BK435.out 0).trans rfl, (blk_cell BK435.out 1).trans rfl, (blk_cell BK435.out 2).trans rfl⟩ (fun hHeld => ?_); clear hK K; refine normA_ (some 39) ?_
   refine one_ (i := 3) (N := some 40) #[Y,Y,Y,Y,N] rfl rfl (by kernel_rfl) (by decide) (fun K hK => ?_); refine goesA_ Try.func23 rfl #[.agg #[.bool t430, .int .u64 t431, .int .u64 t432], .agg #[.bool t437, .int .u64 t438, .int .u64 t439]] (by rfl) rfl rfl ?_
   with_reducible refine (sawtoothref02_CmpS.calls t430 t431 t432 t437 t438 t439 t440 _ A12.out).mono ?_
   rintro e w39 ⟨rfl, hb⟩; refine ⟨_, rfl, ?_⟩; replace BK429 := bbZ BK429 hb; replace BK435 := bbZ BK435 hb; replace HB := Aside0.mk (below_step HB.out hb); clear hb; refine hK.out _ _ ⟨(blk_cell BK435.out 0).trans rfl, (blk_cell BK435.out 1).trans rfl, (blk_cell BK435.out 2).trans rfl⟩ (fun hHeld => ?_); clear hK K; refine normA_ (some 40) ?_
   refine pureA_ (i := 4) (N := some 41) #[Y,Y,Y,Y,Y] rfl rfl (by kernel_rfl) ?_
   refine done_ (by kernel_rfl) ?_
   try go_wp2
   go_ret2
   exact ⟨by first | rfl | (simp [errW_none, errW_some] <;> rfl) | (simp [*, errW_none, errW_some] <;> rfl), by repeat (first | (with_reducible first | exact HB.out | apply below_alloc | apply pw_below_drewN | apply below_drew1 | refine below_set ?_ (Aside0.out (by assumption))) | exact HB.out)⟩

/-! ### sawtoothref04_partS: a part of a product, and some more: pure, behind function 67 -/
noncomputable def sawtoothref04_partS.f (a b c d : Int) : Option (Int × Int) := Go.Proofs.Ytghpecgpdhaibaa.Sp.need (Go.Proofs.Ytghpecgpdhaibaa.Sp.I a ∧ Go.Proofs.Ytghpecgpdhaibaa.Sp.I b ∧ Go.Proofs.Ytghpecgpdhaibaa.Sp.I c ∧ Go.Proofs.Ytghpecgpdhaibaa.Sp.I d) (if c < 1 then some (0, 20) else Go.Proofs.Ytghpecgpdhaibaa.Sp.fit ((a * b + d) / c))
section Ref04Part
open Go.Proofs.Ytghpecgpdhaibaa.Sp
theorem sawtoothref04_partS.eq {a b c d : Int} (h1 : I a) (h2 : I b) (h3 : I c) (h4 : I d) : sawtoothref04_partS.f a b c d = if c < 1 then some (0, 20) else fit ((a * b + d) / c) := need_pos ⟨h1, h2, h3, h4⟩
theorem sawtoothref04_part.main {a b c d : Int} (h1 : I a) (h2 : I b) (h3 : I c) (h4 : I d) : sawtoothref04_part.f a b c d = if c < 1 then some (0, 20) else fit ((a * b + d) / c) := by
 unfold sawtoothref04_part.f sawtoothref02_MulS.f sawtoothref02_OfS.f sawtoothref02_AddS.f sawtoothref02_DivS.f sawtoothref02_IntS.f sawtoothref02_CmpS.f
 by_cases hc : c < 1
 ·rw [if_pos hc, if_pos hc]
 have m := mulI h1 h2
 rw [if_neg hc, if_neg hc, mulF_eq h1 h2, ofF_eq h4]
 simp only [Option.bind_some]
 rw [addF_enc (by omega) (by omega), held_in (by omega), u64w_in (x := c) (by omega)]
 simp only [Option.bind_some]
 have hB : B (a * b + d) := by omega
 rw [divF_enc hB (by omega), quo_pos (by omega)]
 simp only [Option.bind_some]; have hq := div_B hB (show 0 < c by omega)
 generalize (a * b + d) / c = q at *
 rw [intF_enc hq]
 simp only [Option.bind_some]
 rw [ofF_eq (near_I _)]
 simp only [Option.bind_some]
 rw [cmpF_enc hq (I_B (near_I _))]
 simp only [Option.bind_some]
 unfold fit
 by_cases hi : I q
 ·rw [near_in hi, cmpI_eq rfl, if_pos rfl, if_pos hi]
 ·rw [if_neg hi, if_neg]
  unfold cmpI near
  split
  ·omega
  ·split
   ·have := near_I q; unfold near at this; split at * <;> (try split at *) <;> omega
   ·omega
end Ref04Part
theorem sawtoothref04_partS.calls (a b c d r1 r2 : Int) (w : World) (h : sawtoothref04_partS.f a b c d = some (r1, r2)) :
  Calls Try.prog 67 #[.int .i64 a, .int .i64 b, .int .i64 c, .int .i64 d] w fun e w' => e = .returned (.tuple #[.int .i64 r1, .int .i64 r2]) ∧ Below w.heap.size w w' := by
 obtain ⟨⟨h1, h2, h3, h4⟩, h⟩ := Go.Proofs.Ytghpecgpdhaibaa.Sp.need_some h; exact sawtoothref04_part.calls a b c d r1 r2 w (by rw [sawtoothref04_part.main h1 h2 h3 h4]; exact h)

/-! ### sawtoothref04_Ceil: function 43 -/
noncomputable def sawtoothref04_Ceil.f (a0 : Int) (a1 : Int) (a2 : Int) : Option (Int × Int) := (sawtoothref04_partS.f a0 a1 a2 (wrap64 ((mx a2 1) - 1))).bind fun bt441 => (some (bt441.1, bt441.2))
set_option maxHeartbeats 8000000 in
set_option maxRecDepth 100000 in
theorem sawtoothref04_Ceil.calls (a0 : Int) (a1 : Int) (a2 : Int) (r1 : Int) (r2 : Int) (w : World) (h : sawtoothref04_Ceil.f a0 a1 a2 = some (r1, r2)) :
  Calls Try.prog 43 #[.int .i64 a0, .int .i64 a1, .int .i64 a2] w fun e w' => e = .returned (.tuple #[.int .i64 r1, .int .i64 r2]) ∧ Below w.heap.size w w' := by
 have HB := Aside0.mk (Below.refl w.heap.size w); have H : ((sawtoothref04_partS.f a0 a1 a2 (wrap64 ((mx a2 1) - 1))).bind fun bt441 => (some (bt441.1, bt441.2))) = some (r1, r2) := h; clear h
 obtain ⟨ji4, hji4⟩ : ∃ j_ : Int, (mx a2 1) = j_ := ⟨_, rfl⟩
 replace H : ((sawtoothref04_partS.f a0 a1 a2 (wrap64 ((ji4) - 1))).bind fun bt441 => (some (bt441.1, bt441.2))) = some (r1, r2) := by first | (rw [hji4] at H; exact H) | (simp only [hji4] at H ⊢; exact H)
 (try (have hji4l : 1 ≤ ji4 := by (rw [← hji4]; unfold mx; (repeat' split) <;> omega)))
 (try (have hji4m : 0 ≤ ji4 := by omega))
 have hji4_ : (if a2 < 1 then 1 else a2) = ji4 := hji4; replace H := Option.bind_eq_some_iff.mp H; obtain ⟨⟨t441, t442⟩, A50, H⟩ := H; replace H : (some (t441, t442)) = some (r1, r2) := H; have A5 := Aside0.mk A50; clear A50; simp only [Option.some.injEq, Prod.mk.injEq] at H; obtain ⟨rfl, rfl⟩ := H
 go_enter Try.func43, Try.ntmps43
 go_wp2_with (first | ((with_reducible refine gate_callee (f := 67) rfl ?_); refine goesL_ (some 14) rfl rfl Try.func67 (by kernel_rfl) rfl #[.int .i64 a0, .int .i64 a1, .int .i64 a2, .int .i64 (wrap64 ((ji4) - 1))] rfl (by (try simp only [List.map_toArray, List.map_cons, List.map_nil]); first | done | (simp only [hji4]; rfl) | rfl | (simp only [List.length_drop, List.length_take]; rfl)) ?_; (with_reducible refine (sawtoothref04_partS.calls a0 a1 a2 (wrap64 ((ji4) - 1)) t441 t442 _ A5.out).mono ?_); rintro e w6 ⟨rfl, hb⟩; refine ⟨_, rfl, ?_⟩; replace HB := stA hb; clear hb))
 go_ret2
 exact ⟨by first | rfl | (simp [errW_none, errW_some] <;> rfl) | (simp only [← hji4]; first | rfl | (simp [errW_none, errW_some] <;> rfl)) | (simp [*, errW_none, errW_some] <;> rfl), by repeat (first | (with_reducible first | exact HB.out | apply below_alloc | apply pw_below_drewN | apply below_drew1) | exact HB.out)⟩

/-! ### sawtoothref04_CeilS: a part of a product, from above: pure, behind function 43 -/
noncomputable def sawtoothref04_CeilS.f (a b c : Int) : Option (Int × Int) := Go.Proofs.Ytghpecgpdhaibaa.Sp.need (Go.Proofs.Ytghpecgpdhaibaa.Sp.I a ∧ Go.Proofs.Ytghpecgpdhaibaa.Sp.I b ∧ Go.Proofs.Ytghpecgpdhaibaa.Sp.I c) (Go.Proofs.Ytghpecgpdhaibaa.Sp.ceilQ a b c)
section
open Go.Proofs.Ytghpecgpdhaibaa.Sp
theorem sawtoothref04_CeilS.eq {a b c : Int} (h1 : I a) (h2 : I b) (h3 : I c) : sawtoothref04_CeilS.f a b c = ceilQ a b c := need_pos ⟨h1, h2, h3⟩
theorem sawtoothref04_Ceil.main {a b c : Int} (h1 : I a) (h2 : I b) (h3 : I c) : sawtoothref04_Ceil.f a b c = ceilQ a b c := by
 unfold sawtoothref04_Ceil.f
 have e : wrap64 (mx c 1 - 1) = if c < 1 then 0 else c - 1 := by unfold mx wrap64; (repeat' split) <;> omega
 have e2 : I (if c < 1 then 0 else c - 1) := by split <;> omega
 rw [e, sawtoothref04_partS.eq h1 h2 h3 e2]
 rw [show ∀ x : Option (Int × Int), (x.bind fun bt => some (bt.1, bt.2)) = x from fun x => by cases x <;> rfl]
 unfold ceilQ
 by_cases hc : c < 1
 ·rw [if_pos hc, if_pos hc]
 ·rw [if_neg hc, if_neg hc, if_neg hc, ceil_up _ (by omega)]
end
theorem sawtoothref04_CeilS.calls (a b c r1 r2 : Int) (w : World) (h : sawtoothref04_CeilS.f a b c = some (r1, r2)) :
  Calls Try.prog 43 #[.int .i64 a, .int .i64 b, .int .i64 c] w fun e w' => e = .returned (.tuple #[.int .i64 r1, .int .i64 r2]) ∧ Below w.heap.size w w' := by
 obtain ⟨⟨h1, h2, h3⟩, h⟩ := Go.Proofs.Ytghpecgpdhaibaa.Sp.need_some h; exact sawtoothref04_Ceil.calls a b c r1 r2 w (by rw [sawtoothref04_Ceil.main h1 h2 h3]; exact h)

/-! ### sawtoothref17_Span: function 21 -/
noncomputable def sawtoothref17_Span.f (a0 : Int) (a1 : Int) : Option (Int) := (sawtoothref04_CeilS.f (mx a0 0) 1000000 (mx a1 1)).bind fun bt443 => (if bt443.2 = 0 then (if bt443.1 > 1099511627776 then (some 1099511627776) else (some bt443.1)) else (some 1099511627776))
set_option maxHeartbeats 8000000 in
set_option maxRecDepth 100000 in
theorem sawtoothref17_Span.calls (a0 : Int) (a1 : Int) (r : Int) (w : World) (h : sawtoothref17_Span.f a0 a1 = some r) :
  Calls Try.prog 21 #[.int .i64 a0, .int .i64 a1] w fun e w' => e = .returned (.int .i64 r) ∧ Below w.heap.size w w' := by
 have HB := Aside0.mk (Below.refl w.heap.size w); have H : ((sawtoothref04_CeilS.f (mx a0 0) 1000000 (mx a1 1)).bind fun bt443 => (if bt443.2 = 0 then (if bt443.1 > 1099511627776 then (some 1099511627776) else (some bt443.1)) else (some 1099511627776))) = some r := h; clear h
 obtain ⟨ji3, hji3⟩ : ∃ j_ : Int, (mx a0 0) = j_ := ⟨_, rfl⟩
 replace H : ((sawtoothref04_CeilS.f (ji3) 1000000 (mx a1 1)).bind fun bt443 => (if bt443.2 = 0 then (if bt443.1 > 1099511627776 then (some 1099511627776) else (some bt443.1)) else (some 1099511627776))) = some r := by first | (rw [hji3] at H; exact H) | (simp only [hji3] at H ⊢; exact H)
 (try (have hji3l : 0 ≤ ji3 := by (rw [← hji3]; unfold mx; (repeat' split) <;> omega)))
 (try (have hji3m : 0 ≤ ji3 := by omega))
 have hji3_ : (if a0 < 0 then 0 else a0) = ji3 := hji3
 obtain ⟨ji4, hji4⟩ : ∃ j_ : Int, (mx a1 1) = j_ := ⟨_, rfl⟩
 replace H : ((sawtoothref04_CeilS.f (ji3) 1000000 (ji4)).bind fun bt443 => (if bt443.2 = 0 then (if bt443.1 > 1099511627776 then (some 1099511627776) else (some bt443.1)) else (some 1099511627776))) = some r := by first | (rw [hji4] at H; exact H) | (simp only [hji4] at H ⊢; exact H)
 (try (have hji4l : 1 ≤ ji4 := by (rw [← hji4]; unfold mx; (repeat' split) <;> omega)))
 (try (have hji4m : 0 ≤ ji4 := by omega))
 have hji4_ : (if a1 < 1 then 1 else a1) = ji4 := hji4; replace H := Option.bind_eq_some_iff.mp H; obtain ⟨⟨t443, t444⟩, A50, H⟩ := H; replace H : (if t444 = 0 then (if t443 > 1099511627776 then (some 1099511627776) else (some t443)) else (some 1099511627776)) = some r := H; have A5 := Aside0.mk A50; clear A50
 by_cases c6 : t444 = 0
 ·rw [if_pos c6] at H
  have c6b0 : (t444 == 0) = true := beq_iff_eq.mpr c6; have c6b1 : (t444 != 0) = false := bne_eq_false_iff_eq.mpr c6; clear c6
  by_cases c7 : t443 > 1099511627776
  ·rw [if_pos c7] at H
   have c7b0 : decide (1099511627776 < t443) = true := decide_eq_true c7; clear c7; obtain rfl := Option.some.inj H
   go_enter Try.func21, Try.ntmps21
   go_wp2_with (first | ((with_reducible refine gate_callee (f := 43) rfl ?_); refine goesL_ (some 12) rfl rfl Try.func43 (by kernel_rfl) rfl #[.int .i64 ji3, .int .i64 1000000, .int .i64 ji4] rfl (by (try simp only [List.map_toArray, List.map_cons, List.map_nil]); first | done | (simp only [hji3, hji4]; rfl) | rfl | (simp only [List.length_drop, List.length_take]; rfl)) ?_; (with_reducible refine (sawtoothref04_CeilS.calls ji3 1000000 ji4 t443 t444 _ A5.out).mono ?_); rintro e w8 ⟨rfl, hb⟩; refine ⟨_, rfl, ?_⟩; replace HB := stA hb; clear hb))
   go_ret
   exact ⟨by first | rfl | (simp [errW_none, errW_some] <;> rfl) | (simp only [← hji3, ← hji4]; first | rfl | (simp [errW_none, errW_some] <;> rfl)) | (simp [*, errW_none, errW_some] <;> rfl), by repeat (first | (with_reducible first | exact HB.out | apply below_alloc | apply pw_below_drewN | apply below_drew1) | exact HB.out)⟩
  ·rw [if_neg c7] at H
   have c7b0 : decide (1099511627776 < t443) = false := decide_eq_false c7; clear c7; obtain rfl := Option.some.inj H
   go_enter Try.func21, Try.ntmps21
   go_wp2_with (first | ((with_reducible refine gate_callee (f := 43) rfl ?_); refine goesL_ (some 12) rfl rfl Try.func43 (by kernel_rfl) rfl #[.int .i64 ji3, .int .i64 1000000, .int .i64 ji4] rfl (by (try simp only [List.map_toArray, List.map_cons, List.map_nil]); first | done | (simp only [hji3, hji4]; rfl) | rfl | (simp only [List.length_drop, List.length_take]; rfl)) ?_; (with_reducible refine (sawtoothref04_CeilS.calls ji3 1000000 ji4 t443 t444 _ A5.out).mono ?_); rintro e w9 ⟨rfl, hb⟩; refine ⟨_, rfl, ?_⟩; replace HB := stA hb; clear hb))
   go_ret
   exact ⟨by first | rfl | (simp [errW_none, errW_some] <;> rfl) | (simp only [← hji3, ← hji4]; first | rfl | (simp [errW_none, errW_some] <;> rfl)) | (simp [*, errW_none, errW_some] <;> rfl), by repeat (first | (with_reducible first | exact HB.out | apply below_alloc | apply pw_below_drewN | apply below_drew1) | exact HB.out)⟩
 ·rw [if_neg c6] at H
  have c6b0 : (t444 == 0) = false := beq_eq_false_iff_ne.mpr c6; have c6b1 : (t444 != 0) = true := bne_iff_ne.mpr c6; obtain rfl := Option.some.inj H
  go_enter Try.func21, Try.ntmps21
  go_wp2_with (first | ((with_reducible refine gate_callee (f := 43) rfl ?_); refine goesL_ (some 12) rfl rfl Try.func43 (by kernel_rfl) rfl #[.int .i64 ji3, .int .i64 1000000, .int .i64 ji4] rfl (by (try simp only [List.map_toArray, List.map_cons, List.map_nil]); first | done | (simp only [hji3, hji4]; rfl) | rfl | (simp only [List.length_drop, List.length_take]; rfl)) ?_; (with_reducible refine (sawtoothref04_CeilS.calls ji3 1000000 ji4 t443 t444 _ A5.out).mono ?_); rintro e w10 ⟨rfl, hb⟩; refine ⟨_, rfl, ?_⟩; replace HB := stA hb; clear hb))
  go_ret
  exact ⟨by first | rfl | (simp [errW_none, errW_some] <;> rfl) | (simp only [← hji3, ← hji4]; first | rfl | (simp [errW_none, errW_some] <;> rfl)) | (simp [*, errW_none, errW_some] <;> rfl), by repeat (first | (with_reducible first | exact HB.out | apply below_alloc | apply pw_below_drewN | apply below_drew1) | exact HB.out)⟩

/-! ### sawtoothref17_SpanS: how long bytes take: pure, behind function 21 -/
noncomputable def sawtoothref17_SpanS.f (a b : Int) : Option Int := Go.Proofs.Ytghpecgpdhaibaa.Sp.need (Go.Proofs.Ytghpecgpdhaibaa.Sp.I a ∧ Go.Proofs.Ytghpecgpdhaibaa.Sp.I b) (some (Go.Proofs.Ytghpecgpdhaibaa.Sp.spanQ a b))
section
open Go.Proofs.Ytghpecgpdhaibaa.Sp
theorem sawtoothref17_SpanS.eq {a b : Int} (h1 : I a) (h2 : I b) : sawtoothref17_SpanS.f a b = some (spanQ a b) := need_pos ⟨h1, h2⟩
theorem sawtoothref17_Span.main {a b : Int} (h1 : I a) (h2 : I b) : sawtoothref17_Span.f a b = some (spanQ a b) := by
 unfold sawtoothref17_Span.f
 have ea : mx a 0 = if a < 0 then 0 else a := rfl
 have eb : mx b 1 = if b < 1 then 1 else b := rfl
 have ia : I (if a < 0 then 0 else a) := by split <;> omega
 have ib : I (if b < 1 then 1 else b) := by split <;> omega
 have pb : 0 < (if b < 1 then 1 else b) := by split <;> omega
 have pa : 0 ≤ (if a < 0 then 0 else a) := by split <;> omega
 rw [ea, eb, sawtoothref04_CeilS.eq ia (by omega) ib]
 unfold ceilQ
 rw [if_neg (by omega)]
 have hc : (-(-((if a < 0 then 0 else a) * 1000000) / (if b < 1 then 1 else b))) = spanC a b := rfl
 have h0 : 0 ≤ spanC a b := by
  unfold spanC
  rw [ceil_up _ pb]
  exact Int.ediv_nonneg (by omega) (by omega)
 rw [hc]
 unfold spanQ
 by_cases i : I (spanC a b)
 ·rw [fit_in i]
  simp only [Option.bind_some, if_true]
  split <;> split <;> first | rfl | (congr 1; omega) | (exfalso; omega)
 ·rw [fit_out i]
  simp only [Option.bind_some]
  rw [if_neg (by omega), if_neg (by omega)]
end
theorem sawtoothref17_SpanS.calls (a0 a1 r : Int) (w : World) (h : sawtoothref17_SpanS.f a0 a1 = some r) :
  Calls Try.prog 21 #[.int .i64 a0, .int .i64 a1] w fun e w' => e = .returned (.int .i64 r) ∧ Below w.heap.size w w' := by
 obtain ⟨⟨h1, h2⟩, h⟩ := Go.Proofs.Ytghpecgpdhaibaa.Sp.need_some h; exact sawtoothref17_Span.calls a0 a1 r w (by rw [sawtoothref17_Span.main h1 h2]; exact h)

end Go.Proofs.Ytghpecgpdhaibaa.Px
