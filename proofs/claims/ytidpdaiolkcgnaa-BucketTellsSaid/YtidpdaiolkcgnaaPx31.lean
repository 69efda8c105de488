/- Printed by a program of this session (wip/tool/px.py), over the kit's print: for each Go function a Lean function, and the proof that the machine's call answers as that function says. Conditions: none beside what the theorems state. -/
import Derived.Test.YtidpdaiolkcgnaaPx0
import Derived.Test.YtidpdaiolkcgnaaPx27
import Derived.Test.YtidpdaiolkcgnaaPx28
import Derived.Test.YtidpdaiolkcgnaaPx30
import Derived.Test.YtidpdaiolkcgnaaSpec
namespace Go.Proofs.Ytidpdaiolkcgnaa.Px
open Go.RowKit Go.Proofs.YtidpdaiolkcgnaaW.PrintWords Go.Proofs.YtidpdaiolkcgnaaW.PrintLast Go.Proofs.YtidpdaiolkcgnaaW.PrintMore
attribute [local go_sem] max2_int min2_int max_two min_two max_three min_three max_four min_four   -- for this text's walks alone
set_option linter.unusedVariables false
set_option linter.unusedSimpArgs false

/-! ### sawtoothref18_Fill: function 11 -/
noncomputable def sawtoothref18_Fill.f (a0_0 : Int) (a0_1 : Int) (a1 : Int) (a2 : Int) (a3 : Int) : Option (Int × Int × Int) := (sawtoothref18_CheckS.f a0_0 a0_1).bind fun t312 => (if t312 = true then ((sawtoothref05_StepS.f a0_0 a1).bind fun bt313 => (if bt313.2 = 0 then ((sawtoothref18_taken.f a2).bind fun t315 => ((sawtoothref01_MulS.f t315 (wrap64 (bt313.1 - a0_0))).bind fun t316 => ((sawtoothref01_AddS.f a0_1 t316).bind fun t317 => ((sawtoothref18_Top.f a3).bind fun t318 => (if t317 > t318 then ((sawtoothref18_Top.f a3).bind fun t319 => (if t319 < a0_1 then (some (bt313.1, a0_1, 0)) else (some (bt313.1, t319, 0)))) else (if t317 < a0_1 then (some (bt313.1, a0_1, 0)) else (some (bt313.1, t317, 0)))))))) else (some (a0_0, a0_1, bt313.2)))) else (some (a0_0, a0_1, 201)))
def sawtoothref18_Fill.T7 : Bool × List (List Nat × List Nat) := (true, [([], []), ([0], [0]), ([], []), ([2], [2]), ([], []), ([], []), ([5], [5]), ([4, 6], [4, 6]), ([3, 7, 3], [3, 7]), ([1, 8, 8], [1, 8]), ([9, 9, 0, 1, 2, 3, 4, 5, 6, 7, 8, 9], [9])])
def sawtoothref18_Fill.B7 : List Nat := [0, 1, 0, 4, 0, 0, 32, 112, 252, 511, 1023]
theorem sawtoothref18_Fill.tab7 : rtab .any (opsOf Try.f11 7) = sawtoothref18_Fill.T7 := by kernel_rfl
theorem sawtoothref18_Fill.bits7 : waitsOk sawtoothref18_Fill.T7.2 sawtoothref18_Fill.B7 = true := by kernel_rfl
set_option maxHeartbeats 8000000 in
set_option maxRecDepth 100000 in
theorem sawtoothref18_Fill.calls (a0_0 : Int) (a0_1 : Int) (a1 : Int) (a2 : Int) (a3 : Int) (r1 : Int) (r2 : Int) (r3 : Int) (w : World) (h : sawtoothref18_Fill.f a0_0 a0_1 a1 a2 a3 = some (r1, r2, r3)) :
  Calls Try.prog 11 #[.agg #[.int .i64 a0_0, .int .i64 a0_1], .int .i64 a1, .int .i64 a2, .int .i64 a3] w fun e w' => e = .returned (.tuple #[.agg #[.int .i64 r1, .int .i64 r2], .int .i64 r3]) ∧ Below w.heap.size w w' := by
 have hu23 := Try.underlying23; have HB := Aside0.mk (Below.refl w.heap.size w); have H : ((sawtoothref18_CheckS.f a0_0 a0_1).bind fun t312 => (if t312 = true then ((sawtoothref05_StepS.f a0_0 a1).bind fun bt313 => (if bt313.2 = 0 then ((sawtoothref18_taken.f a2).bind fun t315 => ((sawtoothref01_MulS.f t315 (wrap64 (bt313.1 - a0_0))).bind fun t316 => ((sawtoothref01_AddS.f a0_1 t316).bind fun t317 => ((sawtoothref18_Top.f a3).bind fun t318 => (if t317 > t318 then ((sawtoothref18_Top.f a3).bind fun t319 => (if t319 < a0_1 then (some (bt313.1, a0_1, 0)) else (some (bt313.1, t319, 0)))) else (if t317 < a0_1 then (some (bt313.1, a0_1, 0)) else (some (bt313.1, t317, 0)))))))) else (some (a0_0, a0_1, bt313.2)))) else (some (a0_0, a0_1, 201)))) = some (r1, r2, r3) := h; clear h; replace H := Option.bind_eq_some_iff.mp H; obtain ⟨t312, A50, H⟩ := H; (try dsimp only at H); have A5 := Aside0.mk A50; clear A50
 by_cases c6 : t312 = true
 ·subst c6
  have H1 : ((sawtoothref05_StepS.f a0_0 a1).bind fun bt313 => (if bt313.2 = 0 then ((sawtoothref18_taken.f a2).bind fun t315 => ((sawtoothref01_MulS.f t315 (wrap64 (bt313.1 - a0_0))).bind fun t316 => ((sawtoothref01_AddS.f a0_1 t316).bind fun t317 => ((sawtoothref18_Top.f a3).bind fun t318 => (if t317 > t318 then ((sawtoothref18_Top.f a3).bind fun t319 => (if t319 < a0_1 then (some (bt313.1, a0_1, 0)) else (some (bt313.1, t319, 0)))) else (if t317 < a0_1 then (some (bt313.1, a0_1, 0)) else (some (bt313.1, t317, 0)))))))) else (some (a0_0, a0_1, bt313.2)))) = some (r1, r2, r3) := by rw [if_pos rfl] at H; exact H
  clear H; have H := H1; clear H1; replace H := Option.bind_eq_some_iff.mp H; obtain ⟨⟨t313, t314⟩, A70, H⟩ := H; (try dsimp only at H); have A7 := Aside0.mk A70; clear A70
  by_cases c8 : t314 = 0
  ·rw [if_pos c8] at H
   have c8b0 : (t314 == 0) = true := beq_iff_eq.mpr c8; have c8b1 : (t314 != 0) = false := bne_eq_false_iff_eq.mpr c8; clear c8; replace H := Option.bind_eq_some_iff.mp H; obtain ⟨t315, A90, H⟩ := H; (try dsimp only at H); have A9 := Aside0.mk A90; clear A90; replace H := Option.bind_eq_some_iff.mp H; obtain ⟨t316, A100, H⟩ := H; (try dsimp only at H); have A10 := Aside0.mk A100; clear A100; replace H := Option.bind_eq_some_iff.mp H; obtain ⟨t317, A110, H⟩ := H; (try dsimp only at H); have A11 := Aside0.mk A110; clear A110; replace H := Option.bind_eq_some_iff.mp H; obtain ⟨t318, A120, H⟩ := H; (try dsimp only at H); have A12 := Aside0.mk A120; clear A120
   go_enter Try.func11, Try.ntmps11
   try go_wp2_with (first | ((with_reducible refine gate_dst (N := 4) rfl ?_); refine box_event ?hg (N := 4) ?hd (cs := #[.int .i64 a0_0, .int .i64 a0_1]) (t := 23) ?hr ?_; (case hd => rfl); (case hg => rfl); (case hr => first | (go_simp; done) | (go_simp; rfl)); intro gb310 hg w16 hbox hb; have BK310 := Aside0.mk (hbox); obtain ⟨GW310, nHB⟩ := geA hg hb; have GE310 := GW310; replace HB := nHB; clear nHB; clear hb hbox hg) | ((with_reducible refine gate_dst (N := 8) rfl ?_); refine box_event ?hg (N := 8) ?hd (cs := #[.int .i64 0, .int .i64 0]) (t := 23) ?hr ?_; (case hd => rfl); (case hg => rfl); (case hr => first | (go_simp; done) | (go_simp; rfl)); intro gb311 hg w17 hbox hb; have BK311 := Aside0.mk (hbox); obtain ⟨GW311, nHB⟩ := geA hg hb; have GE311 := GW311; obtain ⟨NB310_311, NB311_310, nBK⟩ := nbA BK310 hg hb; replace BK310 := nBK; clear nBK; replace HB := nHB; clear nHB; clear hb hbox hg; have hnb18 := NB310_311.out; have hnc18 := NB311_310.out; have hcz19_0 := czZ BK310 0 (.int .i64 a0_0); have hcz19_1 := czZ BK310 1 (.int .i64 a0_1); have hfz19_0 := blk_frozen BK310.out 0; have hfz19_1 := blk_frozen BK310.out 1) | ((with_reducible refine gate_callee (f := 15) rfl ?_); refine goesLA_ (some 15) rfl rfl Try.func15 rfl #[.agg #[.int .i64 a0_0, .int .i64 a0_1]] rfl ?_; (with_reducible refine (sawtoothref18_CheckS.calls a0_0 a0_1 true _ A5.out).mono ?_); rintro e w20 ⟨rfl, hb⟩; refine ⟨_, rfl, ?_⟩; replace BK310 := bdZ BK310 hb; replace BK311 := bdZ BK311 hb; replace HB := stA hb; clear hb; have hcz21_0 := czZ BK310 0 (.int .i64 a0_0); have hcz21_1 := czZ BK310 1 (.int .i64 a0_1); have hfz21_0 := blk_frozen BK310.out 0; have hfz21_1 := blk_frozen BK310.out 1) | ((with_reducible refine gate_callee (f := 24) rfl ?_); refine goesLA_ (some 23) rfl rfl Try.func24 rfl #[.int .i64 a0_0, .int .i64 a1] rfl ?_; (with_reducible refine (sawtoothref05_StepS.calls a0_0 a1 t313 t314 _ A7.out).mono ?_); rintro e w' ⟨rfl, ⟨nd, rfl⟩⟩; refine ⟨_, rfl, ?_⟩; (try (rw [drewN_self w20]; generalize hq_ : World.drewN w20 _ = w20; have n0_ : Aside0 (w20.heap[gb310]? = some (.cells #[.int .i64 a0_0, .int .i64 a0_1] 23 (0, 0))) := ⟨by rw [← hq_]; exact (by (with_reducible repeat first | apply blk_drewN | apply blk_drew | apply blk_alloc); exact BK310.out)⟩; have n1_ : Aside0 (w20.heap[gb311]? = some (.cells #[.int .i64 0, .int .i64 0] 23 (0, 0))) := ⟨by rw [← hq_]; exact (by (with_reducible repeat first | apply blk_drewN | apply blk_drew | apply blk_alloc); exact BK311.out)⟩; have n2_ : Aside0 (Below w.heap.size w w20) := ⟨by rw [← hq_]; exact (by repeat (first | (with_reducible first | exact HB.out | apply below_alloc | apply pw_below_drewN | apply below_drew1 | refine below_set ?_ (Aside0.out (by assumption))) | exact HB.out))⟩; clear BK310 BK311 HB hq_; have BK310 := n0_; have BK311 := n1_; have HB := n2_; clear n0_ n1_ n2_))))
   replace BK310 := Aside0.mk (blk_drew BK310.out); replace BK311 := Aside0.mk (blk_drew BK311.out); replace HB := Aside0.mk (below_drew1 HB.out); refine start_ (n := 11) (S := fun w' => w'.cell? ⟨gb310, 0, none⟩ = some (.int .i64 a0_0) ∧ w'.cell? ⟨gb310, 1, none⟩ = some (.int .i64 a0_1)) (ds := []) #[N,N,N,N,N,N,N,N,N,N,N] (by kernel_rfl) rfl rfl ⟨(blk_cell BK310.out 0).trans rfl, (blk_cell BK310.out 1).trans rfl⟩ (fun hHeld => ?_); refine with_tabW sawtoothref18_Fill.tab7 sawtoothref18_Fill.bits7 (fun HT_ HW_ => ?_)
   generalize w20.drew = w22 at BK310 BK311 HB hHeld ⊢
   refine pureA_ (i := 0) (N := some 30) #[Y,N,N,N,N,N,N,N,N,N,N] rfl rfl (any_of HT_.out (by kernel_rfl)) ?_
   refine pureA_ (i := 2) (N := some 32) #[Y,N,Y,N,N,N,N,N,N,N,N] rfl rfl (any_of HT_.out (by kernel_rfl)) ?_
   refine pureA_ (i := 4) (N := some 34) #[Y,N,Y,N,Y,N,N,N,N,N,N] rfl rfl (any_of HT_.out (by kernel_rfl)) ?_
   refine pureA_ (i := 5) (N := some 35) #[Y,N,Y,N,Y,Y,N,N,N,N,N] rfl rfl (any_of HT_.out (by kernel_rfl)) ?_
   refine take_ (i := 1) (N := some 31) (v := ?_) (a' := ?_) #[Y,Y,Y,N,Y,Y,N,N,N,N,N] rfl rfl (take_ofW HT_.out HW_.out (by kernel_rfl)) (fun _ _ _ h => h) (Or.inl ⟨by rfl, ?_⟩) hHeld ?_ ?_; rotate_left
   ·rintro w' ⟨s0, s1⟩; go_simp
    with_reducible rfl
   rotate_left
   ·simp only [Act.put, sA, sB, sC, i64_w, i32_w]
    rfl
   refine take_ (i := 6) (N := some 36) (v := ?_) (a' := ?_) #[Y,Y,Y,N,Y,Y,Y,N,N,N,N] rfl rfl (take_ofW HT_.out HW_.out (by kernel_rfl)) (fun _ _ _ h => h) (Or.inl ⟨by rfl, ?_⟩) hHeld ?_ ?_; rotate_left
   ·rintro w' ⟨s0, s1⟩; go_simp
    with_reducible rfl
   rotate_left
   ·simp only [Act.put, sA, sB, sC, i64_w, i32_w]
    rfl
   refine pureA_ (i := 7) (N := some 37) #[Y,Y,Y,N,Y,Y,Y,Y,N,N,N] rfl rfl (any_of HT_.out (by kernel_rfl)) ?_
   refine one_ (i := 3) (N := some 33) #[Y,Y,Y,Y,Y,Y,Y,Y,N,N,N] rfl rfl (one_of HT_.out (by kernel_rfl)) (by decide) (fun K hK => ?_); refine goesA_ Try.func27 rfl #[.int .i64 a2] (by rfl) rfl rfl ?_
   with_reducible refine (sawtoothref18_taken.calls a2 t315 _ A9.out).mono ?_
   rintro e w23 ⟨rfl, hb⟩; refine ⟨_, rfl, ?_⟩; replace BK310 := bdZ BK310 hb; replace BK311 := bdZ BK311 hb; replace HB := stA hb; clear hb; refine hK.out _ _ ⟨(blk_cell BK310.out 0).trans rfl, (blk_cell BK310.out 1).trans rfl⟩ (fun hHeld => ?_); clear hK K; refine normA_ (some 33) ?_
   refine one_ (i := 8) (N := some 38) #[Y,Y,Y,Y,Y,Y,Y,Y,Y,N,N] rfl rfl (one_of HT_.out (by kernel_rfl)) (by decide) (fun K hK => ?_); refine goesA_ Try.func26 rfl #[.int .i64 t315, .int .i64 (wrap64 (t313 - a0_0))] (by rfl) rfl rfl ?_
   with_reducible refine (sawtoothref01_MulS.calls t315 (wrap64 (t313 - a0_0)) t316 _ A10.out).mono ?_
   rintro e w24 ⟨rfl, hb⟩; refine ⟨_, rfl, ?_⟩; replace BK310 := bdZ BK310 hb; replace BK311 := bdZ BK311 hb; replace HB := stA hb; clear hb; refine hK.out _ _ ⟨(blk_cell BK310.out 0).trans rfl, (blk_cell BK310.out 1).trans rfl⟩ (fun hHeld => ?_); clear hK K; refine normA_ (some 38) ?_
   refine one_ (i := 9) (N := some 39) #[Y,Y,Y,Y,Y,Y,Y,Y,Y,Y,N] rfl rfl (one_of HT_.out (by kernel_rfl)) (by decide) (fun K hK => ?_); refine goesA_ Try.func25 rfl #[.int .i64 a0_1, .int .i64 t316] (by rfl) rfl rfl ?_
   with_reducible refine (sawtoothref01_AddS.calls a0_1 t316 t317 _ A11.out).mono ?_
   rintro e w25 ⟨rfl, hb⟩; refine ⟨_, rfl, ?_⟩; replace BK310 := bdZ BK310 hb; replace BK311 := bdZ BK311 hb; replace HB := stA hb; clear hb; refine hK.out _ _ ⟨(blk_cell BK310.out 0).trans rfl, (blk_cell BK310.out 1).trans rfl⟩ (fun hHeld => ?_); clear hK K; refine normA_ (some 39) ?_
   refine pureA_ (i := 10) (N := some 13) #[Y,Y,Y,Y,Y,Y,Y,Y,Y,Y,Y] rfl rfl (any_of HT_.out (by kernel_rfl)) ?_
   refine done_ (done_of HT_.out (by kernel_rfl)) ?_
   by_cases c13 : t317 > t318
   ·rw [if_pos c13] at H
    have c13b0 : decide (t318 < t317) = true := decide_eq_true c13; clear c13; replace H := Option.bind_eq_some_iff.mp H; obtain ⟨t319, A140, H⟩ := H; replace H : (if t319 < a0_1 then (some (t313, a0_1, 0)) else (some (t313, t319, 0))) = some (r1, r2, r3) := H; have A14 := Aside0.mk A140; clear A140
    by_cases c15 : t319 < a0_1
    ·rw [if_pos c15] at H
     have c15b0 : decide (t319 < a0_1) = true := decide_eq_true c15; clear c15; simp only [Option.some.injEq, Prod.mk.injEq] at H; obtain ⟨rfl, rfl, rfl⟩ := H
     try go_wp2_with (first | ((with_reducible refine gate_callee (f := 28) rfl ?_); refine goesLA_ (some 42) rfl rfl Try.func28 rfl #[.int .i64 a3] rfl ?_; (with_reducible refine (sawtoothref18_Top.calls a3 t318 _ A12.out).mono ?_); rintro e w26 ⟨rfl, hb⟩; refine ⟨_, rfl, ?_⟩; replace BK310 := bdZ BK310 hb; replace BK311 := bdZ BK311 hb; replace HB := stA hb; clear hb) | ((with_reducible refine gate_callee (f := 28) rfl ?_); refine goesLA_ (some 45) rfl rfl Try.func28 rfl #[.int .i64 a3] rfl ?_; (with_reducible refine (sawtoothref18_Top.calls a3 t319 _ A14.out).mono ?_); rintro e w27 ⟨rfl, hb⟩; refine ⟨_, rfl, ?_⟩; replace BK310 := bdZ BK310 hb; replace BK311 := bdZ BK311 hb; replace HB := stA hb; clear hb; have hcz28_0 := czZ BK310 0 (.int .i64 a0_0); have hcz28_1 := czZ BK310 1 (.int .i64 a0_1); have hfz28_0 := blk_frozen BK310.out 0; have hfz28_1 := blk_frozen BK310.out 1; have hcz29_0 := czZ BK311 0 (.int .i64 0); have hcz29_1 := czZ BK311 1 (.int .i64 0); have hfz29_0 := blk_frozen BK311.out 0; have hfz29_1 := blk_frozen BK311.out 1))
     refine bodyPost_ret (results_ct rfl _ _ gb311 23 #[.int .i64 t313, .int .i64 a0_1] (0, 0) _ rfl (by (with_reducible repeat first | apply blk_drewN | apply blk_drew | apply blk_alloc); refine blk_put (cs := #[.int .i64 t313, .int .i64 0]) ?_ 1 _ rfl; (with_reducible repeat first | apply blk_drewN | apply blk_drew | apply blk_alloc); refine blk_put (cs := #[.int .i64 0, .int .i64 0]) ?_ 0 _ rfl; (with_reducible repeat first | apply blk_drewN | apply blk_drew | apply blk_alloc); exact BK311.out) Try.underlying23 rfl (by kernel_rfl)) rfl ?_; exact ⟨by first | rfl | (simp [errW_none, errW_some] <;> rfl) | (simp [*, errW_none, errW_some] <;> rfl), by repeat (first | (with_reducible first | exact HB.out | apply below_alloc | apply pw_below_drewN | apply below_drew1 | refine below_set ?_ (Aside0.out (by assumption))) | exact HB.out)⟩
    ·rw [if_neg c15] at H
     have c15b0 : decide (t319 < a0_1) = false := decide_eq_false c15; clear c15; simp only [Option.some.injEq, Prod.mk.injEq] at H; obtain ⟨rfl, rfl, rfl⟩ := H
     try go_wp2_with (first | ((with_reducible refine gate_callee (f := 28) rfl ?_); refine goesLA_ (some 42) rfl rfl Try.func28 rfl #[.int .i64 a3] rfl ?_; (with_reducible refine (sawtoothref18_Top.calls a3 t318 _ A12.out).mono ?_); rintro e w40 ⟨rfl, hb⟩; refine ⟨_, rfl, ?_⟩; replace BK310 := bdZ BK310 hb; replace BK311 := bdZ BK311 hb; replace HB := stA hb; clear hb) | ((with_reducible refine gate_callee (f := 28) rfl ?_); refine goesLA_ (some 45) rfl rfl Try.func28 rfl #[.int .i64 a3] rfl ?_; (with_reducible refine (sawtoothref18_Top.calls a3 t319 _ A14.out).mono ?_); rintro e w41 ⟨rfl, hb⟩; refine ⟨_, rfl, ?_⟩; replace BK310 := bdZ BK310 hb; replace BK311 := bdZ BK311 hb; replace HB := stA hb; clear hb; have hcz42_0 := czZ BK310 0 (.int .i64 a0_0); have hcz42_1 := czZ BK310 1 (.int .i64 a0_1); have hfz42_0 := blk_frozen BK310.out 0; have hfz42_1 := blk_frozen BK310.out 1; have hcz43_0 := czZ BK311 0 (.int .i64 0); have hcz43_1 := czZ BK311 1 (.int .i64 0); have hfz43_0 := blk_frozen BK311.out 0; have hfz43_1 := blk_frozen BK311.out 1))
     refine bodyPost_ret (results_ct rfl _ _ gb311 23 #[.int .i64 t313, .int .i64 t319] (0, 0) _ rfl (by (with_reducible repeat first | apply blk_drewN | apply blk_drew | apply blk_alloc); refine blk_put (cs := #[.int .i64 t313, .int .i64 0]) ?_ 1 _ rfl; (with_reducible repeat first | apply blk_drewN | apply blk_drew | apply blk_alloc); refine blk_put (cs := #[.int .i64 0, .int .i64 0]) ?_ 0 _ rfl; (with_reducible repeat first | apply blk_drewN | apply blk_drew | apply blk_alloc); exact BK311.out) Try.underlying23 rfl (by kernel_rfl)) rfl ?_; exact ⟨by first | rfl | (simp [errW_none, errW_some] <;> rfl) | (simp [*, errW_none, errW_some] <;> rfl), by repeat (first | (with_reducible first | exact HB.out | apply below_alloc | apply pw_below_drewN | apply below_drew1 | refine below_set ?_ (Aside0.out (by assumption))) | exact HB.out)⟩
   ·rw [if_neg c13] at H
    have c13b0 : decide (t318 < t317) = false := decide_eq_false c13; clear c13
    by_cases c44 : t317 < a0_1
    ·rw [if_pos c44] at H
     have c44b0 : decide (t317 < a0_1) = true := decide_eq_true c44; clear c44; simp only [Option.some.injEq, Prod.mk.injEq] at H; obtain ⟨rfl, rfl, rfl⟩ := H
     try go_wp2_with (first | ((with_reducible refine gate_callee (f := 28) rfl ?_); refine goesLA_ (some 42) rfl rfl Try.func28 rfl #[.int .i64 a3] rfl ?_; (with_reducible refine (sawtoothref18_Top.calls a3 t318 _ A12.out).mono ?_); rintro e w55 ⟨rfl, hb⟩; refine ⟨_, rfl, ?_⟩; replace BK310 := bdZ BK310 hb; replace BK311 := bdZ BK311 hb; replace HB := stA hb; clear hb; have hcz56_0 := czZ BK310 0 (.int .i64 a0_0); have hcz56_1 := czZ BK310 1 (.int .i64 a0_1); have hfz56_0 := blk_frozen BK310.out 0; have hfz56_1 := blk_frozen BK310.out 1; have hcz57_0 := czZ BK311 0 (.int .i64 0); have hcz57_1 := czZ BK311 1 (.int .i64 0); have hfz57_0 := blk_frozen BK311.out 0; have hfz57_1 := blk_frozen BK311.out 1))
     refine bodyPost_ret (results_ct rfl _ _ gb311 23 #[.int .i64 t313, .int .i64 a0_1] (0, 0) _ rfl (by (with_reducible repeat first | apply blk_drewN | apply blk_drew | apply blk_alloc); refine blk_put (cs := #[.int .i64 t313, .int .i64 0]) ?_ 1 _ rfl; (with_reducible repeat first | apply blk_drewN | apply blk_drew | apply blk_alloc); refine blk_put (cs := #[.int .i64 0, .int .i64 0]) ?_ 0 _ rfl; (with_reducible repeat first | apply blk_drewN | apply blk_drew | apply blk_alloc); exact BK311.out) Try.underlying23 rfl (by kernel_rfl)) rfl ?_; exact ⟨by first | rfl | (simp [errW_none, errW_some] <;> rfl) | (simp [*, errW_none, errW_some] <;> rfl), by repeat (first | (with_reducible first | exact HB.out | apply below_alloc | apply pw_below_drewN | apply below_drew1 | refine below_set ?_ (Aside0.out (by assumption))) | exact HB.out)⟩
    ·rw [if_neg c44] at H
     have c44b0 : decide (t317 < a0_1) = false := decide_eq_false c44; clear c44; simp only [Option.some.injEq, Prod.mk.injEq] at H; obtain ⟨rfl, rfl, rfl⟩ := H
     try go_wp2_with (first | ((with_reducible refine gate_callee (f := 28) rfl ?_); refine goesLA_ (some 42) rfl rfl Try.func28 rfl #[.int .i64 a3] rfl ?_; (with_reducible refine (sawtoothref18_Top.calls a3 t318 _ A12.out).mono ?_); rintro e w68 ⟨rfl, hb⟩; refine ⟨_, rfl, ?_⟩; replace BK310 := bdZ BK310 hb; replace BK311 := bdZ BK311 hb; replace HB := stA hb; clear hb; have hcz69_0 := czZ BK310 0 (.int .i64 a0_0); have hcz69_1 := czZ BK310 1 (.int .i64 a0_1); have hfz69_0 := blk_frozen BK310.out 0; have hfz69_1 := blk_frozen BK310.out 1; have hcz70_0 := czZ BK311 0 (.int .i64 0); have hcz70_1 := czZ BK311 1 (.int .i64 0); have hfz70_0 := blk_frozen BK311.out 0; have hfz70_1 := blk_frozen BK311.out 1))
     refine bodyPost_ret (results_ct rfl _ _ gb311 23 #[.int .i64 t313, .int .i64 t317] (0, 0) _ rfl (by (with_reducible repeat first | apply blk_drewN | apply blk_drew | apply blk_alloc); refine blk_put (cs := #[.int .i64 t313, .int .i64 0]) ?_ 1 _ rfl; (with_reducible repeat first | apply blk_drewN | apply blk_drew | apply blk_alloc); refine blk_put (cs := #[.int .i64 0, .int .i64 0]) ?_ 0 _ rfl; (with_reducible repeat first | apply blk_drewN | apply blk_drew | apply blk_alloc); exact BK311.out) Try.underlying23 rfl (by kernel_rfl)) rfl ?_; exact ⟨by first | rfl | (simp [errW_none, errW_some] <;> rfl) | (simp [*, errW_none, errW_some] <;> rfl), by repeat (first | (with_reducible first | exact HB.out | apply below_alloc | apply pw_below_drewN | apply below_drew1 | refine below_set ?_ (Aside0.out (by assumption))) | exact HB.out)⟩
  ·rw [if_neg c8] at H
   have c8b0 : (t314 == 0) = false := beq_eq_false_iff_ne.mpr c8; have c8b1 : (t314 != 0) = true := bne_iff_ne.mpr c8; simp only [Option.some.injEq, Prod.mk.injEq] at H; obtain ⟨rfl, rfl, rfl⟩ := H
   go_enter Try.func11, Try.ntmps11
   go_wp2_with (first | ((with_reducible refine gate_dst (N := 4) rfl ?_); refine box_event ?hg (N := 4) ?hd (cs := #[.int .i64 a0_0, .int .i64 a0_1]) (t := 23) ?hr ?_; (case hd => rfl); (case hg => rfl); (case hr => first | (go_simp; done) | (go_simp; rfl)); intro gb310 hg w71 hbox hb; have BK310 := Aside0.mk (hbox); obtain ⟨GW310, nHB⟩ := geA hg hb; have GE310 := GW310; replace HB := nHB; clear nHB; clear hb hbox hg) | ((with_reducible refine gate_dst (N := 8) rfl ?_); refine box_event ?hg (N := 8) ?hd (cs := #[.int .i64 0, .int .i64 0]) (t := 23) ?hr ?_; (case hd => rfl); (case hg => rfl); (case hr => first | (go_simp; done) | (go_simp; rfl)); intro gb311 hg w72 hbox hb; have BK311 := Aside0.mk (hbox); obtain ⟨GW311, nHB⟩ := geA hg hb; have GE311 := GW311; obtain ⟨NB310_311, NB311_310, nBK⟩ := nbA BK310 hg hb; replace BK310 := nBK; clear nBK; replace HB := nHB; clear nHB; clear hb hbox hg; have hnb73 := NB310_311.out; have hnc73 := NB311_310.out; have hcz74_0 := czZ BK310 0 (.int .i64 a0_0); have hcz74_1 := czZ BK310 1 (.int .i64 a0_1); have hfz74_0 := blk_frozen BK310.out 0; have hfz74_1 := blk_frozen BK310.out 1) | ((with_reducible refine gate_callee (f := 15) rfl ?_); refine goesLA_ (some 15) rfl rfl Try.func15 rfl #[.agg #[.int .i64 a0_0, .int .i64 a0_1]] rfl ?_; (with_reducible refine (sawtoothref18_CheckS.calls a0_0 a0_1 true _ A5.out).mono ?_); rintro e w75 ⟨rfl, hb⟩; refine ⟨_, rfl, ?_⟩; replace BK310 := bdZ BK310 hb; replace BK311 := bdZ BK311 hb; replace HB := stA hb; clear hb; have hcz76_0 := czZ BK310 0 (.int .i64 a0_0); have hcz76_1 := czZ BK310 1 (.int .i64 a0_1); have hfz76_0 := blk_frozen BK310.out 0; have hfz76_1 := blk_frozen BK310.out 1) | ((with_reducible refine gate_callee (f := 24) rfl ?_); refine goesLA_ (some 23) rfl rfl Try.func24 rfl #[.int .i64 a0_0, .int .i64 a1] rfl ?_; (with_reducible refine (sawtoothref05_StepS.calls a0_0 a1 t313 t314 _ A7.out).mono ?_); rintro e w' ⟨rfl, ⟨nd, rfl⟩⟩; refine ⟨_, rfl, ?_⟩; (try (rw [drewN_self w75]; generalize hq_ : World.drewN w75 _ = w75; have n0_ : Aside0 (w75.heap[gb310]? = some (.cells #[.int .i64 a0_0, .int .i64 a0_1] 23 (0, 0))) := ⟨by rw [← hq_]; exact (by (with_reducible repeat first | apply blk_drewN | apply blk_drew | apply blk_alloc); exact BK310.out)⟩; have n1_ : Aside0 (w75.heap[gb311]? = some (.cells #[.int .i64 0, .int .i64 0] 23 (0, 0))) := ⟨by rw [← hq_]; exact (by (with_reducible repeat first | apply blk_drewN | apply blk_drew | apply blk_alloc); exact BK311.out)⟩; have n2_ : Aside0 (Below w.heap.size w w75) := ⟨by rw [← hq_]; exact (by repeat (first | (with_reducible first | exact HB.out | apply below_alloc | apply pw_below_drewN | apply below_drew1 | refine below_set ?_ (Aside0.out (by assumption))) | exact HB.out))⟩; clear BK310 BK311 HB hq_; have BK310 := n0_; have BK311 := n1_; have HB := n2_; clear n0_ n1_ n2_)); have hcz77_0 := czZ BK310 0 (.int .i64 a0_0); have hcz77_1 := czZ BK310 1 (.int .i64 a0_1); have hfz77_0 := blk_frozen BK310.out 0; have hfz77_1 := blk_frozen BK310.out 1; have hcz78_0 := czZ BK311 0 (.int .i64 0); have hcz78_1 := czZ BK311 1 (.int .i64 0); have hfz78_0 := blk_frozen BK311.out 0; have hfz78_1 := blk_frozen BK311.out 1))
   refine bodyPost_ret (results_ct rfl _ _ gb311 23 #[.int .i64 a0_0, .int .i64 a0_1] (0, 0) _ rfl (by (with_reducible repeat first | apply blk_drewN | apply blk_drew | apply blk_alloc); refine blk_put (cs := #[.int .i64 a0_0, .int .i64 0]) ?_ 1 _ rfl; (with_reducible repeat first | apply blk_drewN | apply blk_drew | apply blk_alloc); refine blk_put (cs := #[.int .i64 0, .int .i64 0]) ?_ 0 _ rfl; (with_reducible repeat first | apply blk_drewN | apply blk_drew | apply blk_alloc); exact BK311.out) Try.underlying23 rfl (by kernel_rfl)) rfl ?_; exact ⟨by first | rfl | (simp [errW_none, errW_some] <;> rfl) | (simp [*, errW_none, errW_some] <;> rfl), by repeat (first | (with_reducible first | exact HB.out | apply below_alloc | apply pw_below_drewN | apply below_drew1 | refine below_set ?_ (Aside0.out (by assumption))) | exact HB.out)⟩
 ·replace c6 := Bool.eq_false_iff.mpr c6
  subst c6
  have H1 : (some (a0_0, a0_1, 201)) = some (r1, r2, r3) := by rw [if_neg (show ¬ (false = true) by decide)] at H; exact H
  clear H; have H := H1; clear H1; simp only [Option.some.injEq, Prod.mk.injEq] at H; obtain ⟨rfl, rfl, rfl⟩ := H
  go_enter Try.func11, Try.ntmps11
  go_wp2_with (first | ((with_reducible refine gate_dst (N := 4) rfl ?_); refine box_event ?hg (N := 4) ?hd (cs := #[.int .i64 a0_0, .int .i64 a0_1]) (t := 23) ?hr ?_; (case hd => rfl); (case hg => rfl); (case hr => first | (go_simp; done) | (go_simp; rfl)); intro gb310 hg w79 hbox hb; have BK310 := Aside0.mk (hbox); obtain ⟨GW310, nHB⟩ := geA hg hb; have GE310 := GW310; replace HB := nHB; clear nHB; clear hb hbox hg) | ((with_reducible refine gate_dst (N := 8) rfl ?_); refine box_event ?hg (N := 8) ?hd (cs := #[.int .i64 0, .int .i64 0]) (t := 23) ?hr ?_; (case hd => rfl); (case hg => rfl); (case hr => first | (go_simp; done) | (go_simp; rfl)); intro gb311 hg w80 hbox hb; have BK311 := Aside0.mk (hbox); obtain ⟨GW311, nHB⟩ := geA hg hb; have GE311 := GW311; obtain ⟨NB310_311, NB311_310, nBK⟩ := nbA BK310 hg hb; replace BK310 := nBK; clear nBK; replace HB := nHB; clear nHB; clear hb hbox hg; have hnb81 := NB310_311.out; have hnc81 := NB311_310.out; have hcz82_0 := czZ BK310 0 (.int .i64 a0_0); have hcz82_1 := czZ BK310 1 (.int .i64 a0_1); have hfz82_0 := blk_frozen BK310.out 0; have hfz82_1 := blk_frozen BK310.out 1) | ((with_reducible refine gate_callee (f := 15) rfl ?_); refine goesLA_ (some 15) rfl rfl Try.func15 rfl #[.agg #[.int .i64 a0_0, .int .i64 a0_1]] rfl ?_; (with_reducible refine (sawtoothref18_CheckS.calls a0_0 a0_1 false _ A5.out).mono ?_); rintro e w83 ⟨rfl, hb⟩; refine ⟨_, rfl, ?_⟩; replace BK310 := bdZ BK310 hb; replace BK311 := bdZ BK311 hb; replace HB := stA hb; clear hb; have hcz84_0 := czZ BK310 0 (.int .i64 a0_0); have hcz84_1 := czZ BK310 1 (.int .i64 a0_1); have hfz84_0 := blk_frozen BK310.out 0; have hfz84_1 := blk_frozen BK310.out 1; have hcz85_0 := czZ BK311 0 (.int .i64 0); have hcz85_1 := czZ BK311 1 (.int .i64 0); have hfz85_0 := blk_frozen BK311.out 0; have hfz85_1 := blk_frozen BK311.out 1))
  refine bodyPost_ret (results_ct rfl _ _ gb311 23 #[.int .i64 a0_0, .int .i64 a0_1] (0, 0) _ rfl (by (with_reducible repeat first | apply blk_drewN | apply blk_drew | apply blk_alloc); refine blk_put (cs := #[.int .i64 a0_0, .int .i64 0]) ?_ 1 _ rfl; (with_reducible repeat first | apply blk_drewN | apply blk_drew | apply blk_alloc); refine blk_put (cs := #[.int .i64 0, .int .i64 0]) ?_ 0 _ rfl; (with_reducible repeat first | apply blk_drewN | apply blk_drew | apply blk_alloc); exact BK311.out) Try.underlying23 rfl (by kernel_rfl)) rfl ?_; exact ⟨by first | rfl | (simp [errW_none, errW_some] <;> rfl) | (simp [*, errW_none, errW_some] <;> rfl), by repeat (first | (with_reducible first | exact HB.out | apply below_alloc | apply pw_below_drewN | apply below_drew1 | refine below_set ?_ (Aside0.out (by assumption))) | exact HB.out)⟩

/-! ### sawtoothref18_FillS: pure, behind function 11 -/
section
open Go.Proofs.Ytidpdaiolkcgnaa.Sp
noncomputable def sawtoothref18_FillS.f (t : Int) (h : Int) (u : Int) (r : Int) (m : Int) : Option (Int × Int × Int) := need (I h) (some (fillB t h u r m))
theorem sawtoothref18_FillS.eq {t : Int} {h : Int} {u : Int} {r : Int} {m : Int} (h1 : I h) : sawtoothref18_FillS.f t h u r m = some (fillB t h u r m) := need_pos h1
theorem sawtoothref18_Fill.main {t : Int} {h : Int} {u : Int} {r : Int} {m : Int} (h1 : I h) : sawtoothref18_Fill.f t h u r m = some (fillB t h u r m) := by
 unfold sawtoothref18_Fill.f sawtoothref18_Top.f sawtoothref18_taken.f fillB
 simp only [sawtoothref18_CheckS.eq, sawtoothref05_StepS.eq, sawtoothref01_ClampS.eq, Option.bind_some]
 by_cases c : bOk t h = true
 ·obtain ⟨b1, b2, b3, b4⟩ := bOk_iff.1 c
  rw [if_pos c, if_pos c]
  by_cases cu : 0 ≤ u ∧ u ≤ 1099511627776
  ·rw [if_pos cu, if_pos cu]
   by_cases ct : u < t
   ·rw [if_pos ct, if_pos ct]; simp
   ·rw [if_neg ct, if_neg ct]
    have r1 := clamp_bd (a := r) (low := 0) (high := 1099511627776) (by omega); have m1 := clamp_bd (a := m) (low := 0) (high := 1099511627776) (by omega)
    rw [if_pos rfl, w64 (x := clamp m 0 1099511627776 * 1000000) (by omega), w64 (x := u - t) (by omega), sawtoothref01_MulS.eq (by omega) (by omega)]
    simp only [Option.bind_some]
    rw [sawtoothref01_AddS.eq h1 (near_I _)]
    simp only [Option.bind_some]; have p0 := Int.mul_nonneg r1.1 (show 0 ≤ u - t by omega)
    unfold fillH topB
    generalize clamp r 0 1099511627776 * (u - t) = p at *
    generalize clamp m 0 1099511627776 = q at *
    have hn : near p = if 9223372036854775807 < p then 9223372036854775807 else p := by unfold near; split <;> (try split) <;> first | rfl | omega
    have hn2 : near (h + near p) = if 9223372036854775807 < h + p then 9223372036854775807 else h + p := by rw [hn]; unfold near; (repeat' split) <;> first | rfl | omega
    rw [hn2]
    clear hn hn2
    by_cases k : 9223372036854775807 < h + p
    ·rw [if_pos k]; (repeat' split) <;> first | rfl | (exfalso; omega) | (congr 3; omega)
    ·rw [if_neg k]; (repeat' split) <;> first | rfl | (exfalso; omega) | (congr 3; omega)
  ·rw [if_neg cu, if_neg cu]; simp
 ·rw [if_neg c, if_neg c]
end
theorem sawtoothref18_FillS.calls (a0_0 : Int) (a0_1 : Int) (a1 : Int) (a2 : Int) (a3 : Int) (r1 : Int) (r2 : Int) (r3 : Int) (w : World) (h : sawtoothref18_FillS.f a0_0 a0_1 a1 a2 a3 = some (r1, r2, r3)) :
  Calls Try.prog 11 #[.agg #[.int .i64 a0_0, .int .i64 a0_1], .int .i64 a1, .int .i64 a2, .int .i64 a3] w fun e w' => e = .returned (.tuple #[.agg #[.int .i64 r1, .int .i64 r2], .int .i64 r3]) ∧ Below w.heap.size w w' := by
 obtain ⟨hc, h⟩ := Go.Proofs.Ytidpdaiolkcgnaa.Sp.need_some h; have h1 := hc; exact sawtoothref18_Fill.calls a0_0 a0_1 a1 a2 a3 r1 r2 r3 w (by rw [sawtoothref18_Fill.main h1]; exact h)

/-! ### sawtoothref18_Bytes: function 19 -/
noncomputable def sawtoothref18_Bytes.f (a0_0 : Int) (a0_1 : Int) : Option (Int) := (sawtoothref18_CheckS.f a0_0 a0_1).bind fun t321 => (if t321 = true then (some (wrap64 (Int.tdiv a0_1 1000000))) else (some 0))
set_option maxHeartbeats 8000000 in
set_option maxRecDepth 100000 in
theorem sawtoothref18_Bytes.calls (a0_0 : Int) (a0_1 : Int) (r : Int) (w : World) (h : sawtoothref18_Bytes.f a0_0 a0_1 = some r) :
  Calls Try.prog 19 #[.agg #[.int .i64 a0_0, .int .i64 a0_1]] w fun e w' => e = .returned (.int .i64 r) ∧ Below w.heap.size w w' := by
 have hu23 := Try.underlying23; have HB := Aside0.mk (Below.refl w.heap.size w); have H : ((sawtoothref18_CheckS.f a0_0 a0_1).bind fun t321 => (if t321 = true then (some (wrap64 (Int.tdiv a0_1 1000000))) else (some 0))) = some r := h; clear h; replace H := Option.bind_eq_some_iff.mp H; obtain ⟨t321, A20, H⟩ := H; replace H : (if t321 = true then (some (wrap64 (Int.tdiv a0_1 1000000))) else (some 0)) = some r := H; have A2 := Aside0.mk A20; clear A20
 by_cases c3 : t321 = true
 ·subst c3
  have H1 : (some (wrap64 (Int.tdiv a0_1 1000000))) = some r := by rw [if_pos rfl] at H; exact H
  clear H; have H := H1; clear H1; obtain rfl := Option.some.inj H
  go_enter Try.func19, Try.ntmps19
  go_wp2_with (first | ((with_reducible refine gate_dst (N := 1) rfl ?_); refine box_event ?hg (N := 1) ?hd (cs := #[.int .i64 a0_0, .int .i64 a0_1]) (t := 23) ?hr ?_; (case hd => rfl); (case hg => rfl); (case hr => first | (go_simp; done) | (go_simp; rfl)); intro gb320 hg w4 hbox hb; have BK320 := Aside0.mk (hbox); obtain ⟨GW320, nHB⟩ := geA hg hb; have GE320 := GW320; replace HB := nHB; clear nHB; clear hb hbox hg; have hcz5_0 := czZ BK320 0 (.int .i64 a0_0); have hcz5_1 := czZ BK320 1 (.int .i64 a0_1); have hfz5_0 := blk_frozen BK320.out 0; have hfz5_1 := blk_frozen BK320.out 1) | ((with_reducible refine gate_callee (f := 15) rfl ?_); refine goesLA_ (some 5) rfl rfl Try.func15 rfl #[.agg #[.int .i64 a0_0, .int .i64 a0_1]] rfl ?_; (with_reducible refine (sawtoothref18_CheckS.calls a0_0 a0_1 true _ A2.out).mono ?_); rintro e w6 ⟨rfl, hb⟩; refine ⟨_, rfl, ?_⟩; replace BK320 := bdZ BK320 hb; replace HB := stA hb; clear hb; have hcz7_0 := czZ BK320 0 (.int .i64 a0_0); have hcz7_1 := czZ BK320 1 (.int .i64 a0_1); have hfz7_0 := blk_frozen BK320.out 0; have hfz7_1 := blk_frozen BK320.out 1))
  go_ret
  exact ⟨by first | rfl | (simp [errW_none, errW_some] <;> rfl) | (simp [*, errW_none, errW_some] <;> rfl), by repeat (first | (with_reducible first | exact HB.out | apply below_alloc | apply pw_below_drewN | apply below_drew1 | refine below_set ?_ GE320.out) | exact HB.out)⟩
 ·replace c3 := Bool.eq_false_iff.mpr c3
  subst c3
  have H1 : (some 0) = some r := by rw [if_neg (show ¬ (false = true) by decide)] at H; exact H
  clear H; have H := H1; clear H1; obtain rfl := Option.some.inj H
  go_enter Try.func19, Try.ntmps19
  go_wp2_with (first | ((with_reducible refine gate_dst (N := 1) rfl ?_); refine box_event ?hg (N := 1) ?hd (cs := #[.int .i64 a0_0, .int .i64 a0_1]) (t := 23) ?hr ?_; (case hd => rfl); (case hg => rfl); (case hr => first | (go_simp; done) | (go_simp; rfl)); intro gb320 hg w8 hbox hb; have BK320 := Aside0.mk (hbox); obtain ⟨GW320, nHB⟩ := geA hg hb; have GE320 := GW320; replace HB := nHB; clear nHB; clear hb hbox hg; have hcz9_0 := czZ BK320 0 (.int .i64 a0_0); have hcz9_1 := czZ BK320 1 (.int .i64 a0_1); have hfz9_0 := blk_frozen BK320.out 0; have hfz9_1 := blk_frozen BK320.out 1) | ((with_reducible refine gate_callee (f := 15) rfl ?_); refine goesLA_ (some 5) rfl rfl Try.func15 rfl #[.agg #[.int .i64 a0_0, .int .i64 a0_1]] rfl ?_; (with_reducible refine (sawtoothref18_CheckS.calls a0_0 a0_1 false _ A2.out).mono ?_); rintro e w10 ⟨rfl, hb⟩; refine ⟨_, rfl, ?_⟩; replace BK320 := bdZ BK320 hb; replace HB := stA hb; clear hb))
  go_ret
  exact ⟨by first | rfl | (simp [errW_none, errW_some] <;> rfl) | (simp [*, errW_none, errW_some] <;> rfl), by repeat (first | (with_reducible first | exact HB.out | apply below_alloc | apply pw_below_drewN | apply below_drew1 | refine below_set ?_ GE320.out) | exact HB.out)⟩

/-! ### sawtoothref18_BytesS: pure, behind function 19 -/
section
open Go.Proofs.Ytidpdaiolkcgnaa.Sp
noncomputable def sawtoothref18_BytesS.f (t : Int) (h : Int) : Option (Int) := some (bytesB t h)
theorem sawtoothref18_BytesS.eq {t : Int} {h : Int}  : sawtoothref18_BytesS.f t h = some (bytesB t h) := rfl
theorem sawtoothref18_Bytes.main {t : Int} {h : Int}  : sawtoothref18_Bytes.f t h = some (bytesB t h) := by
 unfold sawtoothref18_Bytes.f bytesB
 rw [sawtoothref18_CheckS.eq]
 simp only [Option.bind_some]
 by_cases c : bOk t h = true
 ·obtain ⟨b1, b2, b3, b4⟩ := bOk_iff.1 c
  rw [if_pos c, if_pos c, Int.tdiv_eq_ediv_of_nonneg b3, w64 (by omega)]
 ·rw [if_neg c, if_neg c]
end
theorem sawtoothref18_BytesS.calls (a0_0 : Int) (a0_1 : Int) (r : Int) (w : World) (h : sawtoothref18_BytesS.f a0_0 a0_1 = some r) :
  Calls Try.prog 19 #[.agg #[.int .i64 a0_0, .int .i64 a0_1]] w fun e w' => e = .returned (.int .i64 r) ∧ Below w.heap.size w w' := by
 exact sawtoothref18_Bytes.calls a0_0 a0_1 r w (by rw [sawtoothref18_Bytes.main ]; exact h)

end Go.Proofs.Ytidpdaiolkcgnaa.Px
