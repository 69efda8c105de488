/- Printed by a program of this session (wip/tool/px.py), over the kit's print: for each Go function a Lean function, and the proof that the machine's call answers as that function says. Conditions: none beside what the theorems state. -/
import Derived.Test.YtghpecgpdhaibaaPx0
import Derived.Test.YtghpecgpdhaibaaPx25
import Derived.Test.YtghpecgpdhaibaaPx26
import Derived.Test.YtghpecgpdhaibaaPx28
import Derived.Test.YtghpecgpdhaibaaPx34
namespace Go.Proofs.Ytghpecgpdhaibaa.Px
open Go.RowKit Go.Proofs.YtghpecgpdhaibaaW.PrintWords Go.Proofs.YtghpecgpdhaibaaW.PrintLast Go.Proofs.YtghpecgpdhaibaaW.PrintMore
attribute [local go_sem] max2_int min2_int max_two min_two max_three min_three max_four min_four   -- for this text's walks alone
set_option linter.unusedVariables false
set_option linter.unusedSimpArgs false

/-! ### sawtoothlaw17_RateSpan: function 6 -/
noncomputable def sawtoothlaw17_RateSpan.f (a0 : Int) (a1 : Int) (a2 : Int) : Option (Bool) := (sawtoothlaw17_awakeS.f).bind fun t473 => ((rate_SpanS.f (wrap64 (a0)) (wrap64 (1 + (wrap64 (a1))))).bind fun t474 => ((sawtoothref02_MulS.f (wrap64 (a0)) 1000000).bind fun bt475 => (if t474 = 0 then (if t473 = true then (if t474 = 1099511627776 then (none) else ((sawtoothref02_MulS.f t474 (wrap64 (1 + (wrap64 (a1))))).bind fun bt479 => ((sawtoothref02_CmpS.f bt479.1 bt479.2.1 bt479.2.2 bt475.1 bt475.2.1 bt475.2.2).bind fun t482 => (if t482 ≥ 0 then ((rate_SpanS.f (wrap64 ((wrap64 (a0)) + (wrap64 (a2)))) (wrap64 (1 + (wrap64 (a1))))).bind fun t483 => (some (decide (t483 ≥ t474)))) else (none))))) else (none)) else ((sawtoothref02_MulS.f (wrap64 (t474 - 1)) (wrap64 (1 + (wrap64 (a1))))).bind fun bt484 => ((sawtoothref02_CmpS.f bt484.1 bt484.2.1 bt484.2.2 bt475.1 bt475.2.1 bt475.2.2).bind fun t487 => (if t473 = true then (if t474 = 1099511627776 then (if t487 < 0 then ((rate_SpanS.f (wrap64 ((wrap64 (a0)) + (wrap64 (a2)))) (wrap64 (1 + (wrap64 (a1))))).bind fun t488 => (some (decide (t488 ≥ t474)))) else (none)) else ((sawtoothref02_MulS.f t474 (wrap64 (1 + (wrap64 (a1))))).bind fun bt489 => ((sawtoothref02_CmpS.f bt489.1 bt489.2.1 bt489.2.2 bt475.1 bt475.2.1 bt475.2.2).bind fun t492 => (if t492 ≥ 0 then (if t487 < 0 then ((rate_SpanS.f (wrap64 ((wrap64 (a0)) + (wrap64 (a2)))) (wrap64 (1 + (wrap64 (a1))))).bind fun t493 => (some (decide (t493 ≥ t474)))) else (none)) else (none))))) else (none)))))))
def sawtoothlaw17_RateSpan.T5 : Bool × List (List Nat × List Nat) := (true, [([], []), ([0], [0]), ([1], [1]), ([2], [2]), ([3, 2], [2, 3]), ([2], [2]), ([4, 5, 2, 2], [2, 4, 5]), ([2], [2]), ([6, 7, 6, 2], [2, 6, 7]), ([8, 2], [2, 8]), ([2, 9], [2, 9]), ([10, 8, 0, 1, 2, 3, 4, 5, 6, 7, 8, 9, 10], [10])])
def sawtoothlaw17_RateSpan.B5 : List Nat := [0, 1, 3, 7, 15, 7, 63, 7, 255, 511, 1023, 2047]
theorem sawtoothlaw17_RateSpan.tab5 : rtab .any (opsOf Try.f6 5) = sawtoothlaw17_RateSpan.T5 := by kernel_rfl
theorem sawtoothlaw17_RateSpan.bits5 : waitsOk sawtoothlaw17_RateSpan.T5.2 sawtoothlaw17_RateSpan.B5 = true := by kernel_rfl
def sawtoothlaw17_RateSpan.T6 : Bool × List (List Nat × List Nat) := (true, [([], []), ([0], [0]), ([1], [1]), ([2, 1], [1, 2]), ([3, 1, 1], [1, 3]), ([4], [4]), ([4], [4]), ([5, 6, 4, 4], [4, 5, 6]), ([4], [4]), ([7, 8, 7, 4], [4, 7, 8]), ([9, 4], [4, 9]), ([4, 10, 1], [1, 4, 10]), ([1, 11], [1, 11]), ([12, 9], [12]), ([13], [13]), ([13, 14], [13, 14]), ([15, 13], [15]), ([16], [16]), ([17, 16], [16, 17]), ([16], [16]), ([19, 16], [16, 19]), ([18, 20, 16], [16, 18, 20]), ([16], [16]), ([21, 22, 16, 16], [16, 21, 22]), ([16], [16]), ([23, 24, 16], [16, 23, 24]), ([16, 25], [16, 25]), ([26, 23, 0, 1, 2, 3, 4, 5, 6, 7, 8, 9, 10, 11, 12, 13, 14, 15, 16, 17, 18, 19, 20, 21, 22, 23, 24, 25, 26], [26])])
def sawtoothlaw17_RateSpan.B6 : List Nat := [0, 1, 3, 7, 15, 31, 31, 127, 31, 511, 1023, 2047, 4095, 8191, 16383, 32767, 65535, 131071, 262143, 131071, 655359, 2097151, 131071, 8388607, 131071, 33554431, 67108863, 134217727]
theorem sawtoothlaw17_RateSpan.tab6 : rtab .any (opsOf Try.f6 6) = sawtoothlaw17_RateSpan.T6 := by kernel_rfl
theorem sawtoothlaw17_RateSpan.bits6 : waitsOk sawtoothlaw17_RateSpan.T6.2 sawtoothlaw17_RateSpan.B6 = true := by kernel_rfl
set_option maxHeartbeats 8000000 in
set_option maxRecDepth 100000 in
theorem sawtoothlaw17_RateSpan.calls (a0 : Int) (a1 : Int) (a2 : Int) (r : Bool) (w : World) (h : sawtoothlaw17_RateSpan.f a0 a1 a2 = some r) :
  Calls Try.prog 6 #[.int .u32 a0, .int .u32 a1, .int .u32 a2] w fun e w' => e = .returned (.bool r) ∧ Below w.heap.size w w' := by
 have hu35 := Try.underlying35; have HB := Aside0.mk (Below.refl w.heap.size w); have H : ((sawtoothlaw17_awakeS.f).bind fun t473 => ((rate_SpanS.f (wrap64 (a0)) (wrap64 (1 + (wrap64 (a1))))).bind fun t474 => ((sawtoothref02_MulS.f (wrap64 (a0)) 1000000).bind fun bt475 => (if t474 = 0 then (if t473 = true then (if t474 = 1099511627776 then (none) else ((sawtoothref02_MulS.f t474 (wrap64 (1 + (wrap64 (a1))))).bind fun bt479 => ((sawtoothref02_CmpS.f bt479.1 bt479.2.1 bt479.2.2 bt475.1 bt475.2.1 bt475.2.2).bind fun t482 => (if t482 ≥ 0 then ((rate_SpanS.f (wrap64 ((wrap64 (a0)) + (wrap64 (a2)))) (wrap64 (1 + (wrap64 (a1))))).bind fun t483 => (some (decide (t483 ≥ t474)))) else (none))))) else (none)) else ((sawtoothref02_MulS.f (wrap64 (t474 - 1)) (wrap64 (1 + (wrap64 (a1))))).bind fun bt484 => ((sawtoothref02_CmpS.f bt484.1 bt484.2.1 bt484.2.2 bt475.1 bt475.2.1 bt475.2.2).bind fun t487 => (if t473 = true then (if t474 = 1099511627776 then (if t487 < 0 then ((rate_SpanS.f (wrap64 ((wrap64 (a0)) + (wrap64 (a2)))) (wrap64 (1 + (wrap64 (a1))))).bind fun t488 => (some (decide (t488 ≥ t474)))) else (none)) else ((sawtoothref02_MulS.f t474 (wrap64 (1 + (wrap64 (a1))))).bind fun bt489 => ((sawtoothref02_CmpS.f bt489.1 bt489.2.1 bt489.2.2 bt475.1 bt475.2.1 bt475.2.2).bind fun t492 => (if t492 ≥ 0 then (if t487 < 0 then ((rate_SpanS.f (wrap64 ((wrap64 (a0)) + (wrap64 (a2)))) (wrap64 (1 + (wrap64 (a1))))).bind fun t493 => (some (decide (t493 ≥ t474)))) else (none)) else (none))))) else (none)))))))) = some r := h; clear h; replace H := Option.bind_eq_some_iff.mp H; obtain ⟨t473, A40, H⟩ := H; (try dsimp only at H); have A4 := Aside0.mk A40; clear A40; replace H := Option.bind_eq_some_iff.mp H; obtain ⟨t474, A50, H⟩ := H; (try dsimp only at H); have A5 := Aside0.mk A50; clear A50; replace H := Option.bind_eq_some_iff.mp H; obtain ⟨⟨t475, t476, t477⟩, A60, H⟩ := H; (try dsimp only at H); have A6 := Aside0.mk A60; clear A60
 by_cases c7 : t474 = 0
 ·rw [if_pos c7] at H
  have c7b0 : (t474 == 0) = true := beq_iff_eq.mpr c7; have c7b1 : (t474 != 0) = false := bne_eq_false_iff_eq.mpr c7; clear c7
  by_cases c8 : t473 = true
  ·subst c8
   have H1 : (if t474 = 1099511627776 then (none) else ((sawtoothref02_MulS.f t474 (wrap64 (1 + (wrap64 (a1))))).bind fun bt479 => ((sawtoothref02_CmpS.f bt479.1 bt479.2.1 bt479.2.2 t475 t476 t477).bind fun t482 => (if t482 ≥ 0 then ((rate_SpanS.f (wrap64 ((wrap64 (a0)) + (wrap64 (a2)))) (wrap64 (1 + (wrap64 (a1))))).bind fun t483 => (some (decide (t483 ≥ t474)))) else (none))))) = some r := by rw [if_pos rfl] at H; exact H
   clear H; have H := H1; clear H1
   by_cases c9 : t474 = 1099511627776
   ·rw [if_pos c9] at H
    exact absurd H (by simp)
   ·rw [if_neg c9] at H
    have c9b0 : (t474 == 1099511627776) = false := beq_eq_false_iff_ne.mpr c9; have c9b1 : (t474 != 1099511627776) = true := bne_iff_ne.mpr c9; replace H := Option.bind_eq_some_iff.mp H; obtain ⟨⟨t479, t480, t481⟩, A100, H⟩ := H; (try dsimp only at H); have A10 := Aside0.mk A100; clear A100; replace H := Option.bind_eq_some_iff.mp H; obtain ⟨t482, A110, H⟩ := H; replace H : (if t482 ≥ 0 then ((rate_SpanS.f (wrap64 ((wrap64 (a0)) + (wrap64 (a2)))) (wrap64 (1 + (wrap64 (a1))))).bind fun t483 => (some (decide (t483 ≥ t474)))) else (none)) = some r := H; have A11 := Aside0.mk A110; clear A110
    by_cases c12 : t482 ≥ 0
    ·rw [if_pos c12] at H
     have c12b0 : decide (0 ≤ t482) = true := decide_eq_true c12; clear c12; replace H := Option.bind_eq_some_iff.mp H; obtain ⟨t483, A130, H⟩ := H; replace H : (some (decide (t483 ≥ t474))) = some r := H; have A13 := Aside0.mk A130; clear A130; obtain rfl := Option.some.inj H
     go_enter Try.func6, Try.ntmps6
     try go_wp2_with (first | ((with_reducible refine gate_callee (f := 15) rfl ?_); refine goesLA_ (some 12) rfl rfl Try.func15 rfl #[] rfl ?_; (with_reducible refine (sawtoothlaw17_awakeS.calls  true _ A4.out).mono ?_); rintro e w14 ⟨rfl, hb⟩; refine ⟨_, rfl, ?_⟩; replace HB := stA hb; clear hb) | ((with_reducible refine gate_callee (f := 20) rfl ?_); refine goesLA_ (some 19) rfl rfl Try.func20 rfl #[.int .i64 (wrap64 (a0)), .int .i64 (wrap64 (1 + (wrap64 (a1))))] rfl ?_; (with_reducible refine (rate_SpanS.calls (wrap64 (a0)) (wrap64 (1 + (wrap64 (a1)))) t474 _ A5.out).mono ?_); rintro e w15 ⟨rfl, hb⟩; refine ⟨_, rfl, ?_⟩; replace HB := stA hb; clear hb) | ((with_reducible refine gate_callee (f := 22) rfl ?_); refine goesLA_ (some 22) rfl rfl Try.func22 rfl #[.int .i64 (wrap64 (a0)), .int .i64 1000000] rfl ?_; (with_reducible refine (sawtoothref02_MulS.calls (wrap64 (a0)) 1000000 t475 t476 t477 _ A6.out).mono ?_); rintro e w16 ⟨rfl, hb⟩; refine ⟨_, rfl, ?_⟩; replace HB := stA hb; clear hb) | ((with_reducible refine gate_dst (N := 10) rfl ?_); refine box_event ?hg (N := 10) ?hd (cs := #[.bool false, .int .u64 0, .int .u64 0]) (t := 35) ?hr ?_; (case hd => rfl); (case hg => rfl); (case hr => first | (go_simp; done) | (go_simp; rfl)); intro gb478 hg w17 hbox hb; have BK478 := Aside0.mk (hbox); obtain ⟨GW478, nHB⟩ := geA hg hb; have GE478 := GW478; replace HB := nHB; clear nHB; clear hb hbox hg; have hcz18_0 := czZ BK478 0 (.bool false); have hcz18_1 := czZ BK478 1 (.int .u64 0); have hcz18_2 := czZ BK478 2 (.int .u64 0); have hfz18_0 := blk_frozen BK478.out 0; have hfz18_1 := blk_frozen BK478.out 1; have hfz18_2 := blk_frozen BK478.out 2))
     have n0_ : Aside0 ((((w17.setCell ⟨gb478, 0, none⟩ (.bool t475)).setCell ⟨gb478, 1, none⟩ (.int .u64 t476)).setCell ⟨gb478, 2, none⟩ (.int .u64 t477)).heap[gb478]? = some (.cells #[.bool t475, .int .u64 t476, .int .u64 t477] 35 (0, 0))) := ⟨by (with_reducible repeat first | apply blk_drewN | apply blk_drew | apply blk_alloc); refine blk_put (cs := #[.bool t475, .int .u64 t476, .int .u64 0]) ?_ 2 _ rfl; (with_reducible repeat first | apply blk_drewN | apply blk_drew | apply blk_alloc); refine blk_put (cs := #[.bool t475, .int .u64 0, .int .u64 0]) ?_ 1 _ rfl; (with_reducible repeat first | apply blk_drewN | apply blk_drew | apply blk_alloc); refine blk_put (cs := #[.bool false, .int .u64 0, .int .u64 0]) ?_ 0 _ rfl; (with_reducible repeat first | apply blk_drewN | apply blk_drew | apply blk_alloc); exact BK478.out⟩
     have n1_ : Aside0 (Below w.heap.size w (((w17.setCell ⟨gb478, 0, none⟩ (.bool t475)).setCell ⟨gb478, 1, none⟩ (.int .u64 t476)).setCell ⟨gb478, 2, none⟩ (.int .u64 t477))) := ⟨by repeat (first | (with_reducible first | exact HB.out | apply below_alloc | apply pw_below_drewN | apply below_drew1 | refine below_set ?_ GE478.out) | exact HB.out)⟩
     (try clear BK478); (try clear HB)
     generalize (((w17.setCell ⟨gb478, 0, none⟩ (.bool t475)).setCell ⟨gb478, 1, none⟩ (.int .u64 t476)).setCell ⟨gb478, 2, none⟩ (.int .u64 t477)) = w19 at n0_ n1_ ⊢
     have BK478 := n0_; have HB := n1_; clear n0_ n1_; replace BK478 := Aside0.mk (blk_drew BK478.out); replace HB := Aside0.mk (below_drew1 HB.out); refine start_ (n := 12) (S := fun w' => True) (ds := []) #[N,N,N,N,N,N,N,N,N,N,N,N] (by kernel_rfl) rfl rfl trivial (fun hHeld => ?_); refine with_tabW sawtoothlaw17_RateSpan.tab5 sawtoothlaw17_RateSpan.bits5 (fun HT_ HW_ => ?_)
     generalize w19.drew = w20 at BK478 HB hHeld ⊢
     refine pureA_ (i := 0) (N := some 23) #[Y,N,N,N,N,N,N,N,N,N,N,N] rfl rfl (any_of HT_.out (by kernel_rfl)) ?_
     refine pureA_ (i := 1) (N := some 24) #[Y,Y,N,N,N,N,N,N,N,N,N,N] rfl rfl (any_of HT_.out (by kernel_rfl)) ?_
     refine pureA_ (i := 2) (N := some 25) #[Y,Y,Y,N,N,N,N,N,N,N,N,N] rfl rfl (any_of HT_.out (by kernel_rfl)) ?_
     refine pure_ (i := 3) (N := some 26) (v := undef) (a' := ?_) #[Y,Y,Y,Y,N,N,N,N,N,N,N,N] rfl rfl (any_of HT_.out (by kernel_rfl)) (fun _ _ _ h => h) (Or.inr ⟨by rfl, rfl⟩) ?_ ?_; rotate_left
     ·simp only [Act.put, sA, sB, sC, i64_w, i32_w]
      rfl
     refine pure_ (i := 4) (N := some 27) (v := undef) (a' := ?_) #[Y,Y,Y,Y,Y,N,N,N,N,N,N,N] rfl rfl (any_of HT_.out (by kernel_rfl)) (fun _ _ _ h => h) (Or.inr ⟨by rfl, rfl⟩) ?_ ?_; rotate_left
     ·simp only [Act.put, sA, sB, sC, i64_w, i32_w]
      rfl
     refine pure_ (i := 5) (N := some 28) (v := undef) (a' := ?_) #[Y,Y,Y,Y,Y,Y,N,N,N,N,N,N] rfl rfl (any_of HT_.out (by kernel_rfl)) (fun _ _ _ h => h) (Or.inr ⟨by rfl, rfl⟩) ?_ ?_; rotate_left
     ·simp only [Act.put, sA, sB, sC, i64_w, i32_w]
      rfl
     refine pure_ (i := 6) (N := some 29) (v := undef) (a' := ?_) #[Y,Y,Y,Y,Y,Y,Y,N,N,N,N,N] rfl rfl (any_of HT_.out (by kernel_rfl)) (fun _ _ _ h => h) (Or.inr ⟨by rfl, rfl⟩) ?_ ?_; rotate_left
     ·simp only [Act.put, sA, sB, sC, i64_w, i32_w]
      rfl
     refine pure_ (i := 7) (N := some 30) (v := undef) (a' := ?_) #[Y,Y,Y,Y,Y,Y,Y,Y,N,N,N,N] rfl rfl (any_of HT_.out (by kernel_rfl)) (fun _ _ _ h => h) (Or.inr ⟨by rfl, rfl⟩) ?_ ?_; rotate_left
     ·simp only [Act.put, sA, sB, sC, i64_w, i32_w]
      rfl
     refine pure_ (i := 8) (N := some 31) (v := undef) (a' := ?_) #[Y,Y,Y,Y,Y,Y,Y,Y,Y,N,N,N] rfl rfl (any_of HT_.out (by kernel_rfl)) (fun _ _ _ h => h) (Or.inr ⟨by rfl, rfl⟩) ?_ ?_; rotate_left
     ·simp only [Act.put, sA, sB, sC, i64_w, i32_w]
      rfl
     refine pure_ (i := 9) (N := some 32) (v := undef) (a' := ?_) #[Y,Y,Y,Y,Y,Y,Y,Y,Y,Y,N,N] rfl rfl (any_of HT_.out (by kernel_rfl)) (fun _ _ _ h => h) (Or.inr ⟨by rfl, rfl⟩) ?_ ?_; rotate_left
     ·simp only [Act.put, sA, sB, sC, i64_w, i32_w]
      rfl
     refine pureA_ (i := 10) (N := some 33) #[Y,Y,Y,Y,Y,Y,Y,Y,Y,Y,Y,N] rfl rfl (any_of HT_.out (by kernel_rfl)) ?_
     refine pureA_ (i := 11) (N := some 11) #[Y,Y,Y,Y,Y,Y,Y,Y,Y,Y,Y,Y] rfl rfl (any_of HT_.out (by kernel_rfl)) ?_
     refine done_ (done_of HT_.out (by kernel_rfl)) ?_
     try go_wp2
     replace BK478 := Aside0.mk (blk_drew BK478.out); replace HB := Aside0.mk (below_drew1 HB.out); refine start_ (n := 28) (S := fun w' => w'.cell? ⟨gb478, 0, none⟩ = some (.bool t475) ∧ w'.cell? ⟨gb478, 1, none⟩ = some (.int .u64 t476) ∧ w'.cell? ⟨gb478, 2, none⟩ = some (.int .u64 t477)) (ds := []) #[N,N,N,N,N,N,N,N,N,N,N,N,N,N,N,N,N,N,N,N,N,N,N,N,N,N,N,N] (by kernel_rfl) rfl rfl ⟨(blk_cell BK478.out 0).trans rfl, (blk_cell BK478.out 1).trans rfl, (blk_cell BK478.out 2).trans rfl⟩ (fun hHeld => ?_); refine with_tabW sawtoothlaw17_RateSpan.tab6 sawtoothlaw17_RateSpan.bits6 (fun HT_ HW_ => ?_)
     generalize w20.drew = w21 at BK478 HB hHeld ⊢
     refine pureA_ (i := 0) (N := some 34) #[Y,N,N,N,N,N,N,N,N,N,N,N,N,N,N,N,N,N,N,N,N,N,N,N,N,N,N,N] rfl rfl (any_of HT_.out (by kernel_rfl)) ?_
     refine pureA_ (i := 1) (N := some 35) #[Y,Y,N,N,N,N,N,N,N,N,N,N,N,N,N,N,N,N,N,N,N,N,N,N,N,N,N,N] rfl rfl (any_of HT_.out (by kernel_rfl)) ?_
     refine pureA_ (i := 2) (N := some 36) #[Y,Y,Y,N,N,N,N,N,N,N,N,N,N,N,N,N,N,N,N,N,N,N,N,N,N,N,N,N] rfl rfl (any_of HT_.out (by kernel_rfl)) ?_
     refine pureA_ (i := 3) (N := some 37) #[Y,Y,Y,Y,N,N,N,N,N,N,N,N,N,N,N,N,N,N,N,N,N,N,N,N,N,N,N,N] rfl rfl (any_of HT_.out (by kernel_rfl)) ?_
     refine pureA_ (i := 4) (N := some 38) #[Y,Y,Y,Y,Y,N,N,N,N,N,N,N,N,N,N,N,N,N,N,N,N,N,N,N,N,N,N,N] rfl rfl (any_of HT_.out (by kernel_rfl)) ?_
     refine pureA_ (i := 5) (N := some 39) #[Y,Y,Y,Y,Y,Y,N,N,N,N,N,N,N,N,N,N,N,N,N,N,N,N,N,N,N,N,N,N] rfl rfl (any_of HT_.out (by kernel_rfl)) ?_
     refine pureA_ (i := 6) (N := some 40) #[Y,Y,Y,Y,Y,Y,Y,N,N,N,N,N,N,N,N,N,N,N,N,N,N,N,N,N,N,N,N,N] rfl rfl (any_of HT_.out (by kernel_rfl)) ?_
     refine take_ (i := 8) (N := some 42) (v := ?_) (a' := ?_) #[Y,Y,Y,Y,Y,Y,Y,N,Y,N,N,N,N,N,N,N,N,N,N,N,N,N,N,N,N,N,N,N] rfl rfl (take_ofW HT_.out HW_.out (by kernel_rfl)) (fun _ _ _ h => h) (Or.inl ⟨by rfl, ?_⟩) hHeld ?_ ?_; rotate_left
     ·rintro w' ⟨s0, s1, s2⟩; go_simp
      with_reducible rfl
     rotate_left
     ·simp only [Act.put, sA, sB, sC, i64_w, i32_w]
      rfl
     refine one_ (i := 7) (N := some 41) #[Y,Y,Y,Y,Y,Y,Y,Y,Y,N,N,N,N,N,N,N,N,N,N,N,N,N,N,N,N,N,N,N] rfl rfl (one_of HT_.out (by kernel_rfl)) (by decide) (fun K hK => ?_); refine goesA_ Try.func22 rfl #[.int .i64 t474, .int .i64 (wrap64 (1 + (wrap64 (a1))))] (by rfl) rfl rfl ?_
     with_reducible refine (sawtoothref02_MulS.calls t474 (wrap64 (1 + (wrap64 (a1)))) t479 t480 t481 _ A10.out).mono ?_
     rintro e w22 ⟨rfl, hb⟩; refine ⟨_, rfl, ?_⟩; replace BK478 := bbZ BK478 hb; replace HB := Aside0.mk (below_step HB.out hb); clear hb; refine hK.out _ _ ⟨(blk_cell BK478.out 0).trans rfl, (blk_cell BK478.out 1).trans rfl, (blk_cell BK478.out 2).trans rfl⟩ (fun hHeld => ?_); clear hK K; refine normA_ (some 41) ?_
     refine one_ (i := 9) (N := some 43) #[Y,Y,Y,Y,Y,Y,Y,Y,Y,Y,N,N,N,N,N,N,N,N,N,N,N,N,N,N,N,N,N,N] rfl rfl (one_of HT_.out (by kernel_rfl)) (by decide) (fun K hK => ?_); refine goesA_ Try.func23 rfl #[.agg #[.bool t479, .int .u64 t480, .int .u64 t481], .agg #[.bool t475, .int .u64 t476, .int .u64 t477]] (by rfl) rfl rfl ?_
     with_reducible refine (sawtoothref02_CmpS.calls t479 t480 t481 t475 t476 t477 t482 _ A11.out).mono ?_
     rintro e w23 ⟨rfl, hb⟩; refine ⟨_, rfl, ?_⟩; replace BK478 := bbZ BK478 hb; replace HB := Aside0.mk (below_step HB.out hb); clear hb; refine hK.out _ _ ⟨(blk_cell BK478.out 0).trans rfl, (blk_cell BK478.out 1).trans rfl, (blk_cell BK478.out 2).trans rfl⟩ (fun hHeld => ?_); clear hK K; refine normA_ (some 43) ?_
     refine pureA_ (i := 10) (N := some 44) #[Y,Y,Y,Y,Y,Y,Y,Y,Y,Y,Y,N,N,N,N,N,N,N,N,N,N,N,N,N,N,N,N,N] rfl rfl (any_of HT_.out (by kernel_rfl)) ?_
     refine pureA_ (i := 11) (N := some 45) #[Y,Y,Y,Y,Y,Y,Y,Y,Y,Y,Y,Y,N,N,N,N,N,N,N,N,N,N,N,N,N,N,N,N] rfl rfl (any_of HT_.out (by kernel_rfl)) ?_
     refine pureA_ (i := 12) (N := some 46) #[Y,Y,Y,Y,Y,Y,Y,Y,Y,Y,Y,Y,Y,N,N,N,N,N,N,N,N,N,N,N,N,N,N,N] rfl rfl (any_of HT_.out (by kernel_rfl)) ?_
     refine pureA_ (i := 13) (N := some 47) #[Y,Y,Y,Y,Y,Y,Y,Y,Y,Y,Y,Y,Y,Y,N,N,N,N,N,N,N,N,N,N,N,N,N,N] rfl rfl (any_of HT_.out (by kernel_rfl)) ?_
     refine pureA_ (i := 14) (N := some 48) #[Y,Y,Y,Y,Y,Y,Y,Y,Y,Y,Y,Y,Y,Y,Y,N,N,N,N,N,N,N,N,N,N,N,N,N] rfl rfl (any_of HT_.out (by kernel_rfl)) ?_
     refine pureA_ (i := 15) (N := some 49) #[Y,Y,Y,Y,Y,Y,Y,Y,Y,Y,Y,Y,Y,Y,Y,Y,N,N,N,N,N,N,N,N,N,N,N,N] rfl rfl (any_of HT_.out (by kernel_rfl)) ?_
     refine pureA_ (i := 16) (N := some 50) #[Y,Y,Y,Y,Y,Y,Y,Y,Y,Y,Y,Y,Y,Y,Y,Y,Y,N,N,N,N,N,N,N,N,N,N,N] rfl rfl (any_of HT_.out (by kernel_rfl)) ?_
     refine pureA_ (i := 17) (N := some 51) #[Y,Y,Y,Y,Y,Y,Y,Y,Y,Y,Y,Y,Y,Y,Y,Y,Y,Y,N,N,N,N,N,N,N,N,N,N] rfl rfl (any_of HT_.out (by kernel_rfl)) ?_
     refine pureA_ (i := 18) (N := some 52) #[Y,Y,Y,Y,Y,Y,Y,Y,Y,Y,Y,Y,Y,Y,Y,Y,Y,Y,Y,N,N,N,N,N,N,N,N,N] rfl rfl (any_of HT_.out (by kernel_rfl)) ?_
     refine pureA_ (i := 19) (N := some 53) #[Y,Y,Y,Y,Y,Y,Y,Y,Y,Y,Y,Y,Y,Y,Y,Y,Y,Y,Y,Y,N,N,N,N,N,N,N,N] rfl rfl (any_of HT_.out (by kernel_rfl)) ?_
     refine pureA_ (i := 20) (N := some 54) #[Y,Y,Y,Y,Y,Y,Y,Y,Y,Y,Y,Y,Y,Y,Y,Y,Y,Y,Y,Y,Y,N,N,N,N,N,N,N] rfl rfl (any_of HT_.out (by kernel_rfl)) ?_
     refine pureA_ (i := 21) (N := some 55) #[Y,Y,Y,Y,Y,Y,Y,Y,Y,Y,Y,Y,Y,Y,Y,Y,Y,Y,Y,Y,Y,Y,N,N,N,N,N,N] rfl rfl (any_of HT_.out (by kernel_rfl)) ?_
     refine pureA_ (i := 22) (N := some 56) #[Y,Y,Y,Y,Y,Y,Y,Y,Y,Y,Y,Y,Y,Y,Y,Y,Y,Y,Y,Y,Y,Y,Y,N,N,N,N,N] rfl rfl (any_of HT_.out (by kernel_rfl)) ?_
     refine pureA_ (i := 24) (N := some 58) #[Y,Y,Y,Y,Y,Y,Y,Y,Y,Y,Y,Y,Y,Y,Y,Y,Y,Y,Y,Y,Y,Y,Y,N,Y,N,N,N] rfl rfl (any_of HT_.out (by kernel_rfl)) ?_
     refine one_ (i := 23) (N := some 57) #[Y,Y,Y,Y,Y,Y,Y,Y,Y,Y,Y,Y,Y,Y,Y,Y,Y,Y,Y,Y,Y,Y,Y,Y,Y,N,N,N] rfl rfl (one_of HT_.out (by kernel_rfl)) (by decide) (fun K hK => ?_); refine goesA_ Try.func20 rfl #[.int .i64 (wrap64 ((wrap64 (a0)) + (wrap64 (a2)))), .int .i64 (wrap64 (1 + (wrap64 (a1))))] (by rfl) rfl rfl ?_
     with_reducible refine (rate_SpanS.calls (wrap64 ((wrap64 (a0)) + (wrap64 (a2)))) (wrap64 (1 + (wrap64 (a1)))) t483 _ A13.out).mono ?_
     rintro e w24 ⟨rfl, hb⟩; refine ⟨_, rfl, ?_⟩; replace BK478 := bbZ BK478 hb; replace HB := Aside0.mk (below_step HB.out hb); clear hb; refine hK.out _ _ ⟨(blk_cell BK478.out 0).trans rfl, (blk_cell BK478.out 1).trans rfl, (blk_cell BK478.out 2).trans rfl⟩ (fun hHeld => ?_); clear hK K; refine normA_ (some 57) ?_
     refine pureA_ (i := 25) (N := some 59) #[Y,Y,Y,Y,Y,Y,Y,Y,Y,Y,Y,Y,Y,Y,Y,Y,Y,Y,Y,Y,Y,Y,Y,Y,Y,Y,N,N] rfl rfl (any_of HT_.out (by kernel_rfl)) ?_
     refine pureA_ (i := 26) (N := some 60) #[Y,Y,Y,Y,Y,Y,Y,Y,Y,Y,Y,Y,Y,Y,Y,Y,Y,Y,Y,Y,Y,Y,Y,Y,Y,Y,Y,N] rfl rfl (any_of HT_.out (by kernel_rfl)) ?_
     refine pureA_ (i := 27) (N := some 6) #[Y,Y,Y,Y,Y,Y,Y,Y,Y,Y,Y,Y,Y,Y,Y,Y,Y,Y,Y,Y,Y,Y,Y,Y,Y,Y,Y,Y] rfl rfl (any_of HT_.out (by kernel_rfl)) ?_
     refine done_ (done_of HT_.out (by kernel_rfl)) ?_
     try go_wp2
     go_ret
     exact ⟨by first | rfl | (simp [errW_none, errW_some] <;> rfl) | (simp [*, errW_none, errW_some] <;> rfl), by repeat (first | (with_reducible first | exact HB.out | apply below_alloc | apply pw_below_drewN | apply below_drew1 | refine below_set ?_ GE478.out) | exact HB.out)⟩
    ·rw [if_neg c12] at H
     have c12b0 : decide (0 ≤ t482) = false := decide_eq_false c12; clear c12; exact absurd H (by simp)
  ·replace c8 := Bool.eq_false_iff.mpr c8
   subst c8
   have H1 : (none) = some r := by rw [if_neg (show ¬ (false = true) by decide)] at H; exact H
   clear H; have H := H1; clear H1; exact absurd H (by simp)
 ·rw [if_neg c7] at H
  have c7b0 : (t474 == 0) = false := beq_eq_false_iff_ne.mpr c7; have c7b1 : (t474 != 0) = true := bne_iff_ne.mpr c7; replace H := Option.bind_eq_some_iff.mp H; obtain ⟨⟨t484, t485, t486⟩, A250, H⟩ := H; (try dsimp only at H); have A25 := Aside0.mk A250; clear A250; replace H := Option.bind_eq_some_iff.mp H; obtain ⟨t487, A260, H⟩ := H; (try dsimp only at H); have A26 := Aside0.mk A260; clear A260
  by_cases c27 : t473 = true
  ·subst c27
   have H1 : (if t474 = 1099511627776 then (if t487 < 0 then ((rate_SpanS.f (wrap64 ((wrap64 (a0)) + (wrap64 (a2)))) (wrap64 (1 + (wrap64 (a1))))).bind fun t488 => (some (decide (t488 ≥ t474)))) else (none)) else ((sawtoothref02_MulS.f t474 (wrap64 (1 + (wrap64 (a1))))).bind fun bt489 => ((sawtoothref02_CmpS.f bt489.1 bt489.2.1 bt489.2.2 t475 t476 t477).bind fun t492 => (if t492 ≥ 0 then (if t487 < 0 then ((rate_SpanS.f (wrap64 ((wrap64 (a0)) + (wrap64 (a2)))) (wrap64 (1 + (wrap64 (a1))))).bind fun t493 => (some (decide (t493 ≥ t474)))) else (none)) else (none))))) = some r := by rw [if_pos rfl] at H; exact H
   clear H; have H := H1; clear H1
   by_cases c28 : t474 = 1099511627776
   ·rw [if_pos c28] at H
    have c28b0 : (t474 == 1099511627776) = true := beq_iff_eq.mpr c28; have c28b1 : (t474 != 1099511627776) = false := bne_eq_false_iff_eq.mpr c28; clear c28
    by_cases c29 : t487 < 0
    ·rw [if_pos c29] at H
     have c29b0 : decide (t487 < 0) = true := decide_eq_true c29; clear c29; replace H := Option.bind_eq_some_iff.mp H; obtain ⟨t488, A300, H⟩ := H; replace H : (some (decide (t488 ≥ t474))) = some r := H; have A30 := Aside0.mk A300; clear A300; obtain rfl := Option.some.inj H
     go_enter Try.func6, Try.ntmps6
     try go_wp2_with (first | ((with_reducible refine gate_callee (f := 15) rfl ?_); refine goesLA_ (some 12) rfl rfl Try.func15 rfl #[] rfl ?_; (with_reducible refine (sawtoothlaw17_awakeS.calls  true _ A4.out).mono ?_); rintro e w31 ⟨rfl, hb⟩; refine ⟨_, rfl, ?_⟩; replace HB := stA hb; clear hb) | ((with_reducible refine gate_callee (f := 20) rfl ?_); refine goesLA_ (some 19) rfl rfl Try.func20 rfl #[.int .i64 (wrap64 (a0)), .int .i64 (wrap64 (1 + (wrap64 (a1))))] rfl ?_; (with_reducible refine (rate_SpanS.calls (wrap64 (a0)) (wrap64 (1 + (wrap64 (a1)))) t474 _ A5.out).mono ?_); rintro e w32 ⟨rfl, hb⟩; refine ⟨_, rfl, ?_⟩; replace HB := stA hb; clear hb) | ((with_reducible refine gate_callee (f := 22) rfl ?_); refine goesLA_ (some 22) rfl rfl Try.func22 rfl #[.int .i64 (wrap64 (a0)), .int .i64 1000000] rfl ?_; (with_reducible refine (sawtoothref02_MulS.calls (wrap64 (a0)) 1000000 t475 t476 t477 _ A6.out).mono ?_); rintro e w33 ⟨rfl, hb⟩; refine ⟨_, rfl, ?_⟩; replace HB := stA hb; clear hb) | ((with_reducible refine gate_dst (N := 10) rfl ?_); refine box_event ?hg (N := 10) ?hd (cs := #[.bool false, .int .u64 0, .int .u64 0]) (t := 35) ?hr ?_; (case hd => rfl); (case hg => rfl); (case hr => first | (go_simp; done) | (go_simp; rfl)); intro gb478 hg w34 hbox hb; have BK478 := Aside0.mk (hbox); obtain ⟨GW478, nHB⟩ := geA hg hb; have GE478 := GW478; replace HB := nHB; clear nHB; clear hb hbox hg; have hcz35_0 := czZ BK478 0 (.bool false); have hcz35_1 := czZ BK478 1 (.int .u64 0); have hcz35_2 := czZ BK478 2 (.int .u64 0); have hfz35_0 := blk_frozen BK478.out 0; have hfz35_1 := blk_frozen BK478.out 1; have hfz35_2 := blk_frozen BK478.out 2))
     have n0_ : Aside0 ((((w34.setCell ⟨gb478, 0, none⟩ (.bool t475)).setCell ⟨gb478, 1, none⟩ (.int .u64 t476)).setCell ⟨gb478, 2, none⟩ (.int .u64 t477)).heap[gb478]? = some (.cells #[.bool t475, .int .u64 t476, .int .u64 t477] 35 (0, 0))) := ⟨by (with_reducible repeat first | apply blk_drewN | apply blk_drew | apply blk_alloc); refine blk_put (cs := #[.bool t475, .int .u64 t476, .int .u64 0]) ?_ 2 _ rfl; (with_reducible repeat first | apply blk_drewN | apply blk_drew | apply blk_alloc); refine blk_put (cs := #[.bool t475, .int .u64 0, .int .u64 0]) ?_ 1 _ rfl; (with_reducible repeat first | apply blk_drewN | apply blk_drew | apply blk_alloc); refine blk_put (cs := #[.bool false, .int .u64 0, .int .u64 0]) ?_ 0 _ rfl; (with_reducible repeat first | apply blk_drewN | apply blk_drew | apply blk_alloc); exact BK478.out⟩
     have n1_ : Aside0 (Below w.heap.size w (((w34.setCell ⟨gb478, 0, none⟩ (.bool t475)).setCell ⟨gb478, 1, none⟩ (.int .u64 t476)).setCell ⟨gb478, 2, none⟩ (.int .u64 t477))) := ⟨by repeat (first | (with_reducible first | exact HB.out | apply below_alloc | apply pw_below_drewN | apply below_drew1 | refine below_set ?_ GE478.out) | exact HB.out)⟩
     (try clear BK478); (try clear HB)
     generalize (((w34.setCell ⟨gb478, 0, none⟩ (.bool t475)).setCell ⟨gb478, 1, none⟩ (.int .u64 t476)).setCell ⟨gb478, 2, none⟩ (.int .u64 t477)) = w36 at n0_ n1_ ⊢
     have BK478 := n0_; have HB := n1_; clear n0_ n1_; replace BK478 := Aside0.mk (blk_drew BK478.out); replace HB := Aside0.mk (below_drew1 HB.out); refine start_ (n := 12) (S := fun w' => w'.cell? ⟨gb478, 0, none⟩ = some (.bool t475) ∧ w'.cell? ⟨gb478, 1, none⟩ = some (.int .u64 t476) ∧ w'.cell? ⟨gb478, 2, none⟩ = some (.int .u64 t477)) (ds := []) #[N,N,N,N,N,N,N,N,N,N,N,N] (by kernel_rfl) rfl rfl ⟨(blk_cell BK478.out 0).trans rfl, (blk_cell BK478.out 1).trans rfl, (blk_cell BK478.out 2).trans rfl⟩ (fun hHeld => ?_); refine with_tabW sawtoothlaw17_RateSpan.tab5 sawtoothlaw17_RateSpan.bits5 (fun HT_ HW_ => ?_)
     generalize w36.drew = w37 at BK478 HB hHeld ⊢
     refine pureA_ (i := 0) (N := some 23) #[Y,N,N,N,N,N,N,N,N,N,N,N] rfl rfl (any_of HT_.out (by kernel_rfl)) ?_
     refine pureA_ (i := 1) (N := some 24) #[Y,Y,N,N,N,N,N,N,N,N,N,N] rfl rfl (any_of HT_.out (by kernel_rfl)) ?_
     refine pureA_ (i := 2) (N := some 25) #[Y,Y,Y,N,N,N,N,N,N,N,N,N] rfl rfl (any_of HT_.out (by kernel_rfl)) ?_
     refine pureA_ (i := 3) (N := some 26) #[Y,Y,Y,Y,N,N,N,N,N,N,N,N] rfl rfl (any_of HT_.out (by kernel_rfl)) ?_
     refine pureA_ (i := 4) (N := some 27) #[Y,Y,Y,Y,Y,N,N,N,N,N,N,N] rfl rfl (any_of HT_.out (by kernel_rfl)) ?_
     refine pureA_ (i := 5) (N := some 28) #[Y,Y,Y,Y,Y,Y,N,N,N,N,N,N] rfl rfl (any_of HT_.out (by kernel_rfl)) ?_
     refine take_ (i := 7) (N := some 30) (v := ?_) (a' := ?_) #[Y,Y,Y,Y,Y,Y,N,Y,N,N,N,N] rfl rfl (take_ofW HT_.out HW_.out (by kernel_rfl)) (fun _ _ _ h => h) (Or.inl ⟨by rfl, ?_⟩) hHeld ?_ ?_; rotate_left
     ·rintro w' ⟨s0, s1, s2⟩; go_simp
      with_reducible rfl
     rotate_left
     ·simp only [Act.put, sA, sB, sC, i64_w, i32_w]
      rfl
     refine one_ (i := 6) (N := some 29) #[Y,Y,Y,Y,Y,Y,Y,Y,N,N,N,N] rfl rfl (one_of HT_.out (by kernel_rfl)) (by decide) (fun K hK => ?_); refine goesA_ Try.func22 rfl #[.int .i64 (wrap64 (t474 - 1)), .int .i64 (wrap64 (1 + (wrap64 (a1))))] (by rfl) rfl rfl ?_
     with_reducible refine (sawtoothref02_MulS.calls (wrap64 (t474 - 1)) (wrap64 (1 + (wrap64 (a1)))) t484 t485 t486 _ A25.out).mono ?_
     rintro e w38 ⟨rfl, hb⟩; refine ⟨_, rfl, ?_⟩; replace BK478 := bbZ BK478 hb; replace HB := Aside0.mk (below_step HB.out hb); clear hb; refine hK.out _ _ ⟨(blk_cell BK478.out 0).trans rfl, (blk_cell BK478.out 1).trans rfl, (blk_cell BK478.out 2).trans rfl⟩ (fun hHeld => ?_); clear hK K; refine normA_ (some 29) ?_
     refine one_ (i := 8) (N := some 31) #[Y,Y,Y,Y,Y,Y,Y,Y,Y,N,N,N] rfl rfl (one_of HT_.out (by kernel_rfl)) (by decide) (fun K hK => ?_); refine goesA_ Try.func23 rfl #[.agg #[.bool t484, .int .u64 t485, .int .u64 t486], .agg #[.bool t475, .int .u64 t476, .int .u64 t477]] (by rfl) rfl rfl ?_
     with_reducible refine (sawtoothref02_CmpS.calls t484 t485 t486 t475 t476 t477 t487 _ A26.out).mono ?_
     rintro e w39 ⟨rfl, hb⟩; refine ⟨_, rfl, ?_⟩; replace BK478 := bbZ BK478 hb; replace HB := Aside0.mk (below_step HB.out hb); clear hb; refine hK.out _ _ ⟨(blk_cell BK478.out 0).trans rfl, (blk_cell BK478.out 1).trans rfl, (blk_cell BK478.out 2).trans rfl⟩ (fun hHeld => ?_); clear hK K; refine normA_ (some 31) ?_
     refine pureA_ (i := 9) (N := some 32) #[Y,Y,Y,Y,Y,Y,Y,Y,Y,Y,N,N] rfl rfl (any_of HT_.out (by kernel_rfl)) ?_
     refine pureA_ (i := 10) (N := some 33) #[Y,Y,Y,Y,Y,Y,Y,Y,Y,Y,Y,N] rfl rfl (any_of HT_.out (by kernel_rfl)) ?_
     refine pureA_ (i := 11) (N := some 11) #[Y,Y,Y,Y,Y,Y,Y,Y,Y,Y,Y,Y] rfl rfl (any_of HT_.out (by kernel_rfl)) ?_
     refine done_ (done_of HT_.out (by kernel_rfl)) ?_
     try go_wp2
     replace BK478 := Aside0.mk (blk_drew BK478.out); replace HB := Aside0.mk (below_drew1 HB.out); refine start_ (n := 28) (S := fun w' => True) (ds := []) #[N,N,N,N,N,N,N,N,N,N,N,N,N,N,N,N,N,N,N,N,N,N,N,N,N,N,N,N] (by kernel_rfl) rfl rfl trivial (fun hHeld => ?_); refine with_tabW sawtoothlaw17_RateSpan.tab6 sawtoothlaw17_RateSpan.bits6 (fun HT_ HW_ => ?_)
     generalize w39.drew = w40 at BK478 HB hHeld ⊢
     refine pureA_ (i := 0) (N := some 34) #[Y,N,N,N,N,N,N,N,N,N,N,N,N,N,N,N,N,N,N,N,N,N,N,N,N,N,N,N] rfl rfl (any_of HT_.out (by kernel_rfl)) ?_
     refine pureA_ (i := 1) (N := some 35) #[Y,Y,N,N,N,N,N,N,N,N,N,N,N,N,N,N,N,N,N,N,N,N,N,N,N,N,N,N] rfl rfl (any_of HT_.out (by kernel_rfl)) ?_
     refine pureA_ (i := 2) (N := some 36) #[Y,Y,Y,N,N,N,N,N,N,N,N,N,N,N,N,N,N,N,N,N,N,N,N,N,N,N,N,N] rfl rfl (any_of HT_.out (by kernel_rfl)) ?_
     refine pureA_ (i := 3) (N := some 37) #[Y,Y,Y,Y,N,N,N,N,N,N,N,N,N,N,N,N,N,N,N,N,N,N,N,N,N,N,N,N] rfl rfl (any_of HT_.out (by kernel_rfl)) ?_
     refine pureA_ (i := 4) (N := some 38) #[Y,Y,Y,Y,Y,N,N,N,N,N,N,N,N,N,N,N,N,N,N,N,N,N,N,N,N,N,N,N] rfl rfl (any_of HT_.out (by kernel_rfl)) ?_
     refine pure_ (i := 5) (N := some 39) (v := undef) (a' := ?_) #[Y,Y,Y,Y,Y,Y,N,N,N,N,N,N,N,N,N,N,N,N,N,N,N,N,N,N,N,N,N,N] rfl rfl (any_of HT_.out (by kernel_rfl)) (fun _ _ _ h => h) (Or.inr ⟨by rfl, rfl⟩) ?_ ?_; rotate_left
     ·simp only [Act.put, sA, sB, sC, i64_w, i32_w]
      rfl
     refine pure_ (i := 6) (N := some 40) (v := undef) (a' := ?_) #[Y,Y,Y,Y,Y,Y,Y,N,N,N,N,N,N,N,N,N,N,N,N,N,N,N,N,N,N,N,N,N] rfl rfl (any_of HT_.out (by kernel_rfl)) (fun _ _ _ h => h) (Or.inr ⟨by rfl, rfl⟩) ?_ ?_; rotate_left
     ·simp only [Act.put, sA, sB, sC, i64_w, i32_w]
      rfl
     refine pure_ (i := 7) (N := some 41) (v := undef) (a' := ?_) #[Y,Y,Y,Y,Y,Y,Y,Y,N,N,N,N,N,N,N,N,N,N,N,N,N,N,N,N,N,N,N,N] rfl rfl (any_of HT_.out (by kernel_rfl)) (fun _ _ _ h => h) (Or.inr ⟨by rfl, rfl⟩) ?_ ?_; rotate_left
     ·simp only [Act.put, sA, sB, sC, i64_w, i32_w]
      rfl
     refine pure_ (i := 8) (N := some 42) (v := undef) (a' := ?_) #[Y,Y,Y,Y,Y,Y,Y,Y,Y,N,N,N,N,N,N,N,N,N,N,N,N,N,N,N,N,N,N,N] rfl rfl (any_of HT_.out (by kernel_rfl)) (fun _ _ _ h => h) (Or.inr ⟨by rfl, rfl⟩) ?_ ?_; rotate_left
     ·simp only [Act.put, sA, sB, sC, i64_w, i32_w]
      rfl
     refine pure_ (i := 9) (N := some 43) (v := undef) (a' := ?_) #[Y,Y,Y,Y,Y,Y,Y,Y,Y,Y,N,N,N,N,N,N,N,N,N,N,N,N,N,N,N,N,N,N] rfl rfl (any_of HT_.out (by kernel_rfl)) (fun _ _ _ h => h) (Or.inr ⟨by rfl, rfl⟩) ?_ ?_; rotate_left
     ·simp only [Act.put, sA, sB, sC, i64_w, i32_w]
      rfl
     refine pure_ (i := 10) (N := some 44) (v := undef) (a' := ?_) #[Y,Y,Y,Y,Y,Y,Y,Y,Y,Y,Y,N,N,N,N,N,N,N,N,N,N,N,N,N,N,N,N,N] rfl rfl (any_of HT_.out (by kernel_rfl)) (fun _ _ _ h => h) (Or.inr ⟨by rfl, rfl⟩) ?_ ?_; rotate_left
     ·simp only [Act.put, sA, sB, sC, i64_w, i32_w]
      rfl
     refine pureA_ (i := 11) (N := some 45) #[Y,Y,Y,Y,Y,Y,Y,Y,Y,Y,Y,Y,N,N,N,N,N,N,N,N,N,N,N,N,N,N,N,N] rfl rfl (any_of HT_.out (by kernel_rfl)) ?_
     refine pureA_ (i := 12) (N := some 46) #[Y,Y,Y,Y,Y,Y,Y,Y,Y,Y,Y,Y,Y,N,N,N,N,N,N,N,N,N,N,N,N,N,N,N] rfl rfl (any_of HT_.out (by kernel_rfl)) ?_
     refine pureA_ (i := 13) (N := some 47) #[Y,Y,Y,Y,Y,Y,Y,Y,Y,Y,Y,Y,Y,Y,N,N,N,N,N,N,N,N,N,N,N,N,N,N] rfl rfl (any_of HT_.out (by kernel_rfl)) ?_
     refine pureA_ (i := 14) (N := some 48) #[Y,Y,Y,Y,Y,Y,Y,Y,Y,Y,Y,Y,Y,Y,Y,N,N,N,N,N,N,N,N,N,N,N,N,N] rfl rfl (any_of HT_.out (by kernel_rfl)) ?_
     refine pureA_ (i := 15) (N := some 49) #[Y,Y,Y,Y,Y,Y,Y,Y,Y,Y,Y,Y,Y,Y,Y,Y,N,N,N,N,N,N,N,N,N,N,N,N] rfl rfl (any_of HT_.out (by kernel_rfl)) ?_
     refine pureA_ (i := 16) (N := some 50) #[Y,Y,Y,Y,Y,Y,Y,Y,Y,Y,Y,Y,Y,Y,Y,Y,Y,N,N,N,N,N,N,N,N,N,N,N] rfl rfl (any_of HT_.out (by kernel_rfl)) ?_
     refine pureA_ (i := 17) (N := some 51) #[Y,Y,Y,Y,Y,Y,Y,Y,Y,Y,Y,Y,Y,Y,Y,Y,Y,Y,N,N,N,N,N,N,N,N,N,N] rfl rfl (any_of HT_.out (by kernel_rfl)) ?_
     refine pureA_ (i := 18) (N := some 52) #[Y,Y,Y,Y,Y,Y,Y,Y,Y,Y,Y,Y,Y,Y,Y,Y,Y,Y,Y,N,N,N,N,N,N,N,N,N] rfl rfl (any_of HT_.out (by kernel_rfl)) ?_
     refine pureA_ (i := 19) (N := some 53) #[Y,Y,Y,Y,Y,Y,Y,Y,Y,Y,Y,Y,Y,Y,Y,Y,Y,Y,Y,Y,N,N,N,N,N,N,N,N] rfl rfl (any_of HT_.out (by kernel_rfl)) ?_
     refine pureA_ (i := 20) (N := some 54) #[Y,Y,Y,Y,Y,Y,Y,Y,Y,Y,Y,Y,Y,Y,Y,Y,Y,Y,Y,Y,Y,N,N,N,N,N,N,N] rfl rfl (any_of HT_.out (by kernel_rfl)) ?_
     refine pureA_ (i := 21) (N := some 55) #[Y,Y,Y,Y,Y,Y,Y,Y,Y,Y,Y,Y,Y,Y,Y,Y,Y,Y,Y,Y,Y,Y,N,N,N,N,N,N] rfl rfl (any_of HT_.out (by kernel_rfl)) ?_
     refine pureA_ (i := 22) (N := some 56) #[Y,Y,Y,Y,Y,Y,Y,Y,Y,Y,Y,Y,Y,Y,Y,Y,Y,Y,Y,Y,Y,Y,Y,N,N,N,N,N] rfl rfl (any_of HT_.out (by kernel_rfl)) ?_
     refine pureA_ (i := 24) (N := some 58) #[Y,Y,Y,Y,Y,Y,Y,Y,Y,Y,Y,Y,Y,Y,Y,Y,Y,Y,Y,Y,Y,Y,Y,N,Y,N,N,N] rfl rfl (any_of HT_.out (by kernel_rfl)) ?_
     refine one_ (i := 23) (N := some 57) #[Y,Y,Y,Y,Y,Y,Y,Y,Y,Y,Y,Y,Y,Y,Y,Y,Y,Y,Y,Y,Y,Y,Y,Y,Y,N,N,N] rfl rfl (one_of HT_.out (by kernel_rfl)) (by decide) (fun K hK => ?_); refine goesA_ Try.func20 rfl #[.int .i64 (wrap64 ((wrap64 (a0)) + (wrap64 (a2)))), .int .i64 (wrap64 (1 + (wrap64 (a1))))] (by rfl) rfl rfl ?_
     with_reducible refine (rate_SpanS.calls (wrap64 ((wrap64 (a0)) + (wrap64 (a2)))) (wrap64 (1 + (wrap64 (a1)))) t488 _ A30.out).mono ?_
     rintro e w41 ⟨rfl, hb⟩; refine ⟨_, rfl, ?_⟩; replace BK478 := bbZ BK478 hb; replace HB := Aside0.mk (below_step HB.out hb); clear hb; refine hK.out _ _ trivial (fun hHeld => ?_); clear hK K; refine normA_ (some 57) ?_
     refine pureA_ (i := 25) (N := some 59) #[Y,Y,Y,Y,Y,Y,Y,Y,Y,Y,Y,Y,Y,Y,Y,Y,Y,Y,Y,Y,Y,Y,Y,Y,Y,Y,N,N] rfl rfl (any_of HT_.out (by kernel_rfl)) ?_
     refine pureA_ (i := 26) (N := some 60) #[Y,Y,Y,Y,Y,Y,Y,Y,Y,Y,Y,Y,Y,Y,Y,Y,Y,Y,Y,Y,Y,Y,Y,Y,Y,Y,Y,N] rfl rfl (any_of HT_.out (by kernel_rfl)) ?_
     refine pureA_ (i := 27) (N := some 6) #[Y,Y,Y,Y,Y,Y,Y,Y,Y,Y,Y,Y,Y,Y,Y,Y,Y,Y,Y,Y,Y,Y,Y,Y,Y,Y,Y,Y] rfl rfl (any_of HT_.out (by kernel_rfl)) ?_
     refine done_ (done_of HT_.out (by kernel_rfl)) ?_
     try go_wp2
     go_ret
     exact ⟨by first | rfl | (simp [errW_none, errW_some] <;> rfl) | (simp [*, errW_none, errW_some] <;> rfl), by repeat (first | (with_reducible first | exact HB.out | apply below_alloc | apply pw_below_drewN | apply below_drew1 | refine below_set ?_ GE478.out) | exact HB.out)⟩
    ·rw [if_neg c29] at H
     have c29b0 : decide (t487 < 0) = false := decide_eq_false c29; clear c29; exact absurd H (by simp)
   ·rw [if_neg c28] at H
    have c28b0 : (t474 == 1099511627776) = false := beq_eq_false_iff_ne.mpr c28; have c28b1 : (t474 != 1099511627776) = true := bne_iff_ne.mpr c28; replace H := Option.bind_eq_some_iff.mp H; obtain ⟨⟨t489, t490, t491⟩, A420, H⟩ := H; (try dsimp only at H); have A42 := Aside0.mk A420; clear A420; replace H := Option.bind_eq_some_iff.mp H; obtain ⟨t492, A430, H⟩ := H; (try dsimp only at H); have A43 := Aside0.mk A430; clear A430
    by_cases c44 : t492 ≥ 0
    ·rw [if_pos c44] at H
     have c44b0 : decide (0 ≤ t492) = true := decide_eq_true c44; clear c44
     by_cases c45 : t487 < 0
     ·rw [if_pos c45] at H
      have c45b0 : decide (t487 < 0) = true := decide_eq_true c45; clear c45; replace H := Option.bind_eq_some_iff.mp H; obtain ⟨t493, A460, H⟩ := H; replace H : (some (decide (t493 ≥ t474))) = some r := H; have A46 := Aside0.mk A460; clear A460; obtain rfl := Option.some.inj H
      go_enter Try.func6, Try.ntmps6
      try go_wp2_with (first | ((with_reducible refine gate_callee (f := 15) rfl ?_); refine goesLA_ (some 12) rfl rfl Try.func15 rfl #[] rfl ?_; (with_reducible refine (sawtoothlaw17_awakeS.calls  true _ A4.out).mono ?_); rintro e w47 ⟨rfl, hb⟩; refine ⟨_, rfl, ?_⟩; replace HB := stA hb; clear hb) | ((with_reducible refine gate_callee (f := 20) rfl ?_); refine goesLA_ (some 19) rfl rfl Try.func20 rfl #[.int .i64 (wrap64 (a0)), .int .i64 (wrap64 (1 + (wrap64 (a1))))] rfl ?_; (with_reducible refine (rate_SpanS.calls (wrap64 (a0)) (wrap64 (1 + (wrap64 (a1)))) t474 _ A5.out).mono ?_); rintro e w48 ⟨rfl, hb⟩; refine ⟨_, rfl, ?_⟩; replace HB := stA hb; clear hb) | ((with_reducible refine gate_callee (f := 22) rfl ?_); refine goesLA_ (some 22) rfl rfl Try.func22 rfl #[.int .i64 (wrap64 (a0)), .int .i64 1000000] rfl ?_; (with_reducible refine (sawtoothref02_MulS.calls (wrap64 (a0)) 1000000 t475 t476 t477 _ A6.out).mono ?_); rintro e w49 ⟨rfl, hb⟩; refine ⟨_, rfl, ?_⟩; replace HB := stA hb; clear hb) | ((with_reducible refine gate_dst (N := 10) rfl ?_); refine box_event ?hg (N := 10) ?hd (cs := #[.bool false, .int .u64 0, .int .u64 0]) (t := 35) ?hr ?_; (case hd => rfl); (case hg => rfl); (case hr => first | (go_simp; done) | (go_simp; rfl)); intro gb478 hg w50 hbox hb; have BK478 := Aside0.mk (hbox); obtain ⟨GW478, nHB⟩ := geA hg hb; have GE478 := GW478; replace HB := nHB; clear nHB; clear hb hbox hg; have hcz51_0 := czZ BK478 0 (.bool false); have hcz51_1 := czZ BK478 1 (.int .u64 0); have hcz51_2 := czZ BK478 2 (.int .u64 0); have hfz51_0 := blk_frozen BK478.out 0; have hfz51_1 := blk_frozen BK478.out 1; have hfz51_2 := blk_frozen BK478.out 2))
      have n0_ : Aside0 ((((w50.setCell ⟨gb478, 0, none⟩ (.bool t475)).setCell ⟨gb478, 1, none⟩ (.int .u64 t476)).setCell ⟨gb478, 2, none⟩ (.int .u64 t477)).heap[gb478]? = some (.cells #[.bool t475, .int .u64 t476, .int .u64 t477] 35 (0, 0))) := ⟨by (with_reducible repeat first | apply blk_drewN | apply blk_drew | apply blk_alloc); refine blk_put (cs := #[.bool t475, .int .u64 t476, .int .u64 0]) ?_ 2 _ rfl; (with_reducible repeat first | apply blk_drewN | apply blk_drew | apply blk_alloc); refine blk_put (cs := #[.bool t475, .int .u64 0, .int .u64 0]) ?_ 1 _ rfl; (with_reducible repeat first | apply blk_drewN | apply blk_drew | apply blk_alloc); refine blk_put (cs := #[.bool false, .int .u64 0, .int .u64 0]) ?_ 0 _ rfl; (with_reducible repeat first | apply blk_drewN | apply blk_drew | apply blk_alloc); exact BK478.out⟩
      have n1_ : Aside0 (Below w.heap.size w (((w50.setCell ⟨gb478, 0, none⟩ (.bool t475)).setCell ⟨gb478, 1, none⟩ (.int .u64 t476)).setCell ⟨gb478, 2, none⟩ (.int .u64 t477))) := ⟨by repeat (first | (with_reducible first | exact HB.out | apply below_alloc | apply pw_below_drewN | apply below_drew1 | refine below_set ?_ GE478.out) | exact HB.out)⟩
      (try clear BK478); (try clear HB)
      generalize (((w50.setCell ⟨gb478, 0, none⟩ (.bool t475)).setCell ⟨gb478, 1, none⟩ (.int .u64 t476)).setCell ⟨gb478, 2, none⟩ (.int .u64 t477)) = w52 at n0_ n1_ ⊢
      have BK478 := n0_; have HB := n1_; clear n0_ n1_; replace BK478 := Aside0.mk (blk_drew BK478.out); replace HB := Aside0.mk (below_drew1 HB.out); refine start_ (n := 12) (S := fun w' => w'.cell? ⟨gb478, 0, none⟩ = some (.bool t475) ∧ w'.cell? ⟨gb478, 1, none⟩ = some (.int .u64 t476) ∧ w'.cell? ⟨gb478, 2, none⟩ = some (.int .u64 t477)) (ds := []) #[N,N,N,N,N,N,N,N,N,N,N,N] (by kernel_rfl) rfl rfl ⟨(blk_cell BK478.out 0).trans rfl, (blk_cell BK478.out 1).trans rfl, (blk_cell BK478.out 2).trans rfl⟩ (fun hHeld => ?_); refine with_tabW sawtoothlaw17_RateSpan.tab5 sawtoothlaw17_RateSpan.bits5 (fun HT_ HW_ => ?_)
      generalize w52.drew = w53 at BK478 HB hHeld ⊢
      refine pureA_ (i := 0) (N := some 23) #[Y,N,N,N,N,N,N,N,N,N,N,N] rfl rfl (any_of HT_.out (by kernel_rfl)) ?_
      refine pureA_ (i := 1) (N := some 24) #[Y,Y,N,N,N,N,N,N,N,N,N,N] rfl rfl (any_of HT_.out (by kernel_rfl)) ?_
      refine pureA_ (i := 2) (N := some 25) #[Y,Y,Y,N,N,N,N,N,N,N,N,N] rfl rfl (any_of HT_.out (by kernel_rfl)) ?_
      refine pureA_ (i := 3) (N := some 26) #[Y,Y,Y,Y,N,N,N,N,N,N,N,N] rfl rfl (any_of HT_.out (by kernel_rfl)) ?_
      refine pureA_ (i := 4) (N := some 27) #[Y,Y,Y,Y,Y,N,N,N,N,N,N,N] rfl rfl (any_of HT_.out (by kernel_rfl)) ?_
      refine pureA_ (i := 5) (N := some 28) #[Y,Y,Y,Y,Y,Y,N,N,N,N,N,N] rfl rfl (any_of HT_.out (by kernel_rfl)) ?_
      refine take_ (i := 7) (N := some 30) (v := ?_) (a' := ?_) #[Y,Y,Y,Y,Y,Y,N,Y,N,N,N,N] rfl rfl (take_ofW HT_.out HW_.out (by kernel_rfl)) (fun _ _ _ h => h) (Or.inl ⟨by rfl, ?_⟩) hHeld ?_ ?_; rotate_left
      ·rintro w' ⟨s0, s1, s2⟩; go_simp
       with_reducible rfl
      rotate_left
      ·simp only [Act.put, sA, sB, sC, i64_w, i32_w]
       rfl
      refine one_ (i := 6) (N := some 29) #[Y,Y,Y,Y,Y,Y,Y,Y,N,N,N,N] rfl rfl (one_of HT_.out (by kernel_rfl)) (by decide) (fun K hK => ?_); refine goesA_ Try.func22 rfl #[.int .i64 (wrap64 (t474 - 1)), .int .i64 (wrap64 (1 + (wrap64 (a1))))] (by rfl) rfl rfl ?_
      with_reducible refine (sawtoothref02_MulS.calls (wrap64 (t474 - 1)) (wrap64 (1 + (wrap64 (a1)))) t484 t485 t486 _ A25.out).mono ?_
      rintro e w54 ⟨rfl, hb⟩; refine ⟨_, rfl, ?_⟩; replace BK478 := bbZ BK478 hb; replace HB := Aside0.mk (below_step HB.out hb); clear hb; refine hK.out _ _ ⟨(blk_cell BK478.out 0).trans rfl, (blk_cell BK478.out 1).trans rfl, (blk_cell BK478.out 2).trans rfl⟩ (fun hHeld => ?_); clear hK K; refine normA_ (some 29) ?_
      refine one_ (i := 8) (N := some 31) #[Y,Y,Y,Y,Y,Y,Y,Y,Y,N,N,N] rfl rfl (one_of HT_.out (by kernel_rfl)) (by decide) (fun K hK => ?_); refine goesA_ Try.func23 rfl #[.agg #[.bool t484, .int .u64 t485, .int .u64 t486], .agg #[.bool t475, .int .u64 t476, .int .u64 t477]] (by rfl) rfl rfl ?_
      with_reducible refine (sawtoothref02_CmpS.calls t484 t485 t486 t475 t476 t477 t487 _ A26.out).mono ?_
      rintro e w55 ⟨rfl, hb⟩; refine ⟨_, rfl, ?_⟩; replace BK478 := bbZ BK478 hb; replace HB := Aside0.mk (below_step HB.out hb); clear hb; refine hK.out _ _ ⟨(blk_cell BK478.out 0).trans rfl, (blk_cell BK478.out 1).trans rfl, (blk_cell BK478.out 2).trans rfl⟩ (fun hHeld => ?_); clear hK K; refine normA_ (some 31) ?_
      refine pureA_ (i := 9) (N := some 32) #[Y,Y,Y,Y,Y,Y,Y,Y,Y,Y,N,N] rfl rfl (any_of HT_.out (by kernel_rfl)) ?_
      refine pureA_ (i := 10) (N := some 33) #[Y,Y,Y,Y,Y,Y,Y,Y,Y,Y,Y,N] rfl rfl (any_of HT_.out (by kernel_rfl)) ?_
      refine pureA_ (i := 11) (N := some 11) #[Y,Y,Y,Y,Y,Y,Y,Y,Y,Y,Y,Y] rfl rfl (any_of HT_.out (by kernel_rfl)) ?_
      refine done_ (done_of HT_.out (by kernel_rfl)) ?_
      try go_wp2
      replace BK478 := Aside0.mk (blk_drew BK478.out); replace HB := Aside0.mk (below_drew1 HB.out); refine start_ (n := 28) (S := fun w' => w'.cell? ⟨gb478, 0, none⟩ = some (.bool t475) ∧ w'.cell? ⟨gb478, 1, none⟩ = some (.int .u64 t476) ∧ w'.cell? ⟨gb478, 2, none⟩ = some (.int .u64 t477)) (ds := []) #[N,N,N,N,N,N,N,N,N,N,N,N,N,N,N,N,N,N,N,N,N,N,N,N,N,N,N,N] (by kernel_rfl) rfl rfl ⟨(blk_cell BK478.out 0).trans rfl, (blk_cell BK478.out 1).trans rfl, (blk_cell BK478.out 2).trans rfl⟩ (fun hHeld => ?_); refine with_tabW sawtoothlaw17_RateSpan.tab6 sawtoothlaw17_RateSpan.bits6 (fun HT_ HW_ => ?_)
      generalize w55.drew = w56 at BK478 HB hHeld ⊢
      refine pureA_ (i := 0) (N := some 34) #[Y,N,N,N,N,N,N,N,N,N,N,N,N,N,N,N,N,N,N,N,N,N,N,N,N,N,N,N] rfl rfl (any_of HT_.out (by kernel_rfl)) ?_
      refine pureA_ (i := 1) (N := some 35) #[Y,Y,N,N,N,N,N,N,N,N,N,N,N,N,N,N,N,N,N,N,N,N,N,N,N,N,N,N] rfl rfl (any_of HT_.out (by kernel_rfl)) ?_
      refine pureA_ (i := 2) (N := some 36) #[Y,Y,Y,N,N,N,N,N,N,N,N,N,N,N,N,N,N,N,N,N,N,N,N,N,N,N,N,N] rfl rfl (any_of HT_.out (by kernel_rfl)) ?_
      refine pureA_ (i := 3) (N := some 37) #[Y,Y,Y,Y,N,N,N,N,N,N,N,N,N,N,N,N,N,N,N,N,N,N,N,N,N,N,N,N] rfl rfl (any_of HT_.out (by kernel_rfl)) ?_
      refine pureA_ (i := 4) (N := some 38) #[Y,Y,Y,Y,Y,N,N,N,N,N,N,N,N,N,N,N,N,N,N,N,N,N,N,N,N,N,N,N] rfl rfl (any_of HT_.out (by kernel_rfl)) ?_
      refine pureA_ (i := 5) (N := some 39) #[Y,Y,Y,Y,Y,Y,N,N,N,N,N,N,N,N,N,N,N,N,N,N,N,N,N,N,N,N,N,N] rfl rfl (any_of HT_.out (by kernel_rfl)) ?_
      refine pureA_ (i := 6) (N := some 40) #[Y,Y,Y,Y,Y,Y,Y,N,N,N,N,N,N,N,N,N,N,N,N,N,N,N,N,N,N,N,N,N] rfl rfl (any_of HT_.out (by kernel_rfl)) ?_
      refine take_ (i := 8) (N := some 42) (v := ?_) (a' := ?_) #[Y,Y,Y,Y,Y,Y,Y,N,Y,N,N,N,N,N,N,N,N,N,N,N,N,N,N,N,N,N,N,N] rfl rfl (take_ofW HT_.out HW_.out (by kernel_rfl)) (fun _ _ _ h => h) (Or.inl ⟨by rfl, ?_⟩) hHeld ?_ ?_; rotate_left
      ·rintro w' ⟨s0, s1, s2⟩; go_simp
       with_reducible rfl
      rotate_left
      ·simp only [Act.put, sA, sB, sC, i64_w, i32_w]
       rfl
      refine one_ (i := 7) (N := some 41) #[Y,Y,Y,Y,Y,Y,Y,Y,Y,N,N,N,N,N,N,N,N,N,N,N,N,N,N,N,N,N,N,N] rfl rfl (one_of HT_.out (by kernel_rfl)) (by decide) (fun K hK => ?_); refine goesA_ Try.func22 rfl #[.int .i64 t474, .int .i64 (wrap64 (1 + (wrap64 (a1))))] (by rfl) rfl rfl ?_
      with_reducible refine (sawtoothref02_MulS.calls t474 (wrap64 (1 + (wrap64 (a1)))) t489 t490 t491 _ A42.out).mono ?_
      rintro e w57 ⟨rfl, hb⟩; refine ⟨_, rfl, ?_⟩; replace BK478 := bbZ BK478 hb; replace HB := Aside0.mk (below_step HB.out hb); clear hb; refine hK.out _ _ ⟨(blk_cell BK478.out 0).trans rfl, (blk_cell BK478.out 1).trans rfl, (blk_cell BK478.out 2).trans rfl⟩ (fun hHeld => ?_); clear hK K; refine normA_ (some 41) ?_
      refine one_ (i := 9) (N := some 43) #[Y,Y,Y,Y,Y,Y,Y,Y,Y,Y,N,N,N,N,N,N,N,N,N,N,N,N,N,N,N,N,N,N] rfl rfl (one_of HT_.out (by kernel_rfl)) (by decide) (fun K hK => ?_); refine goesA_ Try.func23 rfl #[.agg #[.bool t489, .int .u64 t490, .int .u64 t491], .agg #[.bool t475, .int .u64 t476, .int .u64 t477]] (by rfl) rfl rfl ?_
      with_reducible refine (sawtoothref02_CmpS.calls t489 t490 t491 t475 t476 t477 t492 _ A43.out).mono ?_
      rintro e w58 ⟨rfl, hb⟩; refine ⟨_, rfl, ?_⟩; replace BK478 := bbZ BK478 hb; replace HB := Aside0.mk (below_step HB.out hb); clear hb; refine hK.out _ _ ⟨(blk_cell BK478.out 0).trans rfl, (blk_cell BK478.out 1).trans rfl, (blk_cell BK478.out 2).trans rfl⟩ (fun hHeld => ?_); clear hK K; refine normA_ (some 43) ?_
      refine pureA_ (i := 10) (N := some 44) #[Y,Y,Y,Y,Y,Y,Y,Y,Y,Y,Y,N,N,N,N,N,N,N,N,N,N,N,N,N,N,N,N,N] rfl rfl (any_of HT_.out (by kernel_rfl)) ?_
      refine pureA_ (i := 11) (N := some 45) #[Y,Y,Y,Y,Y,Y,Y,Y,Y,Y,Y,Y,N,N,N,N,N,N,N,N,N,N,N,N,N,N,N,N] rfl rfl (any_of HT_.out (by kernel_rfl)) ?_
      refine pureA_ (i := 12) (N := some 46) #[Y,Y,Y,Y,Y,Y,Y,Y,Y,Y,Y,Y,Y,N,N,N,N,N,N,N,N,N,N,N,N,N,N,N] rfl rfl (any_of HT_.out (by kernel_rfl)) ?_
      refine pureA_ (i := 13) (N := some 47) #[Y,Y,Y,Y,Y,Y,Y,Y,Y,Y,Y,Y,Y,Y,N,N,N,N,N,N,N,N,N,N,N,N,N,N] rfl rfl (any_of HT_.out (by kernel_rfl)) ?_
      refine pureA_ (i := 14) (N := some 48) #[Y,Y,Y,Y,Y,Y,Y,Y,Y,Y,Y,Y,Y,Y,Y,N,N,N,N,N,N,N,N,N,N,N,N,N] rfl rfl (any_of HT_.out (by kernel_rfl)) ?_
      refine pureA_ (i := 15) (N := some 49) #[Y,Y,Y,Y,Y,Y,Y,Y,Y,Y,Y,Y,Y,Y,Y,Y,N,N,N,N,N,N,N,N,N,N,N,N] rfl rfl (any_of HT_.out (by kernel_rfl)) ?_
      refine pureA_ (i := 16) (N := some 50) #[Y,Y,Y,Y,Y,Y,Y,Y,Y,Y,Y,Y,Y,Y,Y,Y,Y,N,N,N,N,N,N,N,N,N,N,N] rfl rfl (any_of HT_.out (by kernel_rfl)) ?_
      refine pureA_ (i := 17) (N := some 51) #[Y,Y,Y,Y,Y,Y,Y,Y,Y,Y,Y,Y,Y,Y,Y,Y,Y,Y,N,N,N,N,N,N,N,N,N,N] rfl rfl (any_of HT_.out (by kernel_rfl)) ?_
      refine pureA_ (i := 18) (N := some 52) #[Y,Y,Y,Y,Y,Y,Y,Y,Y,Y,Y,Y,Y,Y,Y,Y,Y,Y,Y,N,N,N,N,N,N,N,N,N] rfl rfl (any_of HT_.out (by kernel_rfl)) ?_
      refine pureA_ (i := 19) (N := some 53) #[Y,Y,Y,Y,Y,Y,Y,Y,Y,Y,Y,Y,Y,Y,Y,Y,Y,Y,Y,Y,N,N,N,N,N,N,N,N] rfl rfl (any_of HT_.out (by kernel_rfl)) ?_
      refine pureA_ (i := 20) (N := some 54) #[Y,Y,Y,Y,Y,Y,Y,Y,Y,Y,Y,Y,Y,Y,Y,Y,Y,Y,Y,Y,Y,N,N,N,N,N,N,N] rfl rfl (any_of HT_.out (by kernel_rfl)) ?_
      refine pureA_ (i := 21) (N := some 55) #[Y,Y,Y,Y,Y,Y,Y,Y,Y,Y,Y,Y,Y,Y,Y,Y,Y,Y,Y,Y,Y,Y,N,N,N,N,N,N] rfl rfl (any_of HT_.out (by kernel_rfl)) ?_
      refine pureA_ (i := 22) (N := some 56) #[Y,Y,Y,Y,Y,Y,Y,Y,Y,Y,Y,Y,Y,Y,Y,Y,Y,Y,Y,Y,Y,Y,Y,N,N,N,N,N] rfl rfl (any_of HT_.out (by kernel_rfl)) ?_
      refine pureA_ (i := 24) (N := some 58) #[Y,Y,Y,Y,Y,Y,Y,Y,Y,Y,Y,Y,Y,Y,Y,Y,Y,Y,Y,Y,Y,Y,Y,N,Y,N,N,N] rfl rfl (any_of HT_.out (by kernel_rfl)) ?_
      refine one_ (i := 23) (N := some 57) #[Y,Y,Y,Y,Y,Y,Y,Y,Y,Y,Y,Y,Y,Y,Y,Y,Y,Y,Y,Y,Y,Y,Y,Y,Y,N,N,N] rfl rfl (one_of HT_.out (by kernel_rfl)) (by decide) (fun K hK => ?_); refine goesA_ Try.func20 rfl #[.int .i64 (wrap64 ((wrap64 (a0)) + (wrap64 (a2)))), .int .i64 (wrap64 (1 + (wrap64 (a1))))] (by rfl) rfl rfl ?_
      with_reducible refine (rate_SpanS.calls (wrap64 ((wrap64 (a0)) + (wrap64 (a2)))) (wrap64 (1 + (wrap64 (a1)))) t493 _ A46.out).mono ?_
      rintro e w59 ⟨rfl, hb⟩; refine ⟨_, rfl, ?_⟩; replace BK478 := bbZ BK478 hb; replace HB := Aside0.mk (below_step HB.out hb); clear hb; refine hK.out _ _ ⟨(blk_cell BK478.out 0).trans rfl, (blk_cell BK478.out 1).trans rfl, (blk_cell BK478.out 2).trans rfl⟩ (fun hHeld => ?_); clear hK K; refine normA_ (some 57) ?_
      refine pureA_ (i := 25) (N := some 59) #[Y,Y,Y,Y,Y,Y,Y,Y,Y,Y,Y,Y,Y,Y,Y,Y,Y,Y,Y,Y,Y,Y,Y,Y,Y,Y,N,N] rfl rfl (any_of HT_.out (by kernel_rfl)) ?_
      refine pureA_ (i := 26) (N := some 60) #[Y,Y,Y,Y,Y,Y,Y,Y,Y,Y,Y,Y,Y,Y,Y,Y,Y,Y,Y,Y,Y,Y,Y,Y,Y,Y,Y,N] rfl rfl (any_of HT_.out (by kernel_rfl)) ?_
      refine pureA_ (i := 27) (N := some 6) #[Y,Y,Y,Y,Y,Y,Y,Y,Y,Y,Y,Y,Y,Y,Y,Y,Y,Y,Y,Y,Y,Y,Y,Y,Y,Y,Y,Y] rfl rfl (any_of HT_.out (by kernel_rfl)) ?_
      refine done_ (done_of HT_.out (by kernel_rfl)) ?_
      try go_wp2
      go_ret
      exact ⟨by first | rfl | (simp [errW_none, errW_some] <;> rfl) | (simp [*, errW_none, errW_some] <;> rfl), by repeat (first | (with_reducible first | exact HB.out | apply below_alloc | apply pw_below_drewN | apply below_drew1 | refine below_set ?_ GE478.out) | exact HB.out)⟩
     ·rw [if_neg c45] at H
      have c45b0 : decide (t487 < 0) = false := decide_eq_false c45; clear c45; exact absurd H (by simp)
    ·rw [if_neg c44] at H
     have c44b0 : decide (0 ≤ t492) = false := decide_eq_false c44; clear c44; exact absurd H (by simp)
  ·replace c27 := Bool.eq_false_iff.mpr c27
   subst c27
   have H1 : (none) = some r := by rw [if_neg (show ¬ (false = true) by decide)] at H; exact H
   clear H; have H := H1; clear H1; exact absurd H (by simp)

/-- THE ONE PURE STATEMENT of sawtoothlaw17_RateSpan: yours. -/
def sawtoothlaw17_RateSpan.Pure : Prop := ∀ (a0 : Int) (a1 : Int) (a2 : Int), (Lit.int .u32 a0).wf = true → (Lit.int .u32 a1).wf = true → (Lit.int .u32 a2).wf = true → sawtoothlaw17_RateSpan.f a0 a1 a2 = some true
theorem sawtoothlaw17_RateSpan.walk (P : sawtoothlaw17_RateSpan.Pure) (a0 : Int) (a1 : Int) (a2 : Int) (w : World) (w0 : (Lit.int .u32 a0).wf = true) (w1 : (Lit.int .u32 a1).wf = true) (w2 : (Lit.int .u32 a2).wf = true) :
  Calls Try.prog 6 #[.int .u32 a0, .int .u32 a1, .int .u32 a2] w fun e w' => e = .returned (.bool true) ∧ Below w.heap.size w w' := by
 have h := P a0 a1 a2 w0 w1 w2; refine (sawtoothlaw17_RateSpan.calls a0 a1 a2 true w h).mono ?_; rintro e w' ⟨rfl, hd⟩; exact ⟨rfl, hd⟩

end Go.Proofs.Ytghpecgpdhaibaa.Px
