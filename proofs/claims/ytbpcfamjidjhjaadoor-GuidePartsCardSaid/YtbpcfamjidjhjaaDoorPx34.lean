/- Printed by px.py, over the kit's print. Conditions: none beside the theorems' own. -/
import Derived.Test.YtbpcfamjidjhjaaDoorPx0
import Derived.Test.YtbpcfamjidjhjaaDoorPx32
import Derived.Test.YtbpcfamjidjhjaaDoorPx33
namespace Go.Proofs.YtbpcfamjidjhjaaDoor.Px
open Go.RowKit Go.Proofs.YtbpcfamjidjhjaaDoorW.PrintWords Go.Proofs.YtbpcfamjidjhjaaDoorW.PrintLast Go.Proofs.YtbpcfamjidjhjaaDoorW.PrintMore
attribute [local go_sem] max2_int min2_int max_two min_two max_three min_three max_four min_four
set_option linter.unusedVariables false
set_option linter.unusedSimpArgs false

/-! ### sawtoothref02_Cmp: function 34 -/
noncomputable def sawtoothref02_Cmp.j0 : Nat → Bool → Int → Int → Int → Int → Int → Int → Int → Int → Option (Int)
 | 0, _, _, _, _, _, _, _, _, _ => none
 | k + 1, x32, x345000, x345001, x345002, x345003, x350000, x350001, x350002, x350003 => if x32 = true then (some 1) else ((sawtoothref02_less.f x345000 x345001 x345002 x345003 x350000 x350001 x350002 x350003).bind fun t357 => ((sawtoothref02_less.f x350000 x350001 x350002 x350003 x345000 x345001 x345002 x345003).bind fun t358 => (if (t357 != t358) = true then (some (-1)) else (some 0))))
noncomputable def sawtoothref02_Cmp.f (k : Nat) (a0_0 : Bool) (a0_1 : Int) (a0_2 : Int) (a1_0 : Bool) (a1_1 : Int) (a1_2 : Int) : Option (Int) := (sawtoothref02_digits.f a0_0 a0_1 a0_2).bind fun bt340 => ((sawtoothref02_digits.f a1_0 a1_1 a1_2).bind fun bt345 => ((sawtoothref02_belowS.f a0_0 a0_1 a0_2).bind fun t350 => ((sawtoothref02_belowS.f a1_0 a1_1 a1_2).bind fun t351 => (if (t350 != t351) = true then ((sawtoothref02_belowS.f a0_0 a0_1 a0_2).bind fun t352 => (if t352 = true then (some (-1)) else (some 1))) else ((sawtoothref02_less.f bt340.1 bt340.2.1 bt340.2.2.1 bt340.2.2.2 bt345.1 bt345.2.1 bt345.2.2.1 bt345.2.2.2).bind fun t353 => ((sawtoothref02_less.f bt345.1 bt345.2.1 bt345.2.2.1 bt345.2.2.2 bt340.1 bt340.2.1 bt340.2.2.1 bt340.2.2.2).bind fun t354 => (if (t353 != t354) = true then ((sawtoothref02_less.f bt340.1 bt340.2.1 bt340.2.2.1 bt340.2.2.2 bt345.1 bt345.2.1 bt345.2.2.1 bt345.2.2.2).bind fun t355 => ((sawtoothref02_belowS.f a0_0 a0_1 a0_2).bind fun t356 => (sawtoothref02_Cmp.j0 k (t355 == t356) bt340.1 bt340.2.1 bt340.2.2.1 bt340.2.2.2 bt345.1 bt345.2.1 bt345.2.2.1 bt345.2.2.2))) else (sawtoothref02_Cmp.j0 k false bt340.1 bt340.2.1 bt340.2.2.1 bt340.2.2.2 bt345.1 bt345.2.1 bt345.2.2.1 bt345.2.2.2))))))))
def sawtoothref02_Cmp.T7 : Bool × List (List Nat × List Nat) := (true, [([], []), ([], []), ([0, 1], [0, 1]), ([], []), ([], []), ([3, 4, 2], [3, 4]), ([2, 5], [2, 5]), ([6, 5], [6]), ([7], [7]), ([7], [7]), ([8, 9, 7, 7], [7, 8, 9]), ([7], [7]), ([11, 10, 7], [7, 11]), ([10, 12, 7], [7, 10, 12]), ([7, 13], [7, 13])])
def sawtoothref02_Cmp.B7 : List Nat := [0, 0, 3, 0, 0, 31, 63, 127, 255, 255, 1023, 255, 4095, 8191, 16383]
theorem sawtoothref02_Cmp.tab7 : rtab .any (opsOf Tryd.f34 7) = sawtoothref02_Cmp.T7 := by kernel_rfl
theorem sawtoothref02_Cmp.bits7 : waitsOk sawtoothref02_Cmp.T7.2 sawtoothref02_Cmp.B7 = true := by kernel_rfl
set_option maxHeartbeats 8000000 in
set_option maxRecDepth 100000 in
theorem sawtoothref02_Cmp.calls (k : Nat) (a0_0 : Bool) (a0_1 : Int) (a0_2 : Int) (a1_0 : Bool) (a1_1 : Int) (a1_2 : Int) (r : Int) (w : World) (h : sawtoothref02_Cmp.f k a0_0 a0_1 a0_2 a1_0 a1_1 a1_2 = some r) :
  Calls Tryd.prog 34 #[.agg #[.bool a0_0, .int .u64 a0_1, .int .u64 a0_2], .agg #[.bool a1_0, .int .u64 a1_1, .int .u64 a1_2]] w fun e w' => e = .returned (.int .i64 r) ∧ Below w.heap.size w w' := by
 have hu59 := Tryd.underlying59; have hu76 := Tryd.underlying76; have HB := Aside0.mk (Below.refl w.heap.size w); have H : ((sawtoothref02_digits.f a0_0 a0_1 a0_2).bind fun bt340 => ((sawtoothref02_digits.f a1_0 a1_1 a1_2).bind fun bt345 => ((sawtoothref02_belowS.f a0_0 a0_1 a0_2).bind fun t350 => ((sawtoothref02_belowS.f a1_0 a1_1 a1_2).bind fun t351 => (if (t350 != t351) = true then ((sawtoothref02_belowS.f a0_0 a0_1 a0_2).bind fun t352 => (if t352 = true then (some (-1)) else (some 1))) else ((sawtoothref02_less.f bt340.1 bt340.2.1 bt340.2.2.1 bt340.2.2.2 bt345.1 bt345.2.1 bt345.2.2.1 bt345.2.2.2).bind fun t353 => ((sawtoothref02_less.f bt345.1 bt345.2.1 bt345.2.2.1 bt345.2.2.2 bt340.1 bt340.2.1 bt340.2.2.1 bt340.2.2.2).bind fun t354 => (if (t353 != t354) = true then ((sawtoothref02_less.f bt340.1 bt340.2.1 bt340.2.2.1 bt340.2.2.2 bt345.1 bt345.2.1 bt345.2.2.1 bt345.2.2.2).bind fun t355 => ((sawtoothref02_belowS.f a0_0 a0_1 a0_2).bind fun t356 => (sawtoothref02_Cmp.j0 k (t355 == t356) bt340.1 bt340.2.1 bt340.2.2.1 bt340.2.2.2 bt345.1 bt345.2.1 bt345.2.2.1 bt345.2.2.2))) else (sawtoothref02_Cmp.j0 k false bt340.1 bt340.2.1 bt340.2.2.1 bt340.2.2.2 bt345.1 bt345.2.1 bt345.2.2.1 bt345.2.2.2))))))))) = some r := h; clear h; replace H := Option.bind_eq_some_iff.mp H; obtain ⟨⟨t340, t341, t342, t343⟩, A30, H⟩ := H; (try dsimp only at H); have A3 := Aside0.mk A30; clear A30; replace H := Option.bind_eq_some_iff.mp H; obtain ⟨⟨t345, t346, t347, t348⟩, A40, H⟩ := H; (try dsimp only at H); have A4 := Aside0.mk A40; clear A40; replace H := Option.bind_eq_some_iff.mp H; obtain ⟨t350, A50, H⟩ := H; (try dsimp only at H); have A5 := Aside0.mk A50; clear A50; replace H := Option.bind_eq_some_iff.mp H; obtain ⟨t351, A60, H⟩ := H; (try dsimp only at H); have A6 := Aside0.mk A60; clear A60
 by_cases c7 : (t350 != t351) = true
 ·rw [if_pos c7] at H
  have c7b0 : (t350 != t351) = true := c7
  (try (have c7b1 : decide (t350 = t351) = false := by simpa using c7))
  (try (have c7b2 : (t350 == t351) = false := by simpa using c7))
  (try (have c7b3 : ¬ (t350 = t351) := by simpa using c7))
  clear c7; replace H := Option.bind_eq_some_iff.mp H; obtain ⟨t352, A80, H⟩ := H; replace H : (if t352 = true then (some (-1)) else (some 1)) = some r := H; have A8 := Aside0.mk A80; clear A80
  go_enter Tryd.func34, Tryd.ntmps34
  try go_wp2_with (first | ((with_reducible refine gate_dst (N := 2) rfl ?_); refine box_event ?hg (N := 2) ?hd (cs := #[.bool a0_0, .int .u64 a0_1, .int .u64 a0_2]) (t := 59) ?hr ?_; (case hd => rfl); (case hg => rfl); (case hr => first | (go_simp; done) | (go_simp; rfl)); intro gb338 hg w10 hbox hb; have BK338 := Aside0.mk (hbox); obtain ⟨GW338, nHB⟩ := geA hg hb; have GE338 := GW338; replace HB := nHB; clear nHB; clear hb hbox hg) | ((with_reducible refine gate_dst (N := 3) rfl ?_); refine box_event ?hg (N := 3) ?hd (cs := #[.bool a1_0, .int .u64 a1_1, .int .u64 a1_2]) (t := 59) ?hr ?_; (case hd => rfl); (case hg => rfl); (case hr => first | (go_simp; done) | (go_simp; rfl)); intro gb339 hg w11 hbox hb; have BK339 := Aside0.mk (hbox); obtain ⟨GW339, nHB⟩ := geA hg hb; have GE339 := GW339; obtain ⟨NB338_339, NB339_338, nBK⟩ := nbA BK338 hg hb; replace BK338 := nBK; clear nBK; replace HB := nHB; clear nHB; clear hb hbox hg; have hnb12 := NB338_339.out; have hnc12 := NB339_338.out; have hcz13_0 := czZ BK338 0 (.bool a0_0); have hcz13_1 := czZ BK338 1 (.int .u64 a0_1); have hcz13_2 := czZ BK338 2 (.int .u64 a0_2); have hfz13_0 := blk_frozen BK338.out 0; have hfz13_1 := blk_frozen BK338.out 1; have hfz13_2 := blk_frozen BK338.out 2) | ((with_reducible refine gate_callee (f := 49) rfl ?_); refine goesLA_ (some 8) rfl rfl Tryd.func49 rfl #[.agg #[.bool a0_0, .int .u64 a0_1, .int .u64 a0_2]] rfl ?_; (with_reducible refine (sawtoothref02_digits.calls a0_0 a0_1 a0_2 t340 t341 t342 t343 _ A3.out).mono ?_); rintro e w14 ⟨rfl, hb⟩; refine ⟨_, rfl, ?_⟩; replace BK338 := bdZ BK338 hb; replace BK339 := bdZ BK339 hb; replace HB := stA hb; clear hb) | ((with_reducible refine gate_dst (N := 5) rfl ?_); refine box_event ?hg (N := 5) ?hd (cs := #[.int .u64 0, .int .u64 0, .int .u64 0, .int .u64 0]) (t := 76) ?hr ?_; (case hd => rfl); (case hg => rfl); (case hr => first | (go_simp; done) | (go_simp; rfl)); intro gb344 hg w15 hbox hb; have BK344 := Aside0.mk (hbox); obtain ⟨GW344, nHB⟩ := geA hg hb; have GE344 := GW344; obtain ⟨NB338_344, NB344_338, nBK⟩ := nbA BK338 hg hb; replace BK338 := nBK; clear nBK; obtain ⟨NB339_344, NB344_339, nBK⟩ := nbA BK339 hg hb; replace BK339 := nBK; clear nBK; replace HB := nHB; clear nHB; clear hb hbox hg; have hnb16 := NB344_338.out; have hnc16 := NB338_344.out; have hnb17 := NB344_339.out; have hnc17 := NB339_344.out; have hcz18_0 := czZ BK344 0 (.int .u64 0); have hcz18_1 := czZ BK344 1 (.int .u64 0); have hcz18_2 := czZ BK344 2 (.int .u64 0); have hcz18_3 := czZ BK344 3 (.int .u64 0); have hfz18_0 := blk_frozen BK344.out 0; have hfz18_1 := blk_frozen BK344.out 1; have hfz18_2 := blk_frozen BK344.out 2; have hfz18_3 := blk_frozen BK344.out 3; have hcz19_0 := czZ BK339 0 (.bool a1_0); have hcz19_1 := czZ BK339 1 (.int .u64 a1_1); have hcz19_2 := czZ BK339 2 (.int .u64 a1_2); have hfz19_0 := blk_frozen BK339.out 0; have hfz19_1 := blk_frozen BK339.out 1; have hfz19_2 := blk_frozen BK339.out 2) | ((with_reducible refine gate_callee (f := 49) rfl ?_); refine goesLA_ (some 10) rfl rfl Tryd.func49 rfl #[.agg #[.bool a1_0, .int .u64 a1_1, .int .u64 a1_2]] rfl ?_; (with_reducible refine (sawtoothref02_digits.calls a1_0 a1_1 a1_2 t345 t346 t347 t348 _ A4.out).mono ?_); rintro e w20 ⟨rfl, hb⟩; refine ⟨_, rfl, ?_⟩; replace BK338 := bfZ BK338 (fun h_ => by (with_reducible repeat first | apply blk_drewN | apply blk_drew | apply blk_alloc | refine farZ ?_ NB338_344 _); exact h_) hb; replace BK339 := bfZ BK339 (fun h_ => by (with_reducible repeat first | apply blk_drewN | apply blk_drew | apply blk_alloc | refine farZ ?_ NB339_344 _); exact h_) hb; replace BK344 := Aside0.mk (blk_below (g := gb344) (o := .cells #[.int .u64 t340, .int .u64 t341, .int .u64 t342, .int .u64 t343] 76 (0, 0)) (by (with_reducible repeat first | apply blk_drewN | apply blk_drew | apply blk_alloc); refine blk_put (cs := #[.int .u64 t340, .int .u64 t341, .int .u64 t342, .int .u64 0]) ?_ 3 _ rfl; (with_reducible repeat first | apply blk_drewN | apply blk_drew | apply blk_alloc); refine blk_put (cs := #[.int .u64 t340, .int .u64 t341, .int .u64 0, .int .u64 0]) ?_ 2 _ rfl; (with_reducible repeat first | apply blk_drewN | apply blk_drew | apply blk_alloc); refine blk_put (cs := #[.int .u64 t340, .int .u64 0, .int .u64 0, .int .u64 0]) ?_ 1 _ rfl; (with_reducible repeat first | apply blk_drewN | apply blk_drew | apply blk_alloc); refine blk_put (cs := #[.int .u64 0, .int .u64 0, .int .u64 0, .int .u64 0]) ?_ 0 _ rfl; (with_reducible repeat first | apply blk_drewN | apply blk_drew | apply blk_alloc); exact BK344.out) hb); replace HB := stA hb; clear hb) | ((with_reducible refine gate_dst (N := 6) rfl ?_); refine box_event ?hg (N := 6) ?hd (cs := #[.int .u64 0, .int .u64 0, .int .u64 0, .int .u64 0]) (t := 76) ?hr ?_; (case hd => rfl); (case hg => rfl); (case hr => first | (go_simp; done) | (go_simp; rfl)); intro gb349 hg w21 hbox hb; have BK349 := Aside0.mk (hbox); obtain ⟨GW349, nHB⟩ := geA hg hb; have GE349 := GW349; obtain ⟨NB338_349, NB349_338, nBK⟩ := nbA BK338 hg hb; replace BK338 := nBK; clear nBK; obtain ⟨NB339_349, NB349_339, nBK⟩ := nbA BK339 hg hb; replace BK339 := nBK; clear nBK; obtain ⟨NB344_349, NB349_344, nBK⟩ := nbA BK344 hg hb; replace BK344 := nBK; clear nBK; replace HB := nHB; clear nHB; clear hb hbox hg; have hnb22 := NB349_338.out; have hnc22 := NB338_349.out; have hnb23 := NB349_339.out; have hnc23 := NB339_349.out; have hnb24 := NB349_344.out; have hnc24 := NB344_349.out; have hcz25_0 := czZ BK349 0 (.int .u64 0); have hcz25_1 := czZ BK349 1 (.int .u64 0); have hcz25_2 := czZ BK349 2 (.int .u64 0); have hcz25_3 := czZ BK349 3 (.int .u64 0); have hfz25_0 := blk_frozen BK349.out 0; have hfz25_1 := blk_frozen BK349.out 1; have hfz25_2 := blk_frozen BK349.out 2; have hfz25_3 := blk_frozen BK349.out 3))
  have n0_ : Aside0 (((((w21.setCell ⟨gb349, 0, none⟩ (.int .u64 t345)).setCell ⟨gb349, 1, none⟩ (.int .u64 t346)).setCell ⟨gb349, 2, none⟩ (.int .u64 t347)).setCell ⟨gb349, 3, none⟩ (.int .u64 t348)).heap[gb338]? = some (.cells #[.bool a0_0, .int .u64 a0_1, .int .u64 a0_2] 59 (0, 0))) := ⟨by (with_reducible repeat first | apply blk_drewN | apply blk_drew | apply blk_alloc); refine blk_far ?_ NB338_349.out _; (with_reducible repeat first | apply blk_drewN | apply blk_drew | apply blk_alloc); refine blk_far ?_ NB338_349.out _; (with_reducible repeat first | apply blk_drewN | apply blk_drew | apply blk_alloc); refine blk_far ?_ NB338_349.out _; (with_reducible repeat first | apply blk_drewN | apply blk_drew | apply blk_alloc); refine blk_far ?_ NB338_349.out _; (with_reducible repeat first | apply blk_drewN | apply blk_drew | apply blk_alloc); exact BK338.out⟩
  have n1_ : Aside0 (((((w21.setCell ⟨gb349, 0, none⟩ (.int .u64 t345)).setCell ⟨gb349, 1, none⟩ (.int .u64 t346)).setCell ⟨gb349, 2, none⟩ (.int .u64 t347)).setCell ⟨gb349, 3, none⟩ (.int .u64 t348)).heap[gb339]? = some (.cells #[.bool a1_0, .int .u64 a1_1, .int .u64 a1_2] 59 (0, 0))) := ⟨by (with_reducible repeat first | apply blk_drewN | apply blk_drew | apply blk_alloc); refine blk_far ?_ NB339_349.out _; (with_reducible repeat first | apply blk_drewN | apply blk_drew | apply blk_alloc); refine blk_far ?_ NB339_349.out _; (with_reducible repeat first | apply blk_drewN | apply blk_drew | apply blk_alloc); refine blk_far ?_ NB339_349.out _; (with_reducible repeat first | apply blk_drewN | apply blk_drew | apply blk_alloc); refine blk_far ?_ NB339_349.out _; (with_reducible repeat first | apply blk_drewN | apply blk_drew | apply blk_alloc); exact BK339.out⟩
  have n2_ : Aside0 (((((w21.setCell ⟨gb349, 0, none⟩ (.int .u64 t345)).setCell ⟨gb349, 1, none⟩ (.int .u64 t346)).setCell ⟨gb349, 2, none⟩ (.int .u64 t347)).setCell ⟨gb349, 3, none⟩ (.int .u64 t348)).heap[gb344]? = some (.cells #[.int .u64 t340, .int .u64 t341, .int .u64 t342, .int .u64 t343] 76 (0, 0))) := ⟨by (with_reducible repeat first | apply blk_drewN | apply blk_drew | apply blk_alloc); refine blk_far ?_ NB344_349.out _; (with_reducible repeat first | apply blk_drewN | apply blk_drew | apply blk_alloc); refine blk_far ?_ NB344_349.out _; (with_reducible repeat first | apply blk_drewN | apply blk_drew | apply blk_alloc); refine blk_far ?_ NB344_349.out _; (with_reducible repeat first | apply blk_drewN | apply blk_drew | apply blk_alloc); refine blk_far ?_ NB344_349.out _; (with_reducible repeat first | apply blk_drewN | apply blk_drew | apply blk_alloc); exact BK344.out⟩
  have n3_ : Aside0 (((((w21.setCell ⟨gb349, 0, none⟩ (.int .u64 t345)).setCell ⟨gb349, 1, none⟩ (.int .u64 t346)).setCell ⟨gb349, 2, none⟩ (.int .u64 t347)).setCell ⟨gb349, 3, none⟩ (.int .u64 t348)).heap[gb349]? = some (.cells #[.int .u64 t345, .int .u64 t346, .int .u64 t347, .int .u64 t348] 76 (0, 0))) := ⟨by (with_reducible repeat first | apply blk_drewN | apply blk_drew | apply blk_alloc); refine blk_put (cs := #[.int .u64 t345, .int .u64 t346, .int .u64 t347, .int .u64 0]) ?_ 3 _ rfl; (with_reducible repeat first | apply blk_drewN | apply blk_drew | apply blk_alloc); refine blk_put (cs := #[.int .u64 t345, .int .u64 t346, .int .u64 0, .int .u64 0]) ?_ 2 _ rfl; (with_reducible repeat first | apply blk_drewN | apply blk_drew | apply blk_alloc); refine blk_put (cs := #[.int .u64 t345, .int .u64 0, .int .u64 0, .int .u64 0]) ?_ 1 _ rfl; (with_reducible repeat first | apply blk_drewN | apply blk_drew | apply blk_alloc); refine blk_put (cs := #[.int .u64 0, .int .u64 0, .int .u64 0, .int .u64 0]) ?_ 0 _ rfl; (with_reducible repeat first | apply blk_drewN | apply blk_drew | apply blk_alloc); exact BK349.out⟩
  have n4_ : Aside0 (Below w.heap.size w ((((w21.setCell ⟨gb349, 0, none⟩ (.int .u64 t345)).setCell ⟨gb349, 1, none⟩ (.int .u64 t346)).setCell ⟨gb349, 2, none⟩ (.int .u64 t347)).setCell ⟨gb349, 3, none⟩ (.int .u64 t348))) := ⟨by repeat (first | (with_reducible first | exact HB.out | apply below_alloc | apply pw_below_drewN | apply below_drew1 | refine below_set ?_ (Aside0.out (by assumption))) | exact HB.out)⟩
  (try clear BK338); (try clear BK339); (try clear BK344); (try clear BK349); (try clear HB)
  generalize ((((w21.setCell ⟨gb349, 0, none⟩ (.int .u64 t345)).setCell ⟨gb349, 1, none⟩ (.int .u64 t346)).setCell ⟨gb349, 2, none⟩ (.int .u64 t347)).setCell ⟨gb349, 3, none⟩ (.int .u64 t348)) = w26 at n0_ n1_ n2_ n3_ n4_ ⊢
  have BK338 := n0_; have BK339 := n1_; have BK344 := n2_; have BK349 := n3_; have HB := n4_; clear n0_ n1_ n2_ n3_ n4_; replace BK338 := Aside0.mk (blk_drew BK338.out); replace BK339 := Aside0.mk (blk_drew BK339.out); replace BK344 := Aside0.mk (blk_drew BK344.out); replace BK349 := Aside0.mk (blk_drew BK349.out); replace HB := Aside0.mk (below_drew1 HB.out); refine start_ (n := 5) (S := fun w' => w'.cell? ⟨gb338, 0, none⟩ = some (.bool a0_0) ∧ w'.cell? ⟨gb338, 1, none⟩ = some (.int .u64 a0_1) ∧ w'.cell? ⟨gb338, 2, none⟩ = some (.int .u64 a0_2) ∧ w'.cell? ⟨gb339, 0, none⟩ = some (.bool a1_0) ∧ w'.cell? ⟨gb339, 1, none⟩ = some (.int .u64 a1_1) ∧ w'.cell? ⟨gb339, 2, none⟩ = some (.int .u64 a1_2)) (ds := []) #[N,N,N,N,N] (by kernel_rfl) rfl rfl ⟨(blk_cell BK338.out 0).trans rfl, (blk_cell BK338.out 1).trans rfl, (blk_cell BK338.out 2).trans rfl, (blk_cell BK339.out 0).trans rfl, (blk_cell BK339.out 1).trans rfl, (blk_cell BK339.out 2).trans rfl⟩ (fun hHeld => ?_)
  generalize w26.drew = w27 at BK338 BK339 BK344 BK349 HB hHeld ⊢
  refine take_ (i := 0) (N := some 11) (v := ?_) (a' := ?_) #[Y,N,N,N,N] rfl rfl (by kernel_rfl) (fun _ _ _ h => h) (Or.inl ⟨by rfl, ?_⟩) hHeld ?_ ?_; rotate_left
  ·rintro w' ⟨s0, s1, s2, s3, s4, s5⟩; go_simp
   with_reducible rfl
  rotate_left
  ·simp only [Act.put, sA, sB, sC, i64_w, i32_w]
   rfl
  refine take_ (i := 2) (N := some 13) (v := ?_) (a' := ?_) #[Y,N,Y,N,N] rfl rfl (by kernel_rfl) (fun _ _ _ h => h) (Or.inl ⟨by rfl, ?_⟩) hHeld ?_ ?_; rotate_left
  ·rintro w' ⟨s0, s1, s2, s3, s4, s5⟩; go_simp
   with_reducible rfl
  rotate_left
  ·simp only [Act.put, sA, sB, sC, i64_w, i32_w]
   rfl
  refine one_ (i := 1) (N := some 12) #[Y,Y,Y,N,N] rfl rfl (by kernel_rfl) (by decide) (fun K hK => ?_); refine goesA_ Tryd.func50 rfl #[.agg #[.bool a0_0, .int .u64 a0_1, .int .u64 a0_2]] (by rfl) rfl rfl ?_
  with_reducible refine (sawtoothref02_belowS.calls a0_0 a0_1 a0_2 t350 _ A5.out).mono ?_
  rintro e w28 ⟨rfl, hb⟩; refine ⟨_, rfl, ?_⟩; replace BK338 := bbZ BK338 hb; replace BK339 := bbZ BK339 hb; replace BK344 := bbZ BK344 hb; replace BK349 := bbZ BK349 hb; replace HB := Aside0.mk (below_step HB.out hb); clear hb; refine hK.out _ _ ⟨(blk_cell BK338.out 0).trans rfl, (blk_cell BK338.out 1).trans rfl, (blk_cell BK338.out 2).trans rfl, (blk_cell BK339.out 0).trans rfl, (blk_cell BK339.out 1).trans rfl, (blk_cell BK339.out 2).trans rfl⟩ (fun hHeld => ?_); clear hK K; refine normA_ (some 12) ?_
  refine one_ (i := 3) (N := some 14) #[Y,Y,Y,Y,N] rfl rfl (by kernel_rfl) (by decide) (fun K hK => ?_); refine goesA_ Tryd.func50 rfl #[.agg #[.bool a1_0, .int .u64 a1_1, .int .u64 a1_2]] (by rfl) rfl rfl ?_
  with_reducible refine (sawtoothref02_belowS.calls a1_0 a1_1 a1_2 t351 _ A6.out).mono ?_
  rintro e w29 ⟨rfl, hb⟩; refine ⟨_, rfl, ?_⟩; replace BK338 := bbZ BK338 hb; replace BK339 := bbZ BK339 hb; replace BK344 := bbZ BK344 hb; replace BK349 := bbZ BK349 hb; replace HB := Aside0.mk (below_step HB.out hb); clear hb; refine hK.out _ _ ⟨(blk_cell BK338.out 0).trans rfl, (blk_cell BK338.out 1).trans rfl, (blk_cell BK338.out 2).trans rfl, (blk_cell BK339.out 0).trans rfl, (blk_cell BK339.out 1).trans rfl, (blk_cell BK339.out 2).trans rfl⟩ (fun hHeld => ?_); clear hK K; refine normA_ (some 14) ?_
  refine pureA_ (i := 4) (N := some 15) #[Y,Y,Y,Y,Y] rfl rfl (by kernel_rfl) ?_
  refine done_ (by kernel_rfl) ?_; have hcz30_0 := czZ BK338 0 (.bool a0_0); have hcz30_1 := czZ BK338 1 (.int .u64 a0_1); have hcz30_2 := czZ BK338 2 (.int .u64 a0_2); have hfz30_0 := blk_frozen BK338.out 0; have hfz30_1 := blk_frozen BK338.out 1; have hfz30_2 := blk_frozen BK338.out 2
  by_cases c9 : t352 = true
  ·subst c9
   have H1 : (some (-1)) = some r := by rw [if_pos rfl] at H; exact H
   clear H; have H := H1; clear H1; obtain rfl := Option.some.inj H
   try go_wp2_with (first | ((with_reducible refine gate_callee (f := 50) rfl ?_); refine goesLA_ (some 17) rfl rfl Tryd.func50 rfl #[.agg #[.bool a0_0, .int .u64 a0_1, .int .u64 a0_2]] rfl ?_; (with_reducible refine (sawtoothref02_belowS.calls a0_0 a0_1 a0_2 true _ A8.out).mono ?_); rintro e w31 ⟨rfl, hb⟩; refine ⟨_, rfl, ?_⟩; replace BK338 := bdZ BK338 hb; replace BK339 := bdZ BK339 hb; replace BK344 := bdZ BK344 hb; replace BK349 := bdZ BK349 hb; replace HB := stA hb; clear hb))
   go_ret
   exact ⟨by first | rfl | (simp [errW_none, errW_some] <;> rfl) | (simp [*, errW_none, errW_some] <;> rfl), by repeat (first | (with_reducible first | exact HB.out | apply below_alloc | apply pw_below_drewN | apply below_drew1 | refine below_set ?_ (Aside0.out (by assumption))) | exact HB.out)⟩
  ·replace c9 := Bool.eq_false_iff.mpr c9
   subst c9
   have H1 : (some 1) = some r := by rw [if_neg (show ¬ (false = true) by decide)] at H; exact H
   clear H; have H := H1; clear H1; obtain rfl := Option.some.inj H
   try go_wp2_with (first | ((with_reducible refine gate_callee (f := 50) rfl ?_); refine goesLA_ (some 17) rfl rfl Tryd.func50 rfl #[.agg #[.bool a0_0, .int .u64 a0_1, .int .u64 a0_2]] rfl ?_; (with_reducible refine (sawtoothref02_belowS.calls a0_0 a0_1 a0_2 false _ A8.out).mono ?_); rintro e w53 ⟨rfl, hb⟩; refine ⟨_, rfl, ?_⟩; replace BK338 := bdZ BK338 hb; replace BK339 := bdZ BK339 hb; replace BK344 := bdZ BK344 hb; replace BK349 := bdZ BK349 hb; replace HB := stA hb; clear hb))
   go_ret
   exact ⟨by first | rfl | (simp [errW_none, errW_some] <;> rfl) | (simp [*, errW_none, errW_some] <;> rfl), by repeat (first | (with_reducible first | exact HB.out | apply below_alloc | apply pw_below_drewN | apply below_drew1 | refine below_set ?_ (Aside0.out (by assumption))) | exact HB.out)⟩
 ·rw [if_neg c7] at H
  have c7b0 : (t350 != t351) = false := by simpa using c7
  (try (have c7b1 : decide (t350 = t351) = true := by simpa using c7))
  (try (have c7b2 : (t350 == t351) = true := by simpa using c7))
  clear c7; have HC54 := Aside0.mk H; clear H
  go_enter Tryd.func34, Tryd.ntmps34
  try go_wp2_with (first | ((with_reducible refine gate_dst (N := 2) rfl ?_); refine box_event ?hg (N := 2) ?hd (cs := #[.bool a0_0, .int .u64 a0_1, .int .u64 a0_2]) (t := 59) ?hr ?_; (case hd => rfl); (case hg => rfl); (case hr => first | (go_simp; done) | (go_simp; rfl)); intro gb338 hg w55 hbox hb; have BK338 := Aside0.mk (hbox); obtain ⟨GW338, nHB⟩ := geA hg hb; have GE338 := GW338; replace HB := nHB; clear nHB; clear hb hbox hg) | ((with_reducible refine gate_dst (N := 3) rfl ?_); refine box_event ?hg (N := 3) ?hd (cs := #[.bool a1_0, .int .u64 a1_1, .int .u64 a1_2]) (t := 59) ?hr ?_; (case hd => rfl); (case hg => rfl); (case hr => first | (go_simp; done) | (go_simp; rfl)); intro gb339 hg w56 hbox hb; have BK339 := Aside0.mk (hbox); obtain ⟨GW339, nHB⟩ := geA hg hb; have GE339 := GW339; obtain ⟨NB338_339, NB339_338, nBK⟩ := nbA BK338 hg hb; replace BK338 := nBK; clear nBK; replace HB := nHB; clear nHB; clear hb hbox hg; have hnb57 := NB338_339.out; have hnc57 := NB339_338.out; have hcz58_0 := czZ BK338 0 (.bool a0_0); have hcz58_1 := czZ BK338 1 (.int .u64 a0_1); have hcz58_2 := czZ BK338 2 (.int .u64 a0_2); have hfz58_0 := blk_frozen BK338.out 0; have hfz58_1 := blk_frozen BK338.out 1; have hfz58_2 := blk_frozen BK338.out 2) | ((with_reducible refine gate_callee (f := 49) rfl ?_); refine goesLA_ (some 8) rfl rfl Tryd.func49 rfl #[.agg #[.bool a0_0, .int .u64 a0_1, .int .u64 a0_2]] rfl ?_; (with_reducible refine (sawtoothref02_digits.calls a0_0 a0_1 a0_2 t340 t341 t342 t343 _ A3.out).mono ?_); rintro e w59 ⟨rfl, hb⟩; refine ⟨_, rfl, ?_⟩; replace BK338 := bdZ BK338 hb; replace BK339 := bdZ BK339 hb; replace HB := stA hb; clear hb) | ((with_reducible refine gate_dst (N := 5) rfl ?_); refine box_event ?hg (N := 5) ?hd (cs := #[.int .u64 0, .int .u64 0, .int .u64 0, .int .u64 0]) (t := 76) ?hr ?_; (case hd => rfl); (case hg => rfl); (case hr => first | (go_simp; done) | (go_simp; rfl)); intro gb344 hg w60 hbox hb; have BK344 := Aside0.mk (hbox); obtain ⟨GW344, nHB⟩ := geA hg hb; have GE344 := GW344; obtain ⟨NB338_344, NB344_338, nBK⟩ := nbA BK338 hg hb; replace BK338 := nBK; clear nBK; obtain ⟨NB339_344, NB344_339, nBK⟩ := nbA BK339 hg hb; replace BK339 := nBK; clear nBK; replace HB := nHB; clear nHB; clear hb hbox hg; have hnb61 := NB344_338.out; have hnc61 := NB338_344.out; have hnb62 := NB344_339.out; have hnc62 := NB339_344.out; have hcz63_0 := czZ BK344 0 (.int .u64 0); have hcz63_1 := czZ BK344 1 (.int .u64 0); have hcz63_2 := czZ BK344 2 (.int .u64 0); have hcz63_3 := czZ BK344 3 (.int .u64 0); have hfz63_0 := blk_frozen BK344.out 0; have hfz63_1 := blk_frozen BK344.out 1; have hfz63_2 := blk_frozen BK344.out 2; have hfz63_3 := blk_frozen BK344.out 3; have hcz64_0 := czZ BK339 0 (.bool a1_0); have hcz64_1 := czZ BK339 1 (.int .u64 a1_1); have hcz64_2 := czZ BK339 2 (.int .u64 a1_2); have hfz64_0 := blk_frozen BK339.out 0; have hfz64_1 := blk_frozen BK339.out 1; have hfz64_2 := blk_frozen BK339.out 2) | ((with_reducible refine gate_callee (f := 49) rfl ?_); refine goesLA_ (some 10) rfl rfl Tryd.func49 rfl #[.agg #[.bool a1_0, .int .u64 a1_1, .int .u64 a1_2]] rfl ?_; (with_reducible refine (sawtoothref02_digits.calls a1_0 a1_1 a1_2 t345 t346 t347 t348 _ A4.out).mono ?_); rintro e w65 ⟨rfl, hb⟩; refine ⟨_, rfl, ?_⟩; replace BK338 := bfZ BK338 (fun h_ => by (with_reducible repeat first | apply blk_drewN | apply blk_drew | apply blk_alloc | refine farZ ?_ NB338_344 _); exact h_) hb; replace BK339 := bfZ BK339 (fun h_ => by (with_reducible repeat first | apply blk_drewN | apply blk_drew | apply blk_alloc | refine farZ ?_ NB339_344 _); exact h_) hb; replace BK344 := Aside0.mk (blk_below (g := gb344) (o := .cells #[.int .u64 t340, .int .u64 t341, .int .u64 t342, .int .u64 t343] 76 (0, 0)) (by (with_reducible repeat first | apply blk_drewN | apply blk_drew | apply blk_alloc); refine blk_put (cs := #[.int .u64 t340, .int .u64 t341, .int .u64 t342, .int .u64 0]) ?_ 3 _ rfl; (with_reducible repeat first | apply blk_drewN | apply blk_drew | apply blk_alloc); refine blk_put (cs := #[.int .u64 t340, .int .u64 t341, .int .u64 0, .int .u64 0]) ?_ 2 _ rfl; (with_reducible repeat first | apply blk_drewN | apply blk_drew | apply blk_alloc); refine blk_put (cs := #[.int .u64 t340, .int .u64 0, .int .u64 0, .int .u64 0]) ?_ 1 _ rfl; (with_reducible repeat first | apply blk_drewN | apply blk_drew | apply blk_alloc); refine blk_put (cs := #[.int .u64 0, .int .u64 0, .int .u64 0, .int .u64 0]) ?_ 0 _ rfl; (with_reducible repeat first | apply blk_drewN | apply blk_drew | apply blk_alloc); exact BK344.out) hb); replace HB := stA hb; clear hb) | ((with_reducible refine gate_dst (N := 6) rfl ?_); refine box_event ?hg (N := 6) ?hd (cs := #[.int .u64 0, .int .u64 0, .int .u64 0, .int .u64 0]) (t := 76) ?hr ?_; (case hd => rfl); (case hg => rfl); (case hr => first | (go_simp; done) | (go_simp; rfl)); intro gb349 hg w66 hbox hb; have BK349 := Aside0.mk (hbox); obtain ⟨GW349, nHB⟩ := geA hg hb; have GE349 := GW349; obtain ⟨NB338_349, NB349_338, nBK⟩ := nbA BK338 hg hb; replace BK338 := nBK; clear nBK; obtain ⟨NB339_349, NB349_339, nBK⟩ := nbA BK339 hg hb; replace BK339 := nBK; clear nBK; obtain ⟨NB344_349, NB349_344, nBK⟩ := nbA BK344 hg hb; replace BK344 := nBK; clear nBK; replace HB := nHB; clear nHB; clear hb hbox hg; have hnb67 := NB349_338.out; have hnc67 := NB338_349.out; have hnb68 := NB349_339.out; have hnc68 := NB339_349.out; have hnb69 := NB349_344.out; have hnc69 := NB344_349.out; have hcz70_0 := czZ BK349 0 (.int .u64 0); have hcz70_1 := czZ BK349 1 (.int .u64 0); have hcz70_2 := czZ BK349 2 (.int .u64 0); have hcz70_3 := czZ BK349 3 (.int .u64 0); have hfz70_0 := blk_frozen BK349.out 0; have hfz70_1 := blk_frozen BK349.out 1; have hfz70_2 := blk_frozen BK349.out 2; have hfz70_3 := blk_frozen BK349.out 3))
  have n0_ : Aside0 (((((w66.setCell ⟨gb349, 0, none⟩ (.int .u64 t345)).setCell ⟨gb349, 1, none⟩ (.int .u64 t346)).setCell ⟨gb349, 2, none⟩ (.int .u64 t347)).setCell ⟨gb349, 3, none⟩ (.int .u64 t348)).heap[gb338]? = some (.cells #[.bool a0_0, .int .u64 a0_1, .int .u64 a0_2] 59 (0, 0))) := ⟨by (with_reducible repeat first | apply blk_drewN | apply blk_drew | apply blk_alloc); refine blk_far ?_ NB338_349.out _; (with_reducible repeat first | apply blk_drewN | apply blk_drew | apply blk_alloc); refine blk_far ?_ NB338_349.out _; (with_reducible repeat first | apply blk_drewN | apply blk_drew | apply blk_alloc); refine blk_far ?_ NB338_349.out _; (with_reducible repeat first | apply blk_drewN | apply blk_drew | apply blk_alloc); refine blk_far ?_ NB338_349.out _; (with_reducible repeat first | apply blk_drewN | apply blk_drew | apply blk_alloc); exact BK338.out⟩
  have n1_ : Aside0 (((((w66.setCell ⟨gb349, 0, none⟩ (.int .u64 t345)).setCell ⟨gb349, 1, none⟩ (.int .u64 t346)).setCell ⟨gb349, 2, none⟩ (.int .u64 t347)).setCell ⟨gb349, 3, none⟩ (.int .u64 t348)).heap[gb339]? = some (.cells #[.bool a1_0, .int .u64 a1_1, .int .u64 a1_2] 59 (0, 0))) := ⟨by (with_reducible repeat first | apply blk_drewN | apply blk_drew | apply blk_alloc); refine blk_far ?_ NB339_349.out _; (with_reducible repeat first | apply blk_drewN | apply blk_drew | apply blk_alloc); refine blk_far ?_ NB339_349.out _; (with_reducible repeat first | apply blk_drewN | apply blk_drew | apply blk_alloc); refine blk_far ?_ NB339_349.out _; (with_reducible repeat first | apply blk_drewN | apply blk_drew | apply blk_alloc); refine blk_far ?_ NB339_349.out _; (with_reducible repeat first | apply blk_drewN | apply blk_drew | apply blk_alloc); exact BK339.out⟩
  have n2_ : Aside0 (((((w66.setCell ⟨gb349, 0, none⟩ (.int .u64 t345)).setCell ⟨gb349, 1, none⟩ (.int .u64 t346)).setCell ⟨gb349, 2, none⟩ (.int .u64 t347)).setCell ⟨gb349, 3, none⟩ (.int .u64 t348)).heap[gb344]? = some (.cells #[.int .u64 t340, .int .u64 t341, .int .u64 t342, .int .u64 t343] 76 (0, 0))) := ⟨by (with_reducible repeat first | apply blk_drewN | apply blk_drew | apply blk_alloc); refine blk_far ?_ NB344_349.out _; (with_reducible repeat first | apply blk_drewN | apply blk_drew | apply blk_alloc); refine blk_far ?_ NB344_349.out _; (with_reducible repeat first | apply blk_drewN | apply blk_drew | apply blk_alloc); refine blk_far ?_ NB344_349.out _; (with_reducible repeat first | apply blk_drewN | apply blk_drew | apply blk_alloc); refine blk_far ?_ NB344_349.out _; (with_reducible repeat first | apply blk_drewN | apply blk_drew | apply blk_alloc); exact BK344.out⟩
  have n3_ : Aside0 (((((w66.setCell ⟨gb349, 0, none⟩ (.int .u64 t345)).setCell ⟨gb349, 1, none⟩ (.int .u64 t346)).setCell ⟨gb349, 2, none⟩ (.int .u64 t347)).setCell ⟨gb349, 3, none⟩ (.int .u64 t348)).heap[gb349]? = some (.cells #[.int .u64 t345, .int .u64 t346, .int .u64 t347, .int .u64 t348] 76 (0, 0))) := ⟨by (with_reducible repeat first | apply blk_drewN | apply blk_drew | apply blk_alloc); refine blk_put (cs := #[.int .u64 t345, .int .u64 t346, .int .u64 t347, .int .u64 0]) ?_ 3 _ rfl; (with_reducible repeat first | apply blk_drewN | apply blk_drew | apply blk_alloc); refine blk_put (cs := #[.int .u64 t345, .int .u64 t346, .int .u64 0, .int .u64 0]) ?_ 2 _ rfl; (with_reducible repeat first | apply blk_drewN | apply blk_drew | apply blk_alloc); refine blk_put (cs := #[.int .u64 t345, .int .u64 0, .int .u64 0, .int .u64 0]) ?_ 1 _ rfl; (with_reducible repeat first | apply blk_drewN | apply blk_drew | apply blk_alloc); refine blk_put (cs := #[.int .u64 0, .int .u64 0, .int .u64 0, .int .u64 0]) ?_ 0 _ rfl; (with_reducible repeat first | apply blk_drewN | apply blk_drew | apply blk_alloc); exact BK349.out⟩
  have n4_ : Aside0 (Below w.heap.size w ((((w66.setCell ⟨gb349, 0, none⟩ (.int .u64 t345)).setCell ⟨gb349, 1, none⟩ (.int .u64 t346)).setCell ⟨gb349, 2, none⟩ (.int .u64 t347)).setCell ⟨gb349, 3, none⟩ (.int .u64 t348))) := ⟨by repeat (first | (with_reducible first | exact HB.out | apply below_alloc | apply pw_below_drewN | apply below_drew1 | refine below_set ?_ (Aside0.out (by assumption))) | exact HB.out)⟩
  (try clear BK338); (try clear BK339); (try clear BK344); (try clear BK349); (try clear HB)
  generalize ((((w66.setCell ⟨gb349, 0, none⟩ (.int .u64 t345)).setCell ⟨gb349, 1, none⟩ (.int .u64 t346)).setCell ⟨gb349, 2, none⟩ (.int .u64 t347)).setCell ⟨gb349, 3, none⟩ (.int .u64 t348)) = w71 at n0_ n1_ n2_ n3_ n4_ ⊢
  have BK338 := n0_; have BK339 := n1_; have BK344 := n2_; have BK349 := n3_; have HB := n4_; clear n0_ n1_ n2_ n3_ n4_; replace BK338 := Aside0.mk (blk_drew BK338.out); replace BK339 := Aside0.mk (blk_drew BK339.out); replace BK344 := Aside0.mk (blk_drew BK344.out); replace BK349 := Aside0.mk (blk_drew BK349.out); replace HB := Aside0.mk (below_drew1 HB.out); refine start_ (n := 5) (S := fun w' => w'.cell? ⟨gb338, 0, none⟩ = some (.bool a0_0) ∧ w'.cell? ⟨gb338, 1, none⟩ = some (.int .u64 a0_1) ∧ w'.cell? ⟨gb338, 2, none⟩ = some (.int .u64 a0_2) ∧ w'.cell? ⟨gb339, 0, none⟩ = some (.bool a1_0) ∧ w'.cell? ⟨gb339, 1, none⟩ = some (.int .u64 a1_1) ∧ w'.cell? ⟨gb339, 2, none⟩ = some (.int .u64 a1_2)) (ds := []) #[N,N,N,N,N] (by kernel_rfl) rfl rfl ⟨(blk_cell BK338.out 0).trans rfl, (blk_cell BK338.out 1).trans rfl, (blk_cell BK338.out 2).trans rfl, (blk_cell BK339.out 0).trans rfl, (blk_cell BK339.out 1).trans rfl, (blk_cell BK339.out 2).trans rfl⟩ (fun hHeld => ?_)
  generalize w71.drew = w72 at BK338 BK339 BK344 BK349 HB hHeld ⊢
  refine take_ (i := 0) (N := some 11) (v := ?_) (a' := ?_) #[Y,N,N,N,N] rfl rfl (by kernel_rfl) (fun _ _ _ h => h) (Or.inl ⟨by rfl, ?_⟩) hHeld ?_ ?_; rotate_left
  ·rintro w' ⟨s0, s1, s2, s3, s4, s5⟩; go_simp
   with_reducible rfl
  rotate_left
  ·simp only [Act.put, sA, sB, sC, i64_w, i32_w]
   rfl
  refine take_ (i := 2) (N := some 13) (v := ?_) (a' := ?_) #[Y,N,Y,N,N] rfl rfl (by kernel_rfl) (fun _ _ _ h => h) (Or.inl ⟨by rfl, ?_⟩) hHeld ?_ ?_; rotate_left
  ·rintro w' ⟨s0, s1, s2, s3, s4, s5⟩; go_simp
   with_reducible rfl
  rotate_left
  ·simp only [Act.put, sA, sB, sC, i64_w, i32_w]
   rfl
  refine one_ (i := 1) (N := some 12) #[Y,Y,Y,N,N] rfl rfl (by kernel_rfl) (by decide) (fun K hK => ?_); refine goesA_ Tryd.func50 rfl #[.agg #[.bool a0_0, .int .u64 a0_1, .int .u64 a0_2]] (by rfl) rfl rfl ?_
  with_reducible refine (sawtoothref02_belowS.calls a0_0 a0_1 a0_2 t350 _ A5.out).mono ?_
  rintro e w73 ⟨rfl, hb⟩; refine ⟨_, rfl, ?_⟩; replace BK338 := bbZ BK338 hb; replace BK339 := bbZ BK339 hb; replace BK344 := bbZ BK344 hb; replace BK349 := bbZ BK349 hb; replace HB := Aside0.mk (below_step HB.out hb); clear hb; refine hK.out _ _ ⟨(blk_cell BK338.out 0).trans rfl, (blk_cell BK338.out 1).trans rfl, (blk_cell BK338.out 2).trans rfl, (blk_cell BK339.out 0).trans rfl, (blk_cell BK339.out 1).trans rfl, (blk_cell BK339.out 2).trans rfl⟩ (fun hHeld => ?_); clear hK K; refine normA_ (some 12) ?_
  refine one_ (i := 3) (N := some 14) #[Y,Y,Y,Y,N] rfl rfl (by kernel_rfl) (by decide) (fun K hK => ?_); refine goesA_ Tryd.func50 rfl #[.agg #[.bool a1_0, .int .u64 a1_1, .int .u64 a1_2]] (by rfl) rfl rfl ?_
  with_reducible refine (sawtoothref02_belowS.calls a1_0 a1_1 a1_2 t351 _ A6.out).mono ?_
  rintro e w74 ⟨rfl, hb⟩; refine ⟨_, rfl, ?_⟩; replace BK338 := bbZ BK338 hb; replace BK339 := bbZ BK339 hb; replace BK344 := bbZ BK344 hb; replace BK349 := bbZ BK349 hb; replace HB := Aside0.mk (below_step HB.out hb); clear hb; refine hK.out _ _ ⟨(blk_cell BK338.out 0).trans rfl, (blk_cell BK338.out 1).trans rfl, (blk_cell BK338.out 2).trans rfl, (blk_cell BK339.out 0).trans rfl, (blk_cell BK339.out 1).trans rfl, (blk_cell BK339.out 2).trans rfl⟩ (fun hHeld => ?_); clear hK K; refine normA_ (some 14) ?_
  refine pureA_ (i := 4) (N := some 15) #[Y,Y,Y,Y,Y] rfl rfl (by kernel_rfl) ?_
  refine done_ (by kernel_rfl) ?_
  go_upto_region 7 with (fail)
  go_cut [32] (fun v32 wc => ∃ (kq : Nat) (x32_53 : Bool), v32 = .bool x32_53 ∧ Aside0 (sawtoothref02_Cmp.j0 kq x32_53 t340 t341 t342 t343 t345 t346 t347 t348 = some r) ∧ Aside0 (kq ≤ k) ∧ Aside0 (wc.heap[gb338]? = some (.cells #[.bool a0_0, .int .u64 a0_1, .int .u64 a0_2] 59 (0, 0))) ∧ Aside0 (wc.heap[gb339]? = some (.cells #[.bool a1_0, .int .u64 a1_1, .int .u64 a1_2] 59 (0, 0))) ∧ Aside0 (wc.heap[gb344]? = some (.cells #[.int .u64 t340, .int .u64 t341, .int .u64 t342, .int .u64 t343] 76 (0, 0))) ∧ Aside0 (wc.heap[gb349]? = some (.cells #[.int .u64 t345, .int .u64 t346, .int .u64 t347, .int .u64 t348] 76 (0, 0))) ∧ Aside0 (Below w.heap.size w wc))
  case first =>
   have H := HC54.out; clear HC54; replace H := Option.bind_eq_some_iff.mp H; obtain ⟨t353, A750, H⟩ := H; (try dsimp only at H); have A75 := Aside0.mk A750; clear A750; replace H := Option.bind_eq_some_iff.mp H; obtain ⟨t354, A760, H⟩ := H; (try dsimp only at H); have A76 := Aside0.mk A760; clear A760
   by_cases c77 : (t353 != t354) = true
   ·rw [if_pos c77] at H
    have c77b0 : (t353 != t354) = true := c77
    (try (have c77b1 : decide (t353 = t354) = false := by simpa using c77))
    (try (have c77b2 : (t353 == t354) = false := by simpa using c77))
    (try (have c77b3 : ¬ (t353 = t354) := by simpa using c77))
    clear c77
    (first | rw [c77b0] | (simp only [i64_w, i32_w]; rw [c77b0]) | skip)
    replace H := Option.bind_eq_some_iff.mp H; obtain ⟨t355, A780, H⟩ := H; replace H : ((sawtoothref02_belowS.f a0_0 a0_1 a0_2).bind fun t356 => (sawtoothref02_Cmp.j0 k (t355 == t356) t340 t341 t342 t343 t345 t346 t347 t348)) = some r := H; have A78 := Aside0.mk A780; clear A780; replace H := Option.bind_eq_some_iff.mp H; obtain ⟨t356, A790, H⟩ := H; replace H : (sawtoothref02_Cmp.j0 k (t355 == t356) t340 t341 t342 t343 t345 t346 t347 t348) = some r := H; have A79 := Aside0.mk A790; clear A790; have H' := Aside0.mk H; clear H
    try go_wp2
    replace BK338 := Aside0.mk (blk_drew BK338.out); replace BK339 := Aside0.mk (blk_drew BK339.out); replace BK344 := Aside0.mk (blk_drew BK344.out); replace BK349 := Aside0.mk (blk_drew BK349.out); replace HB := Aside0.mk (below_drew1 HB.out); refine start_ (n := 15) (S := fun w' => w'.cell? ⟨gb344, 0, none⟩ = some (.int .u64 t340) ∧ w'.cell? ⟨gb344, 1, none⟩ = some (.int .u64 t341) ∧ w'.cell? ⟨gb344, 2, none⟩ = some (.int .u64 t342) ∧ w'.cell? ⟨gb344, 3, none⟩ = some (.int .u64 t343) ∧ w'.cell? ⟨gb349, 0, none⟩ = some (.int .u64 t345) ∧ w'.cell? ⟨gb349, 1, none⟩ = some (.int .u64 t346) ∧ w'.cell? ⟨gb349, 2, none⟩ = some (.int .u64 t347) ∧ w'.cell? ⟨gb349, 3, none⟩ = some (.int .u64 t348) ∧ w'.cell? ⟨gb338, 0, none⟩ = some (.bool a0_0) ∧ w'.cell? ⟨gb338, 1, none⟩ = some (.int .u64 a0_1) ∧ w'.cell? ⟨gb338, 2, none⟩ = some (.int .u64 a0_2)) (ds := []) #[N,N,N,N,N,N,N,N,N,N,N,N,N,N,N] (by kernel_rfl) rfl rfl ⟨(blk_cell BK344.out 0).trans rfl, (blk_cell BK344.out 1).trans rfl, (blk_cell BK344.out 2).trans rfl, (blk_cell BK344.out 3).trans rfl, (blk_cell BK349.out 0).trans rfl, (blk_cell BK349.out 1).trans rfl, (blk_cell BK349.out 2).trans rfl, (blk_cell BK349.out 3).trans rfl, (blk_cell BK338.out 0).trans rfl, (blk_cell BK338.out 1).trans rfl, (blk_cell BK338.out 2).trans rfl⟩ (fun hHeld => ?_); refine with_tabW sawtoothref02_Cmp.tab7 sawtoothref02_Cmp.bits7 (fun HT_ HW_ => ?_)
    generalize w74.drew = w80 at BK338 BK339 BK344 BK349 HB hHeld ⊢
    refine take_ (i := 0) (N := some 18) (v := ?_) (a' := ?_) #[Y,N,N,N,N,N,N,N,N,N,N,N,N,N,N] rfl rfl (take_ofW HT_.out HW_.out (by kernel_rfl)) (fun _ _ _ h => h) (Or.inl ⟨by rfl, ?_⟩) hHeld ?_ ?_; rotate_left
    ·rintro w' ⟨s0, s1, s2, s3, s4, s5, s6, s7, s8, s9, s10⟩; go_simp
     with_reducible rfl
    rotate_left
    ·simp only [Act.put, sA, sB, sC, i64_w, i32_w]
     rfl
    refine take_ (i := 1) (N := some 19) (v := ?_) (a' := ?_) #[Y,Y,N,N,N,N,N,N,N,N,N,N,N,N,N] rfl rfl (take_ofW HT_.out HW_.out (by kernel_rfl)) (fun _ _ _ h => h) (Or.inl ⟨by rfl, ?_⟩) hHeld ?_ ?_; rotate_left
    ·rintro w' ⟨s0, s1, s2, s3, s4, s5, s6, s7, s8, s9, s10⟩; go_simp
     with_reducible rfl
    rotate_left
    ·simp only [Act.put, sA, sB, sC, i64_w, i32_w]
     rfl
    refine take_ (i := 3) (N := some 21) (v := ?_) (a' := ?_) #[Y,Y,N,Y,N,N,N,N,N,N,N,N,N,N,N] rfl rfl (take_ofW HT_.out HW_.out (by kernel_rfl)) (fun _ _ _ h => h) (Or.inl ⟨by rfl, ?_⟩) hHeld ?_ ?_; rotate_left
    ·rintro w' ⟨s0, s1, s2, s3, s4, s5, s6, s7, s8, s9, s10⟩; go_simp
     with_reducible rfl
    rotate_left
    ·simp only [Act.put, sA, sB, sC, i64_w, i32_w]
     rfl
    refine take_ (i := 4) (N := some 22) (v := ?_) (a' := ?_) #[Y,Y,N,Y,Y,N,N,N,N,N,N,N,N,N,N] rfl rfl (take_ofW HT_.out HW_.out (by kernel_rfl)) (fun _ _ _ h => h) (Or.inl ⟨by rfl, ?_⟩) hHeld ?_ ?_; rotate_left
    ·rintro w' ⟨s0, s1, s2, s3, s4, s5, s6, s7, s8, s9, s10⟩; go_simp
     with_reducible rfl
    rotate_left
    ·simp only [Act.put, sA, sB, sC, i64_w, i32_w]
     rfl
    refine one_ (i := 2) (N := some 20) #[Y,Y,Y,Y,Y,N,N,N,N,N,N,N,N,N,N] rfl rfl (one_of HT_.out (by kernel_rfl)) (by decide) (fun K hK => ?_); refine goesA_ Tryd.func51 rfl #[.agg #[.int .u64 t340, .int .u64 t341, .int .u64 t342, .int .u64 t343], .agg #[.int .u64 t345, .int .u64 t346, .int .u64 t347, .int .u64 t348]] (by rfl) rfl rfl ?_
    with_reducible refine (sawtoothref02_less.calls t340 t341 t342 t343 t345 t346 t347 t348 t353 _ A75.out).mono ?_
    rintro e w81 ⟨rfl, hb⟩; refine ⟨_, rfl, ?_⟩; replace BK338 := bbZ BK338 hb; replace BK339 := bbZ BK339 hb; replace BK344 := bbZ BK344 hb; replace BK349 := bbZ BK349 hb; replace HB := Aside0.mk (below_step HB.out hb); clear hb; refine hK.out _ _ ⟨(blk_cell BK344.out 0).trans rfl, (blk_cell BK344.out 1).trans rfl, (blk_cell BK344.out 2).trans rfl, (blk_cell BK344.out 3).trans rfl, (blk_cell BK349.out 0).trans rfl, (blk_cell BK349.out 1).trans rfl, (blk_cell BK349.out 2).trans rfl, (blk_cell BK349.out 3).trans rfl, (blk_cell BK338.out 0).trans rfl, (blk_cell BK338.out 1).trans rfl, (blk_cell BK338.out 2).trans rfl⟩ (fun hHeld => ?_); clear hK K; refine normA_ (some 20) ?_
    refine one_ (i := 5) (N := some 23) #[Y,Y,Y,Y,Y,Y,N,N,N,N,N,N,N,N,N] rfl rfl (one_of HT_.out (by kernel_rfl)) (by decide) (fun K hK => ?_); refine goesA_ Tryd.func51 rfl #[.agg #[.int .u64 t345, .int .u64 t346, .int .u64 t347, .int .u64 t348], .agg #[.int .u64 t340, .int .u64 t341, .int .u64 t342, .int .u64 t343]] (by rfl) rfl rfl ?_
    with_reducible refine (sawtoothref02_less.calls t345 t346 t347 t348 t340 t341 t342 t343 t354 _ A76.out).mono ?_
    rintro e w82 ⟨rfl, hb⟩; refine ⟨_, rfl, ?_⟩; replace BK338 := bbZ BK338 hb; replace BK339 := bbZ BK339 hb; replace BK344 := bbZ BK344 hb; replace BK349 := bbZ BK349 hb; replace HB := Aside0.mk (below_step HB.out hb); clear hb; refine hK.out _ _ ⟨(blk_cell BK344.out 0).trans rfl, (blk_cell BK344.out 1).trans rfl, (blk_cell BK344.out 2).trans rfl, (blk_cell BK344.out 3).trans rfl, (blk_cell BK349.out 0).trans rfl, (blk_cell BK349.out 1).trans rfl, (blk_cell BK349.out 2).trans rfl, (blk_cell BK349.out 3).trans rfl, (blk_cell BK338.out 0).trans rfl, (blk_cell BK338.out 1).trans rfl, (blk_cell BK338.out 2).trans rfl⟩ (fun hHeld => ?_); clear hK K; refine normA_ (some 23) ?_
    refine pureA_ (i := 6) (N := some 24) #[Y,Y,Y,Y,Y,Y,Y,N,N,N,N,N,N,N,N] rfl rfl (any_of HT_.out (by kernel_rfl)) ?_
    refine pureA_ (i := 7) (N := some 25) #[Y,Y,Y,Y,Y,Y,Y,Y,N,N,N,N,N,N,N] rfl rfl (any_of HT_.out (by kernel_rfl)) ?_
    refine take_ (i := 8) (N := some 26) (v := ?_) (a' := ?_) #[Y,Y,Y,Y,Y,Y,Y,Y,Y,N,N,N,N,N,N] rfl rfl (take_ofW HT_.out HW_.out (by kernel_rfl)) (fun _ _ _ h => h) (Or.inl ⟨by rfl, ?_⟩) hHeld ?_ ?_; rotate_left
    ·rintro w' ⟨s0, s1, s2, s3, s4, s5, s6, s7, s8, s9, s10⟩; go_simp
     with_reducible rfl
    rotate_left
    ·simp only [Act.put, sA, sB, sC, i64_w, i32_w]
     rfl
    refine take_ (i := 9) (N := some 27) (v := ?_) (a' := ?_) #[Y,Y,Y,Y,Y,Y,Y,Y,Y,Y,N,N,N,N,N] rfl rfl (take_ofW HT_.out HW_.out (by kernel_rfl)) (fun _ _ _ h => h) (Or.inl ⟨by rfl, ?_⟩) hHeld ?_ ?_; rotate_left
    ·rintro w' ⟨s0, s1, s2, s3, s4, s5, s6, s7, s8, s9, s10⟩; go_simp
     with_reducible rfl
    rotate_left
    ·simp only [Act.put, sA, sB, sC, i64_w, i32_w]
     rfl
    refine take_ (i := 11) (N := some 29) (v := ?_) (a' := ?_) #[Y,Y,Y,Y,Y,Y,Y,Y,Y,Y,N,Y,N,N,N] rfl rfl (take_ofW HT_.out HW_.out (by kernel_rfl)) (fun _ _ _ h => h) (Or.inl ⟨by rfl, ?_⟩) hHeld ?_ ?_; rotate_left
    ·rintro w' ⟨s0, s1, s2, s3, s4, s5, s6, s7, s8, s9, s10⟩; go_simp
     with_reducible rfl
    rotate_left
    ·simp only [Act.put, sA, sB, sC, i64_w, i32_w]
     rfl
    refine one_ (i := 10) (N := some 28) #[Y,Y,Y,Y,Y,Y,Y,Y,Y,Y,Y,Y,N,N,N] rfl rfl (one_of HT_.out (by kernel_rfl)) (by decide) (fun K hK => ?_); refine goesA_ Tryd.func51 rfl #[.agg #[.int .u64 t340, .int .u64 t341, .int .u64 t342, .int .u64 t343], .agg #[.int .u64 t345, .int .u64 t346, .int .u64 t347, .int .u64 t348]] (by rfl) rfl rfl ?_
    with_reducible refine (sawtoothref02_less.calls t340 t341 t342 t343 t345 t346 t347 t348 t355 _ A78.out).mono ?_
    rintro e w83 ⟨rfl, hb⟩; refine ⟨_, rfl, ?_⟩; replace BK338 := bbZ BK338 hb; replace BK339 := bbZ BK339 hb; replace BK344 := bbZ BK344 hb; replace BK349 := bbZ BK349 hb; replace HB := Aside0.mk (below_step HB.out hb); clear hb; refine hK.out _ _ ⟨(blk_cell BK344.out 0).trans rfl, (blk_cell BK344.out 1).trans rfl, (blk_cell BK344.out 2).trans rfl, (blk_cell BK344.out 3).trans rfl, (blk_cell BK349.out 0).trans rfl, (blk_cell BK349.out 1).trans rfl, (blk_cell BK349.out 2).trans rfl, (blk_cell BK349.out 3).trans rfl, (blk_cell BK338.out 0).trans rfl, (blk_cell BK338.out 1).trans rfl, (blk_cell BK338.out 2).trans rfl⟩ (fun hHeld => ?_); clear hK K; refine normA_ (some 28) ?_
    refine one_ (i := 12) (N := some 30) #[Y,Y,Y,Y,Y,Y,Y,Y,Y,Y,Y,Y,Y,N,N] rfl rfl (one_of HT_.out (by kernel_rfl)) (by decide) (fun K hK => ?_); refine goesA_ Tryd.func50 rfl #[.agg #[.bool a0_0, .int .u64 a0_1, .int .u64 a0_2]] (by rfl) rfl rfl ?_
    with_reducible refine (sawtoothref02_belowS.calls a0_0 a0_1 a0_2 t356 _ A79.out).mono ?_
    rintro e w84 ⟨rfl, hb⟩; refine ⟨_, rfl, ?_⟩; replace BK338 := bbZ BK338 hb; replace BK339 := bbZ BK339 hb; replace BK344 := bbZ BK344 hb; replace BK349 := bbZ BK349 hb; replace HB := Aside0.mk (below_step HB.out hb); clear hb; refine hK.out _ _ ⟨(blk_cell BK344.out 0).trans rfl, (blk_cell BK344.out 1).trans rfl, (blk_cell BK344.out 2).trans rfl, (blk_cell BK344.out 3).trans rfl, (blk_cell BK349.out 0).trans rfl, (blk_cell BK349.out 1).trans rfl, (blk_cell BK349.out 2).trans rfl, (blk_cell BK349.out 3).trans rfl, (blk_cell BK338.out 0).trans rfl, (blk_cell BK338.out 1).trans rfl, (blk_cell BK338.out 2).trans rfl⟩ (fun hHeld => ?_); clear hK K; refine normA_ (some 30) ?_
    refine pureA_ (i := 13) (N := some 31) #[Y,Y,Y,Y,Y,Y,Y,Y,Y,Y,Y,Y,Y,Y,N] rfl rfl (any_of HT_.out (by kernel_rfl)) ?_
    refine pureA_ (i := 14) (N := some 32) #[Y,Y,Y,Y,Y,Y,Y,Y,Y,Y,Y,Y,Y,Y,Y] rfl rfl (any_of HT_.out (by kernel_rfl)) ?_
    refine done_ (done_of HT_.out (by kernel_rfl)) ?_
    try go_wp2
    go_meet
    case rel => exact ⟨_, ((t355 == t356)), (by first | rfl | (simp; done) | (simp [*]; done)), H', ⟨by first | omega | exact Nat.le_refl _⟩, ⟨by (with_reducible repeat first | apply blk_drewN | apply blk_drew | apply blk_alloc); exact BK338.out⟩, ⟨by (with_reducible repeat first | apply blk_drewN | apply blk_drew | apply blk_alloc); exact BK339.out⟩, ⟨by (with_reducible repeat first | apply blk_drewN | apply blk_drew | apply blk_alloc); exact BK344.out⟩, ⟨by (with_reducible repeat first | apply blk_drewN | apply blk_drew | apply blk_alloc); exact BK349.out⟩, ⟨by repeat (first | (with_reducible first | exact HB.out | apply below_alloc | apply pw_below_drewN | apply below_drew1 | refine below_set ?_ (Aside0.out (by assumption))) | exact HB.out)⟩⟩
   ·rw [if_neg c77] at H
    have c77b0 : (t353 != t354) = false := by simpa using c77
    (try (have c77b1 : decide (t353 = t354) = true := by simpa using c77))
    (try (have c77b2 : (t353 == t354) = true := by simpa using c77))
    clear c77
    (first | rw [c77b0] | (simp only [i64_w, i32_w]; rw [c77b0]) | skip)
    have H' := Aside0.mk H; clear H
    try go_wp2
    replace BK338 := Aside0.mk (blk_drew BK338.out); replace BK339 := Aside0.mk (blk_drew BK339.out); replace BK344 := Aside0.mk (blk_drew BK344.out); replace BK349 := Aside0.mk (blk_drew BK349.out); replace HB := Aside0.mk (below_drew1 HB.out); refine start_ (n := 15) (S := fun w' => w'.cell? ⟨gb344, 0, none⟩ = some (.int .u64 t340) ∧ w'.cell? ⟨gb344, 1, none⟩ = some (.int .u64 t341) ∧ w'.cell? ⟨gb344, 2, none⟩ = some (.int .u64 t342) ∧ w'.cell? ⟨gb344, 3, none⟩ = some (.int .u64 t343) ∧ w'.cell? ⟨gb349, 0, none⟩ = some (.int .u64 t345) ∧ w'.cell? ⟨gb349, 1, none⟩ = some (.int .u64 t346) ∧ w'.cell? ⟨gb349, 2, none⟩ = some (.int .u64 t347) ∧ w'.cell? ⟨gb349, 3, none⟩ = some (.int .u64 t348)) (ds := []) #[N,N,N,N,N,N,N,N,N,N,N,N,N,N,N] (by kernel_rfl) rfl rfl ⟨(blk_cell BK344.out 0).trans rfl, (blk_cell BK344.out 1).trans rfl, (blk_cell BK344.out 2).trans rfl, (blk_cell BK344.out 3).trans rfl, (blk_cell BK349.out 0).trans rfl, (blk_cell BK349.out 1).trans rfl, (blk_cell BK349.out 2).trans rfl, (blk_cell BK349.out 3).trans rfl⟩ (fun hHeld => ?_); refine with_tabW sawtoothref02_Cmp.tab7 sawtoothref02_Cmp.bits7 (fun HT_ HW_ => ?_)
    generalize w74.drew = w85 at BK338 BK339 BK344 BK349 HB hHeld ⊢
    refine take_ (i := 0) (N := some 18) (v := ?_) (a' := ?_) #[Y,N,N,N,N,N,N,N,N,N,N,N,N,N,N] rfl rfl (take_ofW HT_.out HW_.out (by kernel_rfl)) (fun _ _ _ h => h) (Or.inl ⟨by rfl, ?_⟩) hHeld ?_ ?_; rotate_left
    ·rintro w' ⟨s0, s1, s2, s3, s4, s5, s6, s7⟩; go_simp
     with_reducible rfl
    rotate_left
    ·simp only [Act.put, sA, sB, sC, i64_w, i32_w]
     rfl
    refine take_ (i := 1) (N := some 19) (v := ?_) (a' := ?_) #[Y,Y,N,N,N,N,N,N,N,N,N,N,N,N,N] rfl rfl (take_ofW HT_.out HW_.out (by kernel_rfl)) (fun _ _ _ h => h) (Or.inl ⟨by rfl, ?_⟩) hHeld ?_ ?_; rotate_left
    ·rintro w' ⟨s0, s1, s2, s3, s4, s5, s6, s7⟩; go_simp
     with_reducible rfl
    rotate_left
    ·simp only [Act.put, sA, sB, sC, i64_w, i32_w]
     rfl
    refine take_ (i := 3) (N := some 21) (v := ?_) (a' := ?_) #[Y,Y,N,Y,N,N,N,N,N,N,N,N,N,N,N] rfl rfl (take_ofW HT_.out HW_.out (by kernel_rfl)) (fun _ _ _ h => h) (Or.inl ⟨by rfl, ?_⟩) hHeld ?_ ?_; rotate_left
    ·rintro w' ⟨s0, s1, s2, s3, s4, s5, s6, s7⟩; go_simp
     with_reducible rfl
    rotate_left
    ·simp only [Act.put, sA, sB, sC, i64_w, i32_w]
     rfl
    refine take_ (i := 4) (N := some 22) (v := ?_) (a' := ?_) #[Y,Y,N,Y,Y,N,N,N,N,N,N,N,N,N,N] rfl rfl (take_ofW HT_.out HW_.out (by kernel_rfl)) (fun _ _ _ h => h) (Or.inl ⟨by rfl, ?_⟩) hHeld ?_ ?_; rotate_left
    ·rintro w' ⟨s0, s1, s2, s3, s4, s5, s6, s7⟩; go_simp
     with_reducible rfl
    rotate_left
    ·simp only [Act.put, sA, sB, sC, i64_w, i32_w]
     rfl
    refine one_ (i := 2) (N := some 20) #[Y,Y,Y,Y,Y,N,N,N,N,N,N,N,N,N,N] rfl rfl (one_of HT_.out (by kernel_rfl)) (by decide) (fun K hK => ?_); refine goesA_ Tryd.func51 rfl #[.agg #[.int .u64 t340, .int .u64 t341, .int .u64 t342, .int .u64 t343], .agg #[.int .u64 t345, .int .u64 t346, .int .u64 t347, .int .u64 t348]] (by rfl) rfl rfl ?_
    with_reducible refine (sawtoothref02_less.calls t340 t341 t342 t343 t345 t346 t347 t348 t353 _ A75.out).mono ?_
    rintro e w86 ⟨rfl, hb⟩; refine ⟨_, rfl, ?_⟩; replace BK338 := bbZ BK338 hb; replace BK339 := bbZ BK339 hb; replace BK344 := bbZ BK344 hb; replace BK349 := bbZ BK349 hb; replace HB := Aside0.mk (below_step HB.out hb); clear hb; refine hK.out _ _ ⟨(blk_cell BK344.out 0).trans rfl, (blk_cell BK344.out 1).trans rfl, (blk_cell BK344.out 2).trans rfl, (blk_cell BK344.out 3).trans rfl, (blk_cell BK349.out 0).trans rfl, (blk_cell BK349.out 1).trans rfl, (blk_cell BK349.out 2).trans rfl, (blk_cell BK349.out 3).trans rfl⟩ (fun hHeld => ?_); clear hK K; refine normA_ (some 20) ?_
    refine one_ (i := 5) (N := some 23) #[Y,Y,Y,Y,Y,Y,N,N,N,N,N,N,N,N,N] rfl rfl (one_of HT_.out (by kernel_rfl)) (by decide) (fun K hK => ?_); refine goesA_ Tryd.func51 rfl #[.agg #[.int .u64 t345, .int .u64 t346, .int .u64 t347, .int .u64 t348], .agg #[.int .u64 t340, .int .u64 t341, .int .u64 t342, .int .u64 t343]] (by rfl) rfl rfl ?_
    with_reducible refine (sawtoothref02_less.calls t345 t346 t347 t348 t340 t341 t342 t343 t354 _ A76.out).mono ?_
    rintro e w87 ⟨rfl, hb⟩; refine ⟨_, rfl, ?_⟩; replace BK338 := bbZ BK338 hb; replace BK339 := bbZ BK339 hb; replace BK344 := bbZ BK344 hb; replace BK349 := bbZ BK349 hb; replace HB := Aside0.mk (below_step HB.out hb); clear hb; refine hK.out _ _ ⟨(blk_cell BK344.out 0).trans rfl, (blk_cell BK344.out 1).trans rfl, (blk_cell BK344.out 2).trans rfl, (blk_cell BK344.out 3).trans rfl, (blk_cell BK349.out 0).trans rfl, (blk_cell BK349.out 1).trans rfl, (blk_cell BK349.out 2).trans rfl, (blk_cell BK349.out 3).trans rfl⟩ (fun hHeld => ?_); clear hK K; refine normA_ (some 23) ?_
    refine pureA_ (i := 6) (N := some 24) #[Y,Y,Y,Y,Y,Y,Y,N,N,N,N,N,N,N,N] rfl rfl (any_of HT_.out (by kernel_rfl)) ?_
    refine pureA_ (i := 7) (N := some 25) #[Y,Y,Y,Y,Y,Y,Y,Y,N,N,N,N,N,N,N] rfl rfl (any_of HT_.out (by kernel_rfl)) ?_
    refine pure_ (i := 8) (N := some 26) (v := undef) (a' := ?_) #[Y,Y,Y,Y,Y,Y,Y,Y,Y,N,N,N,N,N,N] rfl rfl (any_of HT_.out (by kernel_rfl)) (fun _ _ _ h => h) (Or.inr ⟨by rfl, rfl⟩) ?_ ?_; rotate_left
    ·simp only [Act.put, sA, sB, sC, i64_w, i32_w]
     rfl
    refine pure_ (i := 9) (N := some 27) (v := undef) (a' := ?_) #[Y,Y,Y,Y,Y,Y,Y,Y,Y,Y,N,N,N,N,N] rfl rfl (any_of HT_.out (by kernel_rfl)) (fun _ _ _ h => h) (Or.inr ⟨by rfl, rfl⟩) ?_ ?_; rotate_left
    ·simp only [Act.put, sA, sB, sC, i64_w, i32_w]
     rfl
    refine pure_ (i := 10) (N := some 28) (v := undef) (a' := ?_) #[Y,Y,Y,Y,Y,Y,Y,Y,Y,Y,Y,N,N,N,N] rfl rfl (any_of HT_.out (by kernel_rfl)) (fun _ _ _ h => h) (Or.inr ⟨by rfl, rfl⟩) ?_ ?_; rotate_left
    ·simp only [Act.put, sA, sB, sC, i64_w, i32_w]
     rfl
    refine pure_ (i := 11) (N := some 29) (v := undef) (a' := ?_) #[Y,Y,Y,Y,Y,Y,Y,Y,Y,Y,Y,Y,N,N,N] rfl rfl (any_of HT_.out (by kernel_rfl)) (fun _ _ _ h => h) (Or.inr ⟨by rfl, rfl⟩) ?_ ?_; rotate_left
    ·simp only [Act.put, sA, sB, sC, i64_w, i32_w]
     rfl
    refine pure_ (i := 12) (N := some 30) (v := undef) (a' := ?_) #[Y,Y,Y,Y,Y,Y,Y,Y,Y,Y,Y,Y,Y,N,N] rfl rfl (any_of HT_.out (by kernel_rfl)) (fun _ _ _ h => h) (Or.inr ⟨by rfl, rfl⟩) ?_ ?_; rotate_left
    ·simp only [Act.put, sA, sB, sC, i64_w, i32_w]
     rfl
    refine pure_ (i := 13) (N := some 31) (v := undef) (a' := ?_) #[Y,Y,Y,Y,Y,Y,Y,Y,Y,Y,Y,Y,Y,Y,N] rfl rfl (any_of HT_.out (by kernel_rfl)) (fun _ _ _ h => h) (Or.inr ⟨by rfl, rfl⟩) ?_ ?_; rotate_left
    ·simp only [Act.put, sA, sB, sC, i64_w, i32_w]
     rfl
    refine pureA_ (i := 14) (N := some 32) #[Y,Y,Y,Y,Y,Y,Y,Y,Y,Y,Y,Y,Y,Y,Y] rfl rfl (any_of HT_.out (by kernel_rfl)) ?_
    refine done_ (done_of HT_.out (by kernel_rfl)) ?_
    try go_wp2
    go_meet
    case rel => exact ⟨_, (false), (by first | rfl | (simp; done) | (simp [*]; done)), H', ⟨by first | omega | exact Nat.le_refl _⟩, ⟨by (with_reducible repeat first | apply blk_drewN | apply blk_drew | apply blk_alloc); exact BK338.out⟩, ⟨by (with_reducible repeat first | apply blk_drewN | apply blk_drew | apply blk_alloc); exact BK339.out⟩, ⟨by (with_reducible repeat first | apply blk_drewN | apply blk_drew | apply blk_alloc); exact BK344.out⟩, ⟨by (with_reducible repeat first | apply blk_drewN | apply blk_drew | apply blk_alloc); exact BK349.out⟩, ⟨by repeat (first | (with_reducible first | exact HB.out | apply below_alloc | apply pw_below_drewN | apply below_drew1 | refine below_set ?_ (Aside0.out (by assumption))) | exact HB.out)⟩⟩
  case rest =>
   clear HC54
   try clear p2
   try clear c3
   try clear c4
   try clear c5
   try clear c6
   try clear c7
   try clear c7b0
   try clear c7b1
   try clear c7b2
   try clear c34
   try clear c49
   try clear c50
   try clear c51
   try clear c57
   try clear c61
   try clear c62
   try clear c67
   try clear c68
   try clear c69
   try clear c77
   try clear c77b0
   try clear c77b1
   try clear c77b2
   try clear hcz52_0
   try clear hcz52_1
   try clear hcz52_2
   try clear hcz58_0
   try clear hcz58_1
   try clear hcz58_2
   try clear hcz63_0
   try clear hcz63_1
   try clear hcz63_2
   try clear hcz63_3
   try clear hcz64_0
   try clear hcz64_1
   try clear hcz64_2
   try clear hcz70_0
   try clear hcz70_1
   try clear hcz70_2
   try clear hcz70_3
   try clear hfz52_0
   try clear hfz52_1
   try clear hfz52_2
   try clear hfz58_0
   try clear hfz58_1
   try clear hfz58_2
   try clear hfz63_0
   try clear hfz63_1
   try clear hfz63_2
   try clear hfz63_3
   try clear hfz64_0
   try clear hfz64_1
   try clear hfz64_2
   try clear hfz70_0
   try clear hfz70_1
   try clear hfz70_2
   try clear hfz70_3
   obtain ⟨kq, x32_53, rfl, HA, HJ53, BK338, BK339, BK344, BK349, HB⟩ := hcut
   cases kq with
   | zero => exact absurd HA.out (by simp [sawtoothref02_Cmp.j0])
   | succ kj53 =>
    have H := HA.out; clear HA; simp only [sawtoothref02_Cmp.j0] at H
    by_cases c88 : x32_53 = true
    ·subst c88
     have H1 : (some 1) = some r := by rw [if_pos rfl] at H; exact H
     clear H; have H := H1; clear H1; obtain rfl := Option.some.inj H
     go_wp2
     go_ret
     exact ⟨by first | rfl | (simp [errW_none, errW_some] <;> rfl) | (simp [*, errW_none, errW_some] <;> rfl), by repeat (first | (with_reducible first | exact HB.out | apply below_alloc | apply pw_below_drewN | apply below_drew1 | refine below_set ?_ (Aside0.out (by assumption))) | exact HB.out)⟩
    ·replace c88 := Bool.eq_false_iff.mpr c88
     subst c88
     have H1 : ((sawtoothref02_less.f t340 t341 t342 t343 t345 t346 t347 t348).bind fun t357 => ((sawtoothref02_less.f t345 t346 t347 t348 t340 t341 t342 t343).bind fun t358 => (if (t357 != t358) = true then (some (-1)) else (some 0)))) = some r := by rw [if_neg (show ¬ (false = true) by decide)] at H; exact H
     clear H; have H := H1; clear H1; replace H := Option.bind_eq_some_iff.mp H; obtain ⟨t357, A890, H⟩ := H; replace H : ((sawtoothref02_less.f t345 t346 t347 t348 t340 t341 t342 t343).bind fun t358 => (if (t357 != t358) = true then (some (-1)) else (some 0))) = some r := H; have A89 := Aside0.mk A890; clear A890; replace H := Option.bind_eq_some_iff.mp H; obtain ⟨t358, A900, H⟩ := H; replace H : (if (t357 != t358) = true then (some (-1)) else (some 0)) = some r := H; have A90 := Aside0.mk A900; clear A900
     by_cases c91 : (t357 != t358) = true
     ·rw [if_pos c91] at H
      have c91b0 : (t357 != t358) = true := c91
      (try (have c91b1 : decide (t357 = t358) = false := by simpa using c91))
      (try (have c91b2 : (t357 == t358) = false := by simpa using c91))
      (try (have c91b3 : ¬ (t357 = t358) := by simpa using c91))
      clear c91; obtain rfl := Option.some.inj H
      try go_wp2
      replace BK338 := Aside0.mk (blk_drew BK338.out); replace BK339 := Aside0.mk (blk_drew BK339.out); replace BK344 := Aside0.mk (blk_drew BK344.out); replace BK349 := Aside0.mk (blk_drew BK349.out); replace HB := Aside0.mk (below_drew1 HB.out); refine start_ (n := 7) (S := fun w' => w'.cell? ⟨gb344, 0, none⟩ = some (.int .u64 t340) ∧ w'.cell? ⟨gb344, 1, none⟩ = some (.int .u64 t341) ∧ w'.cell? ⟨gb344, 2, none⟩ = some (.int .u64 t342) ∧ w'.cell? ⟨gb344, 3, none⟩ = some (.int .u64 t343) ∧ w'.cell? ⟨gb349, 0, none⟩ = some (.int .u64 t345) ∧ w'.cell? ⟨gb349, 1, none⟩ = some (.int .u64 t346) ∧ w'.cell? ⟨gb349, 2, none⟩ = some (.int .u64 t347) ∧ w'.cell? ⟨gb349, 3, none⟩ = some (.int .u64 t348)) (ds := []) #[N,N,N,N,N,N,N] (by kernel_rfl) rfl rfl ⟨(blk_cell BK344.out 0).trans rfl, (blk_cell BK344.out 1).trans rfl, (blk_cell BK344.out 2).trans rfl, (blk_cell BK344.out 3).trans rfl, (blk_cell BK349.out 0).trans rfl, (blk_cell BK349.out 1).trans rfl, (blk_cell BK349.out 2).trans rfl, (blk_cell BK349.out 3).trans rfl⟩ (fun hHeld => ?_)
      generalize wc.drew = w92 at BK338 BK339 BK344 BK349 HB hHeld ⊢
      refine take_ (i := 0) (N := some 33) (v := ?_) (a' := ?_) #[Y,N,N,N,N,N,N] rfl rfl (by kernel_rfl) (fun _ _ _ h => h) (Or.inl ⟨by rfl, ?_⟩) hHeld ?_ ?_; rotate_left
      ·rintro w' ⟨s0, s1, s2, s3, s4, s5, s6, s7⟩; go_simp
       with_reducible rfl
      rotate_left
      ·simp only [Act.put, sA, sB, sC, i64_w, i32_w]
       rfl
      refine take_ (i := 1) (N := some 34) (v := ?_) (a' := ?_) #[Y,Y,N,N,N,N,N] rfl rfl (by kernel_rfl) (fun _ _ _ h => h) (Or.inl ⟨by rfl, ?_⟩) hHeld ?_ ?_; rotate_left
      ·rintro w' ⟨s0, s1, s2, s3, s4, s5, s6, s7⟩; go_simp
       with_reducible rfl
      rotate_left
      ·simp only [Act.put, sA, sB, sC, i64_w, i32_w]
       rfl
      refine take_ (i := 3) (N := some 36) (v := ?_) (a' := ?_) #[Y,Y,N,Y,N,N,N] rfl rfl (by kernel_rfl) (fun _ _ _ h => h) (Or.inl ⟨by rfl, ?_⟩) hHeld ?_ ?_; rotate_left
      ·rintro w' ⟨s0, s1, s2, s3, s4, s5, s6, s7⟩; go_simp
       with_reducible rfl
      rotate_left
      ·simp only [Act.put, sA, sB, sC, i64_w, i32_w]
       rfl
      refine take_ (i := 4) (N := some 37) (v := ?_) (a' := ?_) #[Y,Y,N,Y,Y,N,N] rfl rfl (by kernel_rfl) (fun _ _ _ h => h) (Or.inl ⟨by rfl, ?_⟩) hHeld ?_ ?_; rotate_left
      ·rintro w' ⟨s0, s1, s2, s3, s4, s5, s6, s7⟩; go_simp
       with_reducible rfl
      rotate_left
      ·simp only [Act.put, sA, sB, sC, i64_w, i32_w]
       rfl
      refine one_ (i := 2) (N := some 35) #[Y,Y,Y,Y,Y,N,N] rfl rfl (by kernel_rfl) (by decide) (fun K hK => ?_); refine goesA_ Tryd.func51 rfl #[.agg #[.int .u64 t340, .int .u64 t341, .int .u64 t342, .int .u64 t343], .agg #[.int .u64 t345, .int .u64 t346, .int .u64 t347, .int .u64 t348]] (by rfl) rfl rfl ?_
      with_reducible refine (sawtoothref02_less.calls t340 t341 t342 t343 t345 t346 t347 t348 t357 _ A89.out).mono ?_
      rintro e w93 ⟨rfl, hb⟩; refine ⟨_, rfl, ?_⟩; replace BK338 := bbZ BK338 hb; replace BK339 := bbZ BK339 hb; replace BK344 := bbZ BK344 hb; replace BK349 := bbZ BK349 hb; replace HB := Aside0.mk (below_step HB.out hb); clear hb; refine hK.out _ _ ⟨(blk_cell BK344.out 0).trans rfl, (blk_cell BK344.out 1).trans rfl, (blk_cell BK344.out 2).trans rfl, (blk_cell BK344.out 3).trans rfl, (blk_cell BK349.out 0).trans rfl, (blk_cell BK349.out 1).trans rfl, (blk_cell BK349.out 2).trans rfl, (blk_cell BK349.out 3).trans rfl⟩ (fun hHeld => ?_); clear hK K; refine normA_ (some 35) ?_
      refine one_ (i := 5) (N := some 38) #[Y,Y,Y,Y,Y,Y,N] rfl rfl (by kernel_rfl) (by decide) (fun K hK => ?_); refine goesA_ Tryd.func51 rfl #[.agg #[.int .u64 t345, .int .u64 t346, .int .u64 t347, .int .u64 t348], .agg #[.int .u64 t340, .int .u64 t341, .int .u64 t342, .int .u64 t343]] (by rfl) rfl rfl ?_
      with_reducible refine (sawtoothref02_less.calls t345 t346 t347 t348 t340 t341 t342 t343 t358 _ A90.out).mono ?_
      rintro e w94 ⟨rfl, hb⟩; refine ⟨_, rfl, ?_⟩; replace BK338 := bbZ BK338 hb; replace BK339 := bbZ BK339 hb; replace BK344 := bbZ BK344 hb; replace BK349 := bbZ BK349 hb; replace HB := Aside0.mk (below_step HB.out hb); clear hb; refine hK.out _ _ ⟨(blk_cell BK344.out 0).trans rfl, (blk_cell BK344.out 1).trans rfl, (blk_cell BK344.out 2).trans rfl, (blk_cell BK344.out 3).trans rfl, (blk_cell BK349.out 0).trans rfl, (blk_cell BK349.out 1).trans rfl, (blk_cell BK349.out 2).trans rfl, (blk_cell BK349.out 3).trans rfl⟩ (fun hHeld => ?_); clear hK K; refine normA_ (some 38) ?_
      refine pureA_ (i := 6) (N := some 39) #[Y,Y,Y,Y,Y,Y,Y] rfl rfl (by kernel_rfl) ?_
      refine done_ (by kernel_rfl) ?_
      try go_wp2
      go_ret
      exact ⟨by first | rfl | (simp [errW_none, errW_some] <;> rfl) | (simp [*, errW_none, errW_some] <;> rfl), by repeat (first | (with_reducible first | exact HB.out | apply below_alloc | apply pw_below_drewN | apply below_drew1 | refine below_set ?_ (Aside0.out (by assumption))) | exact HB.out)⟩
     ·rw [if_neg c91] at H
      have c91b0 : (t357 != t358) = false := by simpa using c91
      (try (have c91b1 : decide (t357 = t358) = true := by simpa using c91))
      (try (have c91b2 : (t357 == t358) = true := by simpa using c91))
      clear c91; obtain rfl := Option.some.inj H
      try go_wp2
      replace BK338 := Aside0.mk (blk_drew BK338.out); replace BK339 := Aside0.mk (blk_drew BK339.out); replace BK344 := Aside0.mk (blk_drew BK344.out); replace BK349 := Aside0.mk (blk_drew BK349.out); replace HB := Aside0.mk (below_drew1 HB.out); refine start_ (n := 7) (S := fun w' => w'.cell? ⟨gb344, 0, none⟩ = some (.int .u64 t340) ∧ w'.cell? ⟨gb344, 1, none⟩ = some (.int .u64 t341) ∧ w'.cell? ⟨gb344, 2, none⟩ = some (.int .u64 t342) ∧ w'.cell? ⟨gb344, 3, none⟩ = some (.int .u64 t343) ∧ w'.cell? ⟨gb349, 0, none⟩ = some (.int .u64 t345) ∧ w'.cell? ⟨gb349, 1, none⟩ = some (.int .u64 t346) ∧ w'.cell? ⟨gb349, 2, none⟩ = some (.int .u64 t347) ∧ w'.cell? ⟨gb349, 3, none⟩ = some (.int .u64 t348)) (ds := []) #[N,N,N,N,N,N,N] (by kernel_rfl) rfl rfl ⟨(blk_cell BK344.out 0).trans rfl, (blk_cell BK344.out 1).trans rfl, (blk_cell BK344.out 2).trans rfl, (blk_cell BK344.out 3).trans rfl, (blk_cell BK349.out 0).trans rfl, (blk_cell BK349.out 1).trans rfl, (blk_cell BK349.out 2).trans rfl, (blk_cell BK349.out 3).trans rfl⟩ (fun hHeld => ?_)
      generalize wc.drew = w95 at BK338 BK339 BK344 BK349 HB hHeld ⊢
      refine take_ (i := 0) (N := some 33) (v := ?_) (a' := ?_) #[Y,N,N,N,N,N,N] rfl rfl (by kernel_rfl) (fun _ _ _ h => h) (Or.inl ⟨by rfl, ?_⟩) hHeld ?_ ?_; rotate_left
      ·rintro w' ⟨s0, s1, s2, s3, s4, s5, s6, s7⟩; go_simp
       with_reducible rfl
      rotate_left
      ·simp only [Act.put, sA, sB, sC, i64_w, i32_w]
       rfl
      refine take_ (i := 1) (N := some 34) (v := ?_) (a' := ?_) #[Y,Y,N,N,N,N,N] rfl rfl (by kernel_rfl) (fun _ _ _ h => h) (Or.inl ⟨by rfl, ?_⟩) hHeld ?_ ?_; rotate_left
      ·rintro w' ⟨s0, s1, s2, s3, s4, s5, s6, s7⟩; go_simp
       with_reducible rfl
      rotate_left
      ·simp only [Act.put, sA, sB, sC, i64_w, i32_w]
       rfl
      refine take_ (i := 3) (N := some 36) (v := ?_) (a' := ?_) #[Y,Y,N,Y,N,N,N] rfl rfl (by kernel_rfl) (fun _ _ _ h => h) (Or.inl ⟨by rfl, ?_⟩) hHeld ?_ ?_; rotate_left
      ·rintro w' ⟨s0, s1, s2, s3, s4, s5, s6, s7⟩; go_simp
       with_reducible rfl
      rotate_left
      ·simp only [Act.put, sA, sB, sC, i64_w, i32_w]
       rfl
      refine take_ (i := 4) (N := some 37) (v := ?_) (a' := ?_) #[Y,Y,N,Y,Y,N,N] rfl rfl (by kernel_rfl) (fun _ _ _ h => h) (Or.inl ⟨by rfl, ?_⟩) hHeld ?_ ?_; rotate_left
      ·rintro w' ⟨s0, s1, s2, s3, s4, s5, s6, s7⟩; go_simp
       with_reducible rfl
      rotate_left
      ·simp only [Act.put, sA, sB, sC, i64_w, i32_w]
       rfl
      refine one_ (i := 2) (N := some 35) #[Y,Y,Y,Y,Y,N,N] rfl rfl (by kernel_rfl) (by decide) (fun K hK => ?_); refine goesA_ Tryd.func51 rfl #[.agg #[.int .u64 t340, .int .u64 t341, .int .u64 t342, .int .u64 t343], .agg #[.int .u64 t345, .int .u64 t346, .int .u64 t347, .int .u64 t348]] (by rfl) rfl rfl ?_
      with_reducible refine (sawtoothref02_less.calls t340 t341 t342 t343 t345 t346 t347 t348 t357 _ A89.out).mono ?_
      rintro e w96 ⟨rfl, hb⟩; refine ⟨_, rfl, ?_⟩; replace BK338 := bbZ BK338 hb; replace BK339 := bbZ BK339 hb; replace BK344 := bbZ BK344 hb; replace BK349 := bbZ BK349 hb; replace HB := Aside0.mk (below_step HB.out hb); clear hb; refine hK.out _ _ ⟨(blk_cell BK344.out 0).trans rfl, (blk_cell BK344.out 1).trans rfl, (blk_cell BK344.out 2).trans rfl, (blk_cell BK344.out 3).trans rfl, (blk_cell BK349.out 0).trans rfl, (blk_cell BK349.out 1).trans rfl, (blk_cell BK349.out 2).trans rfl, (blk_cell BK349.out 3).trans rfl⟩ (fun hHeld => ?_); clear hK K; refine normA_ (some 35) ?_
      refine one_ (i := 5) (N := some 38) #[Y,Y,Y,Y,Y,Y,N] rfl rfl (by kernel_rfl) (by decide) (fun K hK => ?_); refine goesA_ Tryd.func51 rfl #[.agg #[.int .u64 t345, .int .u64 t346, .int .u64 t347, .int .u64 t348], .agg #[.int .u64 t340, .int .u64 t341, .int .u64 t342, .int .u64 t343]] (by rfl) rfl rfl ?_
      with_reducible refine (sawtoothref02_less.calls t345 t346 t347 t348 t340 t341 t342 t343 t358 _ A90.out).mono ?_
      rintro e w97 ⟨rfl, hb⟩; refine ⟨_, rfl, ?_⟩; replace BK338 := bbZ BK338 hb; replace BK339 := bbZ BK339 hb; replace BK344 := bbZ BK344 hb; replace BK349 := bbZ BK349 hb; replace HB := Aside0.mk (below_step HB.out hb); clear hb; refine hK.out _ _ ⟨(blk_cell BK344.out 0).trans rfl, (blk_cell BK344.out 1).trans rfl, (blk_cell BK344.out 2).trans rfl, (blk_cell BK344.out 3).trans rfl, (blk_cell BK349.out 0).trans rfl, (blk_cell BK349.out 1).trans rfl, (blk_cell BK349.out 2).trans rfl, (blk_cell BK349.out 3).trans rfl⟩ (fun hHeld => ?_); clear hK K; refine normA_ (some 38) ?_
      refine pureA_ (i := 6) (N := some 39) #[Y,Y,Y,Y,Y,Y,Y] rfl rfl (by kernel_rfl) ?_
      refine done_ (by kernel_rfl) ?_
      try go_wp2
      go_ret
      exact ⟨by first | rfl | (simp [errW_none, errW_some] <;> rfl) | (simp [*, errW_none, errW_some] <;> rfl), by repeat (first | (with_reducible first | exact HB.out | apply below_alloc | apply pw_below_drewN | apply below_drew1 | refine below_set ?_ (Aside0.out (by assumption))) | exact HB.out)⟩

end Go.Proofs.YtbpcfamjidjhjaaDoor.Px
