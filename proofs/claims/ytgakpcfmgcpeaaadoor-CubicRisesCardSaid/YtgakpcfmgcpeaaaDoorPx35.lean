/- Printed by px.py, over the kit's print. Conditions: none beside the theorems' own. -/
import Derived.Test.YtgakpcfmgcpeaaaDoorPx0
import Derived.Test.YtgakpcfmgcpeaaaDoorPx28
import Derived.Test.YtgakpcfmgcpeaaaDoorPx30
import Derived.Test.YtgakpcfmgcpeaaaDoorPx34
namespace Go.Proofs.YtgakpcfmgcpeaaaDoor.Px
open Go.RowKit Go.Proofs.YtgakpcfmgcpeaaaDoorW.PrintWords Go.Proofs.YtgakpcfmgcpeaaaDoorW.PrintLast Go.Proofs.YtgakpcfmgcpeaaaDoorW.PrintMore
attribute [local go_sem] max2_int min2_int max_two min_two max_three min_three max_four min_four
set_option linter.unusedVariables false
set_option linter.unusedSimpArgs false

/-! ### sawtoothref02_Cmp: function 22 -/
noncomputable def sawtoothref02_Cmp.j0 : Nat → Bool → Int → Int → Int → Int → Int → Int → Int → Int → Option (Int)
 | 0, _, _, _, _, _, _, _, _, _ => none
 | k + 1, x32, x443000, x443001, x443002, x443003, x448000, x448001, x448002, x448003 => if x32 = true then (some 1) else ((sawtoothref02_less.f x443000 x443001 x443002 x443003 x448000 x448001 x448002 x448003).bind fun t455 => ((sawtoothref02_less.f x448000 x448001 x448002 x448003 x443000 x443001 x443002 x443003).bind fun t456 => (if (t455 != t456) = true then (some (-1)) else (some 0))))
noncomputable def sawtoothref02_Cmp.f (k : Nat) (a0_0 : Bool) (a0_1 : Int) (a0_2 : Int) (a1_0 : Bool) (a1_1 : Int) (a1_2 : Int) : Option (Int) := (sawtoothref02_digits.f a0_0 a0_1 a0_2).bind fun bt438 => ((sawtoothref02_digits.f a1_0 a1_1 a1_2).bind fun bt443 => ((sawtoothref02_belowS.f a0_0 a0_1 a0_2).bind fun t448 => ((sawtoothref02_belowS.f a1_0 a1_1 a1_2).bind fun t449 => (if (t448 != t449) = true then ((sawtoothref02_belowS.f a0_0 a0_1 a0_2).bind fun t450 => (if t450 = true then (some (-1)) else (some 1))) else ((sawtoothref02_less.f bt438.1 bt438.2.1 bt438.2.2.1 bt438.2.2.2 bt443.1 bt443.2.1 bt443.2.2.1 bt443.2.2.2).bind fun t451 => ((sawtoothref02_less.f bt443.1 bt443.2.1 bt443.2.2.1 bt443.2.2.2 bt438.1 bt438.2.1 bt438.2.2.1 bt438.2.2.2).bind fun t452 => (if (t451 != t452) = true then ((sawtoothref02_less.f bt438.1 bt438.2.1 bt438.2.2.1 bt438.2.2.2 bt443.1 bt443.2.1 bt443.2.2.1 bt443.2.2.2).bind fun t453 => ((sawtoothref02_belowS.f a0_0 a0_1 a0_2).bind fun t454 => (sawtoothref02_Cmp.j0 k (t453 == t454) bt438.1 bt438.2.1 bt438.2.2.1 bt438.2.2.2 bt443.1 bt443.2.1 bt443.2.2.1 bt443.2.2.2))) else (sawtoothref02_Cmp.j0 k false bt438.1 bt438.2.1 bt438.2.2.1 bt438.2.2.2 bt443.1 bt443.2.1 bt443.2.2.1 bt443.2.2.2))))))))
def sawtoothref02_Cmp.T7 : Bool × List (List Nat × List Nat) := (true, [([], []), ([], []), ([0, 1], [0, 1]), ([], []), ([], []), ([3, 4, 2], [3, 4]), ([2, 5], [2, 5]), ([6, 5], [6]), ([7], [7]), ([7], [7]), ([8, 9, 7, 7], [7, 8, 9]), ([7], [7]), ([11, 10, 7], [7, 11]), ([10, 12, 7], [7, 10, 12]), ([7, 13], [7, 13])])
def sawtoothref02_Cmp.B7 : List Nat := [0, 0, 3, 0, 0, 31, 63, 127, 255, 255, 1023, 255, 4095, 8191, 16383]
theorem sawtoothref02_Cmp.tab7 : rtab .any (opsOf Tryd.f22 7) = sawtoothref02_Cmp.T7 := by kernel_rfl
theorem sawtoothref02_Cmp.bits7 : waitsOk sawtoothref02_Cmp.T7.2 sawtoothref02_Cmp.B7 = true := by kernel_rfl
set_option maxHeartbeats 8000000 in
set_option maxRecDepth 100000 in
theorem sawtoothref02_Cmp.calls (k : Nat) (a0_0 : Bool) (a0_1 : Int) (a0_2 : Int) (a1_0 : Bool) (a1_1 : Int) (a1_2 : Int) (r : Int) (w : World) (h : sawtoothref02_Cmp.f k a0_0 a0_1 a0_2 a1_0 a1_1 a1_2 = some r) :
  Calls Tryd.prog 22 #[.agg #[.bool a0_0, .int .u64 a0_1, .int .u64 a0_2], .agg #[.bool a1_0, .int .u64 a1_1, .int .u64 a1_2]] w fun e w' => e = .returned (.int .i64 r) ∧ Below w.heap.size w w' := by
 have hu33 := Tryd.underlying33; have hu58 := Tryd.underlying58; have HB := Aside0.mk (Below.refl w.heap.size w); have H : ((sawtoothref02_digits.f a0_0 a0_1 a0_2).bind fun bt438 => ((sawtoothref02_digits.f a1_0 a1_1 a1_2).bind fun bt443 => ((sawtoothref02_belowS.f a0_0 a0_1 a0_2).bind fun t448 => ((sawtoothref02_belowS.f a1_0 a1_1 a1_2).bind fun t449 => (if (t448 != t449) = true then ((sawtoothref02_belowS.f a0_0 a0_1 a0_2).bind fun t450 => (if t450 = true then (some (-1)) else (some 1))) else ((sawtoothref02_less.f bt438.1 bt438.2.1 bt438.2.2.1 bt438.2.2.2 bt443.1 bt443.2.1 bt443.2.2.1 bt443.2.2.2).bind fun t451 => ((sawtoothref02_less.f bt443.1 bt443.2.1 bt443.2.2.1 bt443.2.2.2 bt438.1 bt438.2.1 bt438.2.2.1 bt438.2.2.2).bind fun t452 => (if (t451 != t452) = true then ((sawtoothref02_less.f bt438.1 bt438.2.1 bt438.2.2.1 bt438.2.2.2 bt443.1 bt443.2.1 bt443.2.2.1 bt443.2.2.2).bind fun t453 => ((sawtoothref02_belowS.f a0_0 a0_1 a0_2).bind fun t454 => (sawtoothref02_Cmp.j0 k (t453 == t454) bt438.1 bt438.2.1 bt438.2.2.1 bt438.2.2.2 bt443.1 bt443.2.1 bt443.2.2.1 bt443.2.2.2))) else (sawtoothref02_Cmp.j0 k false bt438.1 bt438.2.1 bt438.2.2.1 bt438.2.2.2 bt443.1 bt443.2.1 bt443.2.2.1 bt443.2.2.2))))))))) = some r := h; clear h; replace H := Option.bind_eq_some_iff.mp H; obtain ⟨⟨t438, t439, t440, t441⟩, A30, H⟩ := H; (try dsimp only at H); have A3 := Aside0.mk A30; clear A30; replace H := Option.bind_eq_some_iff.mp H; obtain ⟨⟨t443, t444, t445, t446⟩, A40, H⟩ := H; (try dsimp only at H); have A4 := Aside0.mk A40; clear A40; replace H := Option.bind_eq_some_iff.mp H; obtain ⟨t448, A50, H⟩ := H; (try dsimp only at H); have A5 := Aside0.mk A50; clear A50; replace H := Option.bind_eq_some_iff.mp H; obtain ⟨t449, A60, H⟩ := H; (try dsimp only at H); have A6 := Aside0.mk A60; clear A60
 by_cases c7 : (t448 != t449) = true
 ·rw [if_pos c7] at H
  have c7b0 : (t448 != t449) = true := c7
  (try (have c7b1 : decide (t448 = t449) = false := by simpa using c7))
  (try (have c7b2 : (t448 == t449) = false := by simpa using c7))
  (try (have c7b3 : ¬ (t448 = t449) := by simpa using c7))
  clear c7; replace H := Option.bind_eq_some_iff.mp H; obtain ⟨t450, A80, H⟩ := H; replace H : (if t450 = true then (some (-1)) else (some 1)) = some r := H; have A8 := Aside0.mk A80; clear A80
  go_enter Tryd.func22, Tryd.ntmps22
  try go_wp2_with (first | ((with_reducible refine gate_dst (N := 2) rfl ?_); refine box_event ?hg (N := 2) ?hd (cs := #[.bool a0_0, .int .u64 a0_1, .int .u64 a0_2]) (t := 33) ?hr ?_; (case hd => rfl); (case hg => rfl); (case hr => first | (go_simp; done) | (go_simp; rfl)); intro gb436 hg w10 hbox hb; have BK436 := Aside0.mk (hbox); obtain ⟨GW436, nHB⟩ := geA hg hb; have GE436 := GW436; replace HB := nHB; clear nHB; clear hb hbox hg) | ((with_reducible refine gate_dst (N := 3) rfl ?_); refine box_event ?hg (N := 3) ?hd (cs := #[.bool a1_0, .int .u64 a1_1, .int .u64 a1_2]) (t := 33) ?hr ?_; (case hd => rfl); (case hg => rfl); (case hr => first | (go_simp; done) | (go_simp; rfl)); intro gb437 hg w11 hbox hb; have BK437 := Aside0.mk (hbox); obtain ⟨GW437, nHB⟩ := geA hg hb; have GE437 := GW437; obtain ⟨NB436_437, NB437_436, nBK⟩ := nbA BK436 hg hb; replace BK436 := nBK; clear nBK; replace HB := nHB; clear nHB; clear hb hbox hg; have hnb12 := NB436_437.out; have hnc12 := NB437_436.out; have hcz13_0 := czZ BK436 0 (.bool a0_0); have hcz13_1 := czZ BK436 1 (.int .u64 a0_1); have hcz13_2 := czZ BK436 2 (.int .u64 a0_2); have hfz13_0 := blk_frozen BK436.out 0; have hfz13_1 := blk_frozen BK436.out 1; have hfz13_2 := blk_frozen BK436.out 2) | ((with_reducible refine gate_callee (f := 45) rfl ?_); refine goesLA_ (some 8) rfl rfl Tryd.func45 rfl #[.agg #[.bool a0_0, .int .u64 a0_1, .int .u64 a0_2]] rfl ?_; (with_reducible refine (sawtoothref02_digits.calls a0_0 a0_1 a0_2 t438 t439 t440 t441 _ A3.out).mono ?_); rintro e w14 ⟨rfl, hb⟩; refine ⟨_, rfl, ?_⟩; replace BK436 := bdZ BK436 hb; replace BK437 := bdZ BK437 hb; replace HB := stA hb; clear hb) | ((with_reducible refine gate_dst (N := 5) rfl ?_); refine box_event ?hg (N := 5) ?hd (cs := #[.int .u64 0, .int .u64 0, .int .u64 0, .int .u64 0]) (t := 58) ?hr ?_; (case hd => rfl); (case hg => rfl); (case hr => first | (go_simp; done) | (go_simp; rfl)); intro gb442 hg w15 hbox hb; have BK442 := Aside0.mk (hbox); obtain ⟨GW442, nHB⟩ := geA hg hb; have GE442 := GW442; obtain ⟨NB436_442, NB442_436, nBK⟩ := nbA BK436 hg hb; replace BK436 := nBK; clear nBK; obtain ⟨NB437_442, NB442_437, nBK⟩ := nbA BK437 hg hb; replace BK437 := nBK; clear nBK; replace HB := nHB; clear nHB; clear hb hbox hg; have hnb16 := NB442_436.out; have hnc16 := NB436_442.out; have hnb17 := NB442_437.out; have hnc17 := NB437_442.out; have hcz18_0 := czZ BK442 0 (.int .u64 0); have hcz18_1 := czZ BK442 1 (.int .u64 0); have hcz18_2 := czZ BK442 2 (.int .u64 0); have hcz18_3 := czZ BK442 3 (.int .u64 0); have hfz18_0 := blk_frozen BK442.out 0; have hfz18_1 := blk_frozen BK442.out 1; have hfz18_2 := blk_frozen BK442.out 2; have hfz18_3 := blk_frozen BK442.out 3; have hcz19_0 := czZ BK437 0 (.bool a1_0); have hcz19_1 := czZ BK437 1 (.int .u64 a1_1); have hcz19_2 := czZ BK437 2 (.int .u64 a1_2); have hfz19_0 := blk_frozen BK437.out 0; have hfz19_1 := blk_frozen BK437.out 1; have hfz19_2 := blk_frozen BK437.out 2) | ((with_reducible refine gate_callee (f := 45) rfl ?_); refine goesLA_ (some 10) rfl rfl Tryd.func45 rfl #[.agg #[.bool a1_0, .int .u64 a1_1, .int .u64 a1_2]] rfl ?_; (with_reducible refine (sawtoothref02_digits.calls a1_0 a1_1 a1_2 t443 t444 t445 t446 _ A4.out).mono ?_); rintro e w20 ⟨rfl, hb⟩; refine ⟨_, rfl, ?_⟩; replace BK436 := bfZ BK436 (fun h_ => by (with_reducible repeat first | apply blk_drewN | apply blk_drew | apply blk_alloc | refine farZ ?_ NB436_442 _); exact h_) hb; replace BK437 := bfZ BK437 (fun h_ => by (with_reducible repeat first | apply blk_drewN | apply blk_drew | apply blk_alloc | refine farZ ?_ NB437_442 _); exact h_) hb; replace BK442 := Aside0.mk (blk_below (g := gb442) (o := .cells #[.int .u64 t438, .int .u64 t439, .int .u64 t440, .int .u64 t441] 58 (0, 0)) (by (with_reducible repeat first | apply blk_drewN | apply blk_drew | apply blk_alloc); refine blk_put (cs := #[.int .u64 t438, .int .u64 t439, .int .u64 t440, .int .u64 0]) ?_ 3 _ rfl; (with_reducible repeat first | apply blk_drewN | apply blk_drew | apply blk_alloc); refine blk_put (cs := #[.int .u64 t438, .int .u64 t439, .int .u64 0, .int .u64 0]) ?_ 2 _ rfl; (with_reducible repeat first | apply blk_drewN | apply blk_drew | apply blk_alloc); refine blk_put (cs := #[.int .u64 t438, .int .u64 0, .int .u64 0, .int .u64 0]) ?_ 1 _ rfl; (with_reducible repeat first | apply blk_drewN | apply blk_drew | apply blk_alloc); refine blk_put (cs := #[.int .u64 0, .int .u64 0, .int .u64 0, .int .u64 0]) ?_ 0 _ rfl; (with_reducible repeat first | apply blk_drewN | apply blk_drew | apply blk_alloc); exact BK442.out) hb); replace HB := stA hb; clear hb) | ((with_reducible refine gate_dst (N := 6) rfl ?_); refine box_event ?hg (N := 6) ?hd (cs := #[.int .u64 0, .int .u64 0, .int .u64 0, .int .u64 0]) (t := 58) ?hr ?_; (case hd => rfl); (case hg => rfl); (case hr => first | (go_simp; done) | (go_simp; rfl)); intro gb447 hg w21 hbox hb; have BK447 := Aside0.mk (hbox); obtain ⟨GW447, nHB⟩ := geA hg hb; have GE447 := GW447; obtain ⟨NB436_447, NB447_436, nBK⟩ := nbA BK436 hg hb; replace BK436 := nBK; clear nBK; obtain ⟨NB437_447, NB447_437, nBK⟩ := nbA BK437 hg hb; replace BK437 := nBK; clear nBK; obtain ⟨NB442_447, NB447_442, nBK⟩ := nbA BK442 hg hb; replace BK442 := nBK; clear nBK; replace HB := nHB; clear nHB; clear hb hbox hg; have hnb22 := NB447_436.out; have hnc22 := NB436_447.out; have hnb23 := NB447_437.out; have hnc23 := NB437_447.out; have hnb24 := NB447_442.out; have hnc24 := NB442_447.out; have hcz25_0 := czZ BK447 0 (.int .u64 0); have hcz25_1 := czZ BK447 1 (.int .u64 0); have hcz25_2 := czZ BK447 2 (.int .u64 0); have hcz25_3 := czZ BK447 3 (.int .u64 0); have hfz25_0 := blk_frozen BK447.out 0; have hfz25_1 := blk_frozen BK447.out 1; have hfz25_2 := blk_frozen BK447.out 2; have hfz25_3 := blk_frozen BK447.out 3))
  have n0_ : Aside0 (((((w21.setCell ⟨gb447, 0, none⟩ (.int .u64 t443)).setCell ⟨gb447, 1, none⟩ (.int .u64 t444)).setCell ⟨gb447, 2, none⟩ (.int .u64 t445)).setCell ⟨gb447, 3, none⟩ (.int .u64 t446)).heap[gb436]? = some (.cells #[.bool a0_0, .int .u64 a0_1, .int .u64 a0_2] 33 (0, 0))) := ⟨by (with_reducible repeat first | apply blk_drewN | apply blk_drew | apply blk_alloc); refine blk_far ?_ NB436_447.out _; (with_reducible repeat first | apply blk_drewN | apply blk_drew | apply blk_alloc); refine blk_far ?_ NB436_447.out _; (with_reducible repeat first | apply blk_drewN | apply blk_drew | apply blk_alloc); refine blk_far ?_ NB436_447.out _; (with_reducible repeat first | apply blk_drewN | apply blk_drew | apply blk_alloc); refine blk_far ?_ NB436_447.out _; (with_reducible repeat first | apply blk_drewN | apply blk_drew | apply blk_alloc); exact BK436.out⟩
  have n1_ : Aside0 (((((w21.setCell ⟨gb447, 0, none⟩ (.int .u64 t443)).setCell ⟨gb447, 1, none⟩ (.int .u64 t444)).setCell ⟨gb447, 2, none⟩ (.int .u64 t445)).setCell ⟨gb447, 3, none⟩ (.int .u64 t446)).heap[gb437]? = some (.cells #[.bool a1_0, .int .u64 a1_1, .int .u64 a1_2] 33 (0, 0))) := ⟨by (with_reducible repeat first | apply blk_drewN | apply blk_drew | apply blk_alloc); refine blk_far ?_ NB437_447.out _; (with_reducible repeat first | apply blk_drewN | apply blk_drew | apply blk_alloc); refine blk_far ?_ NB437_447.out _; (with_reducible repeat first | apply blk_drewN | apply blk_drew | apply blk_alloc); refine blk_far ?_ NB437_447.out _; (with_reducible repeat first | apply blk_drewN | apply blk_drew | apply blk_alloc); refine blk_far ?_ NB437_447.out _; (with_reducible repeat first | apply blk_drewN | apply blk_drew | apply blk_alloc); exact BK437.out⟩
  have n2_ : Aside0 (((((w21.setCell ⟨gb447, 0, none⟩ (.int .u64 t443)).setCell ⟨gb447, 1, none⟩ (.int .u64 t444)).setCell ⟨gb447, 2, none⟩ (.int .u64 t445)).setCell ⟨gb447, 3, none⟩ (.int .u64 t446)).heap[gb442]? = some (.cells #[.int .u64 t438, .int .u64 t439, .int .u64 t440, .int .u64 t441] 58 (0, 0))) := ⟨by (with_reducible repeat first | apply blk_drewN | apply blk_drew | apply blk_alloc); refine blk_far ?_ NB442_447.out _; (with_reducible repeat first | apply blk_drewN | apply blk_drew | apply blk_alloc); refine blk_far ?_ NB442_447.out _; (with_reducible repeat first | apply blk_drewN | apply blk_drew | apply blk_alloc); refine blk_far ?_ NB442_447.out _; (with_reducible repeat first | apply blk_drewN | apply blk_drew | apply blk_alloc); refine blk_far ?_ NB442_447.out _; (with_reducible repeat first | apply blk_drewN | apply blk_drew | apply blk_alloc); exact BK442.out⟩
  have n3_ : Aside0 (((((w21.setCell ⟨gb447, 0, none⟩ (.int .u64 t443)).setCell ⟨gb447, 1, none⟩ (.int .u64 t444)).setCell ⟨gb447, 2, none⟩ (.int .u64 t445)).setCell ⟨gb447, 3, none⟩ (.int .u64 t446)).heap[gb447]? = some (.cells #[.int .u64 t443, .int .u64 t444, .int .u64 t445, .int .u64 t446] 58 (0, 0))) := ⟨by (with_reducible repeat first | apply blk_drewN | apply blk_drew | apply blk_alloc); refine blk_put (cs := #[.int .u64 t443, .int .u64 t444, .int .u64 t445, .int .u64 0]) ?_ 3 _ rfl; (with_reducible repeat first | apply blk_drewN | apply blk_drew | apply blk_alloc); refine blk_put (cs := #[.int .u64 t443, .int .u64 t444, .int .u64 0, .int .u64 0]) ?_ 2 _ rfl; (with_reducible repeat first | apply blk_drewN | apply blk_drew | apply blk_alloc); refine blk_put (cs := #[.int .u64 t443, .int .u64 0, .int .u64 0, .int .u64 0]) ?_ 1 _ rfl; (with_reducible repeat first | apply blk_drewN | apply blk_drew | apply blk_alloc); refine blk_put (cs := #[.int .u64 0, .int .u64 0, .int .u64 0, .int .u64 0]) ?_ 0 _ rfl; (with_reducible repeat first | apply blk_drewN | apply blk_drew | apply blk_alloc); exact BK447.out⟩
  have n4_ : Aside0 (Below w.heap.size w ((((w21.setCell ⟨gb447, 0, none⟩ (.int .u64 t443)).setCell ⟨gb447, 1, none⟩ (.int .u64 t444)).setCell ⟨gb447, 2, none⟩ (.int .u64 t445)).setCell ⟨gb447, 3, none⟩ (.int .u64 t446))) := ⟨by repeat (first | (with_reducible first | exact HB.out | apply below_alloc | apply pw_below_drewN | apply below_drew1 | refine below_set ?_ (Aside0.out (by assumption))) | exact HB.out)⟩
  (try clear BK436); (try clear BK437); (try clear BK442); (try clear BK447); (try clear HB)
  generalize ((((w21.setCell ⟨gb447, 0, none⟩ (.int .u64 t443)).setCell ⟨gb447, 1, none⟩ (.int .u64 t444)).setCell ⟨gb447, 2, none⟩ (.int .u64 t445)).setCell ⟨gb447, 3, none⟩ (.int .u64 t446)) = w26 at n0_ n1_ n2_ n3_ n4_ ⊢
  have BK436 := n0_; have BK437 := n1_; have BK442 := n2_; have BK447 := n3_; have HB := n4_; clear n0_ n1_ n2_ n3_ n4_; replace BK436 := Aside0.mk (blk_drew BK436.out); replace BK437 := Aside0.mk (blk_drew BK437.out); replace BK442 := Aside0.mk (blk_drew BK442.out); replace BK447 := Aside0.mk (blk_drew BK447.out); replace HB := Aside0.mk (below_drew1 HB.out); refine start_ (n := 5) (S := fun w' => w'.cell? ⟨gb436, 0, none⟩ = some (.bool a0_0) ∧ w'.cell? ⟨gb436, 1, none⟩ = some (.int .u64 a0_1) ∧ w'.cell? ⟨gb436, 2, none⟩ = some (.int .u64 a0_2) ∧ w'.cell? ⟨gb437, 0, none⟩ = some (.bool a1_0) ∧ w'.cell? ⟨gb437, 1, none⟩ = some (.int .u64 a1_1) ∧ w'.cell? ⟨gb437, 2, none⟩ = some (.int .u64 a1_2)) (ds := []) #[N,N,N,N,N] (by kernel_rfl) rfl rfl ⟨(blk_cell BK436.out 0).trans rfl, (blk_cell BK436.out 1).trans rfl, (blk_cell BK436.out 2).trans rfl, (blk_cell BK437.out 0).trans rfl, (blk_cell BK437.out 1).trans rfl, (blk_cell BK437.out 2).trans rfl⟩ (fun hHeld => ?_)
  generalize w26.drew = w27 at BK436 BK437 BK442 BK447 HB hHeld ⊢
  refine take_ (i := 0) (N := some 11) (v := ?_) (a' := ?_) #[Y,N,N,N,N] rfl rfl (by kernel_rfl) (fun _ _ _ h => h) (Or.inl ⟨by rfl, ?_⟩) hHeld ?_ ?_; rotate_left
  ·rintro w' ⟨s0, s1, s2, s3, s4, s5⟩; go_simp
   with_reducible rfl
  rotate_left
  ·simp only [Act.put, sA, sB, sC, i64_w, i32_w]
   rfl
  refine take_ (i := 2) (N := some 13) (v := ?_) (a' := ?_) #[Y,N,Y,N,N] rfl rfl (by kernel_rfl) (fun _ _ _ h => h) (Or.inl ⟨by rfl, ?_⟩) hHeld ?_ ?_; rotate_left
  ·rintro w' ⟨s0, s1, s2, s3, s4, s5⟩; go_simp
   with_reducible rfl
  rotate_left
  ·simp only [Act.put, sA, sB, sC, i64_w, i32_w]
   rfl
  refine one_ (i := 1) (N := some 12) #[Y,Y,Y,N,N] rfl rfl (by kernel_rfl) (by decide) (fun K hK => ?_); refine goesA_ Tryd.func48 rfl #[.agg #[.bool a0_0, .int .u64 a0_1, .int .u64 a0_2]] (by rfl) rfl rfl ?_
  with_reducible refine (sawtoothref02_belowS.calls a0_0 a0_1 a0_2 t448 _ A5.out).mono ?_
  rintro e w28 ⟨rfl, hb⟩; refine ⟨_, rfl, ?_⟩; replace BK436 := bbZ BK436 hb; replace BK437 := bbZ BK437 hb; replace BK442 := bbZ BK442 hb; replace BK447 := bbZ BK447 hb; replace HB := Aside0.mk (below_step HB.out hb); clear hb; refine hK.out _ _ ⟨(blk_cell BK436.out 0).trans rfl, (blk_cell BK436.out 1).trans rfl, (blk_cell BK436.out 2).trans rfl, (blk_cell BK437.out 0).trans rfl, (blk_cell BK437.out 1).trans rfl, (blk_cell BK437.out 2).trans rfl⟩ (fun hHeld => ?_); clear hK K; refine normA_ (some 12) ?_
  refine one_ (i := 3) (N := some 14) #[Y,Y,Y,Y,N] rfl rfl (by kernel_rfl) (by decide) (fun K hK => ?_); refine goesA_ Tryd.func48 rfl #[.agg #[.bool a1_0, .int .u64 a1_1, .int .u64 a1_2]] (by rfl) rfl rfl ?_
  with_reducible refine (sawtoothref02_belowS.calls a1_0 a1_1 a1_2 t449 _ A6.out).mono ?_
  rintro e w29 ⟨rfl, hb⟩; refine ⟨_, rfl, ?_⟩; replace BK436 := bbZ BK436 hb; replace BK437 := bbZ BK437 hb; replace BK442 := bbZ BK442 hb; replace BK447 := bbZ BK447 hb; replace HB := Aside0.mk (below_step HB.out hb); clear hb; refine hK.out _ _ ⟨(blk_cell BK436.out 0).trans rfl, (blk_cell BK436.out 1).trans rfl, (blk_cell BK436.out 2).trans rfl, (blk_cell BK437.out 0).trans rfl, (blk_cell BK437.out 1).trans rfl, (blk_cell BK437.out 2).trans rfl⟩ (fun hHeld => ?_); clear hK K; refine normA_ (some 14) ?_
  refine pureA_ (i := 4) (N := some 15) #[Y,Y,Y,Y,Y] rfl rfl (by kernel_rfl) ?_
  refine done_ (by kernel_rfl) ?_; have hcz30_0 := czZ BK436 0 (.bool a0_0); have hcz30_1 := czZ BK436 1 (.int .u64 a0_1); have hcz30_2 := czZ BK436 2 (.int .u64 a0_2); have hfz30_0 := blk_frozen BK436.out 0; have hfz30_1 := blk_frozen BK436.out 1; have hfz30_2 := blk_frozen BK436.out 2
  by_cases c9 : t450 = true
  ·subst c9
   have H1 : (some (-1)) = some r := by rw [if_pos rfl] at H; exact H
   clear H; have H := H1; clear H1; obtain rfl := Option.some.inj H
   try go_wp2_with (first | ((with_reducible refine gate_callee (f := 48) rfl ?_); refine goesLA_ (some 17) rfl rfl Tryd.func48 rfl #[.agg #[.bool a0_0, .int .u64 a0_1, .int .u64 a0_2]] rfl ?_; (with_reducible refine (sawtoothref02_belowS.calls a0_0 a0_1 a0_2 true _ A8.out).mono ?_); rintro e w31 ⟨rfl, hb⟩; refine ⟨_, rfl, ?_⟩; replace BK436 := bdZ BK436 hb; replace BK437 := bdZ BK437 hb; replace BK442 := bdZ BK442 hb; replace BK447 := bdZ BK447 hb; replace HB := stA hb; clear hb))
   go_ret
   exact ⟨by first | rfl | (simp [errW_none, errW_some] <;> rfl) | (simp [*, errW_none, errW_some] <;> rfl), by repeat (first | (with_reducible first | exact HB.out | apply below_alloc | apply pw_below_drewN | apply below_drew1 | refine below_set ?_ (Aside0.out (by assumption))) | exact HB.out)⟩
  ·replace c9 := Bool.eq_false_iff.mpr c9
   subst c9
   have H1 : (some 1) = some r := by rw [if_neg (show ¬ (false = true) by decide)] at H; exact H
   clear H; have H := H1; clear H1; obtain rfl := Option.some.inj H
   try go_wp2_with (first | ((with_reducible refine gate_callee (f := 48) rfl ?_); refine goesLA_ (some 17) rfl rfl Tryd.func48 rfl #[.agg #[.bool a0_0, .int .u64 a0_1, .int .u64 a0_2]] rfl ?_; (with_reducible refine (sawtoothref02_belowS.calls a0_0 a0_1 a0_2 false _ A8.out).mono ?_); rintro e w53 ⟨rfl, hb⟩; refine ⟨_, rfl, ?_⟩; replace BK436 := bdZ BK436 hb; replace BK437 := bdZ BK437 hb; replace BK442 := bdZ BK442 hb; replace BK447 := bdZ BK447 hb; replace HB := stA hb; clear hb))
   go_ret
   exact ⟨by first | rfl | (simp [errW_none, errW_some] <;> rfl) | (simp [*, errW_none, errW_some] <;> rfl), by repeat (first | (with_reducible first | exact HB.out | apply below_alloc | apply pw_below_drewN | apply below_drew1 | refine below_set ?_ (Aside0.out (by assumption))) | exact HB.out)⟩
 ·rw [if_neg c7] at H
  have c7b0 : (t448 != t449) = false := by simpa using c7
  (try (have c7b1 : decide (t448 = t449) = true := by simpa using c7))
  (try (have c7b2 : (t448 == t449) = true := by simpa using c7))
  clear c7; have HC54 := Aside0.mk H; clear H
  go_enter Tryd.func22, Tryd.ntmps22
  try go_wp2_with (first | ((with_reducible refine gate_dst (N := 2) rfl ?_); refine box_event ?hg (N := 2) ?hd (cs := #[.bool a0_0, .int .u64 a0_1, .int .u64 a0_2]) (t := 33) ?hr ?_; (case hd => rfl); (case hg => rfl); (case hr => first | (go_simp; done) | (go_simp; rfl)); intro gb436 hg w55 hbox hb; have BK436 := Aside0.mk (hbox); obtain ⟨GW436, nHB⟩ := geA hg hb; have GE436 := GW436; replace HB := nHB; clear nHB; clear hb hbox hg) | ((with_reducible refine gate_dst (N := 3) rfl ?_); refine box_event ?hg (N := 3) ?hd (cs := #[.bool a1_0, .int .u64 a1_1, .int .u64 a1_2]) (t := 33) ?hr ?_; (case hd => rfl); (case hg => rfl); (case hr => first | (go_simp; done) | (go_simp; rfl)); intro gb437 hg w56 hbox hb; have BK437 := Aside0.mk (hbox); obtain ⟨GW437, nHB⟩ := geA hg hb; have GE437 := GW437; obtain ⟨NB436_437, NB437_436, nBK⟩ := nbA BK436 hg hb; replace BK436 := nBK; clear nBK; replace HB := nHB; clear nHB; clear hb hbox hg; have hnb57 := NB436_437.out; have hnc57 := NB437_436.out; have hcz58_0 := czZ BK436 0 (.bool a0_0); have hcz58_1 := czZ BK436 1 (.int .u64 a0_1); have hcz58_2 := czZ BK436 2 (.int .u64 a0_2); have hfz58_0 := blk_frozen BK436.out 0; have hfz58_1 := blk_frozen BK436.out 1; have hfz58_2 := blk_frozen BK436.out 2) | ((with_reducible refine gate_callee (f := 45) rfl ?_); refine goesLA_ (some 8) rfl rfl Tryd.func45 rfl #[.agg #[.bool a0_0, .int .u64 a0_1, .int .u64 a0_2]] rfl ?_; (with_reducible refine (sawtoothref02_digits.calls a0_0 a0_1 a0_2 t438 t439 t440 t441 _ A3.out).mono ?_); rintro e w59 ⟨rfl, hb⟩; refine ⟨_, rfl, ?_⟩; replace BK436 := bdZ BK436 hb; replace BK437 := bdZ BK437 hb; replace HB := stA hb; clear hb) | ((with_reducible refine gate_dst (N := 5) rfl ?_); refine box_event ?hg (N := 5) ?hd (cs := #[.int .u64 0, .int .u64 0, .int .u64 0, .int .u64 0]) (t := 58) ?hr ?_; (case hd => rfl); (case hg => rfl); (case hr => first | (go_simp; done) | (go_simp; rfl)); intro gb442 hg w60 hbox hb; have BK442 := Aside0.mk (hbox); obtain ⟨GW442, nHB⟩ := geA hg hb; have GE442 := GW442; obtain ⟨NB436_442, NB442_436, nBK⟩ := nbA BK436 hg hb; replace BK436 := nBK; clear nBK; obtain ⟨NB437_442, NB442_437, nBK⟩ := nbA BK437 hg hb; replace BK437 := nBK; clear nBK; replace HB := nHB; clear nHB; clear hb hbox hg; have hnb61 := NB442_436.out; have hnc61 := NB436_442.out; have hnb62 := NB442_437.out; have hnc62 := NB437_442.out; have hcz63_0 := czZ BK442 0 (.int .u64 0); have hcz63_1 := czZ BK442 1 (.int .u64 0); have hcz63_2 := czZ BK442 2 (.int .u64 0); have hcz63_3 := czZ BK442 3 (.int .u64 0); have hfz63_0 := blk_frozen BK442.out 0; have hfz63_1 := blk_frozen BK442.out 1; have hfz63_2 := blk_frozen BK442.out 2; have hfz63_3 := blk_frozen BK442.out 3; have hcz64_0 := czZ BK437 0 (.bool a1_0); have hcz64_1 := czZ BK437 1 (.int .u64 a1_1); have hcz64_2 := czZ BK437 2 (.int .u64 a1_2); have hfz64_0 := blk_frozen BK437.out 0; have hfz64_1 := blk_frozen BK437.out 1; have hfz64_2 := blk_frozen BK437.out 2) | ((with_reducible refine gate_callee (f := 45) rfl ?_); refine goesLA_ (some 10) rfl rfl Tryd.func45 rfl #[.agg #[.bool a1_0, .int .u64 a1_1, .int .u64 a1_2]] rfl ?_; (with_reducible refine (sawtoothref02_digits.calls a1_0 a1_1 a1_2 t443 t444 t445 t446 _ A4.out).mono ?_); rintro e w65 ⟨rfl, hb⟩; refine ⟨_, rfl, ?_⟩; replace BK436 := bfZ BK436 (fun h_ => by (with_reducible repeat first | apply blk_drewN | apply blk_drew | apply blk_alloc | refine farZ ?_ NB436_442 _); exact h_) hb; replace BK437 := bfZ BK437 (fun h_ => by (with_reducible repeat first | apply blk_drewN | apply blk_drew | apply blk_alloc | refine farZ ?_ NB437_442 _); exact h_) hb; replace BK442 := Aside0.mk (blk_below (g := gb442) (o := .cells #[.int .u64 t438, .int .u64 t439, .int .u64 t440, .int .u64 t441] 58 (0, 0)) (by (with_reducible repeat first | apply blk_drewN | apply blk_drew | apply blk_alloc); refine blk_put (cs := #[.int .u64 t438, .int .u64 t439, .int .u64 t440, .int .u64 0]) ?_ 3 _ rfl; (with_reducible repeat first | apply blk_drewN | apply blk_drew | apply blk_alloc); refine blk_put (cs := #[.int .u64 t438, .int .u64 t439, .int .u64 0, .int .u64 0]) ?_ 2 _ rfl; (with_reducible repeat first | apply blk_drewN | apply blk_drew | apply blk_alloc); refine blk_put (cs := #[.int .u64 t438, .int .u64 0, .int .u64 0, .int .u64 0]) ?_ 1 _ rfl; (with_reducible repeat first | apply blk_drewN | apply blk_drew | apply blk_alloc); refine blk_put (cs := #[.int .u64 0, .int .u64 0, .int .u64 0, .int .u64 0]) ?_ 0 _ rfl; (with_reducible repeat first | apply blk_drewN | apply blk_drew | apply blk_alloc); exact BK442.out) hb); replace HB := stA hb; clear hb) | ((with_reducible refine gate_dst (N := 6) rfl ?_); refine box_event ?hg (N := 6) ?hd (cs := #[.int .u64 0, .int .u64 0, .int .u64 0, .int .u64 0]) (t := 58) ?hr ?_; (case hd => rfl); (case hg => rfl); (case hr => first | (go_simp; done) | (go_simp; rfl)); intro gb447 hg w66 hbox hb; have BK447 := Aside0.mk (hbox); obtain ⟨GW447, nHB⟩ := geA hg hb; have GE447 := GW447; obtain ⟨NB436_447, NB447_436, nBK⟩ := nbA BK436 hg hb; replace BK436 := nBK; clear nBK; obtain ⟨NB437_447, NB447_437, nBK⟩ := nbA BK437 hg hb; replace BK437 := nBK; clear nBK; obtain ⟨NB442_447, NB447_442, nBK⟩ := nbA BK442 hg hb; replace BK442 := nBK; clear nBK; replace HB := nHB; clear nHB; clear hb hbox hg; have hnb67 := NB447_436.out; have hnc67 := NB436_447.out; have hnb68 := NB447_437.out; have hnc68 := NB437_447.out; have hnb69 := NB447_442.out; have hnc69 := NB442_447.out; have hcz70_0 := czZ BK447 0 (.int .u64 0); have hcz70_1 := czZ BK447 1 (.int .u64 0); have hcz70_2 := czZ BK447 2 (.int .u64 0); have hcz70_3 := czZ BK447 3 (.int .u64 0); have hfz70_0 := blk_frozen BK447.out 0; have hfz70_1 := blk_frozen BK447.out 1; have hfz70_2 := blk_frozen BK447.out 2; have hfz70_3 := blk_frozen BK447.out 3))
  have n0_ : Aside0 (((((w66.setCell ⟨gb447, 0, none⟩ (.int .u64 t443)).setCell ⟨gb447, 1, none⟩ (.int .u64 t444)).setCell ⟨gb447, 2, none⟩ (.int .u64 t445)).setCell ⟨gb447, 3, none⟩ (.int .u64 t446)).heap[gb436]? = some (.cells #[.bool a0_0, .int .u64 a0_1, .int .u64 a0_2] 33 (0, 0))) := ⟨by (with_reducible repeat first | apply blk_drewN | apply blk_drew | apply blk_alloc); refine blk_far ?_ NB436_447.out _; (with_reducible repeat first | apply blk_drewN | apply blk_drew | apply blk_alloc); refine blk_far ?_ NB436_447.out _; (with_reducible repeat first | apply blk_drewN | apply blk_drew | apply blk_alloc); refine blk_far ?_ NB436_447.out _; (with_reducible repeat first | apply blk_drewN | apply blk_drew | apply blk_alloc); refine blk_far ?_ NB436_447.out _; (with_reducible repeat first | apply blk_drewN | apply blk_drew | apply blk_alloc); exact BK436.out⟩
  have n1_ : Aside0 (((((w66.setCell ⟨gb447, 0, none⟩ (.int .u64 t443)).setCell ⟨gb447, 1, none⟩ (.int .u64 t444)).setCell ⟨gb447, 2, none⟩ (.int .u64 t445)).setCell ⟨gb447, 3, none⟩ (.int .u64 t446)).heap[gb437]? = some (.cells #[.bool a1_0, .int .u64 a1_1, .int .u64 a1_2] 33 (0, 0))) := ⟨by (with_reducible repeat first | apply blk_drewN | apply blk_drew | apply blk_alloc); refine blk_far ?_ NB437_447.out _; (with_reducible repeat first | apply blk_drewN | apply blk_drew | apply blk_alloc); refine blk_far ?_ NB437_447.out _; (with_reducible repeat first | apply blk_drewN | apply blk_drew | apply blk_alloc); refine blk_far ?_ NB437_447.out _; (with_reducible repeat first | apply blk_drewN | apply blk_drew | apply blk_alloc); refine blk_far ?_ NB437_447.out _; (with_reducible repeat first | apply blk_drewN | apply blk_drew | apply blk_alloc); exact BK437.out⟩
  have n2_ : Aside0 (((((w66.setCell ⟨gb447, 0, none⟩ (.int .u64 t443)).setCell ⟨gb447, 1, none⟩ (.int .u64 t444)).setCell ⟨gb447, 2, none⟩ (.int .u64 t445)).setCell ⟨gb447, 3, none⟩ (.int .u64 t446)).heap[gb442]? = some (.cells #[.int .u64 t438, .int .u64 t439, .int .u64 t440, .int .u64 t441] 58 (0, 0))) := ⟨by (with_reducible repeat first | apply blk_drewN | apply blk_drew | apply blk_alloc); refine blk_far ?_ NB442_447.out _; (with_reducible repeat first | apply blk_drewN | apply blk_drew | apply blk_alloc); refine blk_far ?_ NB442_447.out _; (with_reducible repeat first | apply blk_drewN | apply blk_drew | apply blk_alloc); refine blk_far ?_ NB442_447.out _; (with_reducible repeat first | apply blk_drewN | apply blk_drew | apply blk_alloc); refine blk_far ?_ NB442_447.out _; (with_reducible repeat first | apply blk_drewN | apply blk_drew | apply blk_alloc); exact BK442.out⟩
  have n3_ : Aside0 (((((w66.setCell ⟨gb447, 0, none⟩ (.int .u64 t443)).setCell ⟨gb447, 1, none⟩ (.int .u64 t444)).setCell ⟨gb447, 2, none⟩ (.int .u64 t445)).setCell ⟨gb447, 3, none⟩ (.int .u64 t446)).heap[gb447]? = some (.cells #[.int .u64 t443, .int .u64 t444, .int .u64 t445, .int .u64 t446] 58 (0, 0))) := ⟨by (with_reducible repeat first | apply blk_drewN | apply blk_drew | apply blk_alloc); refine blk_put (cs := #[.int .u64 t443, .int .u64 t444, .int .u64 t445, .int .u64 0]) ?_ 3 _ rfl; (with_reducible repeat first | apply blk_drewN | apply blk_drew | apply blk_alloc); refine blk_put (cs := #[.int .u64 t443, .int .u64 t444, .int .u64 0, .int .u64 0]) ?_ 2 _ rfl; (with_reducible repeat first | apply blk_drewN | apply blk_drew | apply blk_alloc); refine blk_put (cs := #[.int .u64 t443, .int .u64 0, .int .u64 0, .int .u64 0]) ?_ 1 _ rfl; (with_reducible repeat first | apply blk_drewN | apply blk_drew | apply blk_alloc); refine blk_put (cs := #[.int .u64 0, .int .u64 0, .int .u64 0, .int .u64 0]) ?_ 0 _ rfl; (with_reducible repeat first | apply blk_drewN | apply blk_drew | apply blk_alloc); exact BK447.out⟩
  have n4_ : Aside0 (Below w.heap.size w ((((w66.setCell ⟨gb447, 0, none⟩ (.int .u64 t443)).setCell ⟨gb447, 1, none⟩ (.int .u64 t444)).setCell ⟨gb447, 2, none⟩ (.int .u64 t445)).setCell ⟨gb447, 3, none⟩ (.int .u64 t446))) := ⟨by repeat (first | (with_reducible first | exact HB.out | apply below_alloc | apply pw_below_drewN | apply below_drew1 | refine below_set ?_ (Aside0.out (by assumption))) | exact HB.out)⟩
  (try clear BK436); (try clear BK437); (try clear BK442); (try clear BK447); (try clear HB)
  generalize ((((w66.setCell ⟨gb447, 0, none⟩ (.int .u64 t443)).setCell ⟨gb447, 1, none⟩ (.int .u64 t444)).setCell ⟨gb447, 2, none⟩ (.int .u64 t445)).setCell ⟨gb447, 3, none⟩ (.int .u64 t446)) = w71 at n0_ n1_ n2_ n3_ n4_ ⊢
  have BK436 := n0_; have BK437 := n1_; have BK442 := n2_; have BK447 := n3_; have HB := n4_; clear n0_ n1_ n2_ n3_ n4_; replace BK436 := Aside0.mk (blk_drew BK436.out); replace BK437 := Aside0.mk (blk_drew BK437.out); replace BK442 := Aside0.mk (blk_drew BK442.out); replace BK447 := Aside0.mk (blk_drew BK447.out); replace HB := Aside0.mk (below_drew1 HB.out); refine start_ (n := 5) (S := fun w' => w'.cell? ⟨gb436, 0, none⟩ = some (.bool a0_0) ∧ w'.cell? ⟨gb436, 1, none⟩ = some (.int .u64 a0_1) ∧ w'.cell? ⟨gb436, 2, none⟩ = some (.int .u64 a0_2) ∧ w'.cell? ⟨gb437, 0, none⟩ = some (.bool a1_0) ∧ w'.cell? ⟨gb437, 1, none⟩ = some (.int .u64 a1_1) ∧ w'.cell? ⟨gb437, 2, none⟩ = some (.int .u64 a1_2)) (ds := []) #[N,N,N,N,N] (by kernel_rfl) rfl rfl ⟨(blk_cell BK436.out 0).trans rfl, (blk_cell BK436.out 1).trans rfl, (blk_cell BK436.out 2).trans rfl, (blk_cell BK437.out 0).trans rfl, (blk_cell BK437.out 1).trans rfl, (blk_cell BK437.out 2).trans rfl⟩ (fun hHeld => ?_)
  generalize w71.drew = w72 at BK436 BK437 BK442 BK447 HB hHeld ⊢
  refine take_ (i := 0) (N := some 11) (v := ?_) (a' := ?_) #[Y,N,N,N,N] rfl rfl (by kernel_rfl) (fun _ _ _ h => h) (Or.inl ⟨by rfl, ?_⟩) hHeld ?_ ?_; rotate_left
  ·rintro w' ⟨s0, s1, s2, s3, s4, s5⟩; go_simp
   with_reducible rfl
  rotate_left
  ·simp only [Act.put, sA, sB, sC, i64_w, i32_w]
   rfl
  refine take_ (i := 2) (N := some 13) (v := ?_) (a' := ?_) #[Y,N,Y,N,N] rfl rfl (by kernel_rfl) (fun _ _ _ h => h) (Or.inl ⟨by rfl, ?_⟩) hHeld ?_ ?_; rotate_left
  ·rintro w' ⟨s0, s1, s2, s3, s4, s5⟩; go_simp
   with_reducible rfl
  rotate_left
  ·simp only [Act.put, sA, sB, sC, i64_w, i32_w]
   rfl
  refine one_ (i := 1) (N := some 12) #[Y,Y,Y,N,N] rfl rfl (by kernel_rfl) (by decide) (fun K hK => ?_); refine goesA_ Tryd.func48 rfl #[.agg #[.bool a0_0, .int .u64 a0_1, .int .u64 a0_2]] (by rfl) rfl rfl ?_
  with_reducible refine (sawtoothref02_belowS.calls a0_0 a0_1 a0_2 t448 _ A5.out).mono ?_
  rintro e w73 ⟨rfl, hb⟩; refine ⟨_, rfl, ?_⟩; replace BK436 := bbZ BK436 hb; replace BK437 := bbZ BK437 hb; replace BK442 := bbZ BK442 hb; replace BK447 := bbZ BK447 hb; replace HB := Aside0.mk (below_step HB.out hb); clear hb; refine hK.out _ _ ⟨(blk_cell BK436.out 0).trans rfl, (blk_cell BK436.out 1).trans rfl, (blk_cell BK436.out 2).trans rfl, (blk_cell BK437.out 0).trans rfl, (blk_cell BK437.out 1).trans rfl, (blk_cell BK437.out 2).trans rfl⟩ (fun hHeld => ?_); clear hK K; refine normA_ (some 12) ?_
  refine one_ (i := 3) (N := some 14) #[Y,Y,Y,Y,N] rfl rfl (by kernel_rfl) (by decide) (fun K hK => ?_); refine goesA_ Tryd.func48 rfl #[.agg #[.bool a1_0, .int .u64 a1_1, .int .u64 a1_2]] (by rfl) rfl rfl ?_
  with_reducible refine (sawtoothref02_belowS.calls a1_0 a1_1 a1_2 t449 _ A6.out).mono ?_
  rintro e w74 ⟨rfl, hb⟩; refine ⟨_, rfl, ?_⟩; replace BK436 := bbZ BK436 hb; replace BK437 := bbZ BK437 hb; replace BK442 := bbZ BK442 hb; replace BK447 := bbZ BK447 hb; replace HB := Aside0.mk (below_step HB.out hb); clear hb; refine hK.out _ _ ⟨(blk_cell BK436.out 0).trans rfl, (blk_cell BK436.out 1).trans rfl, (blk_cell BK436.out 2).trans rfl, (blk_cell BK437.out 0).trans rfl, (blk_cell BK437.out 1).trans rfl, (blk_cell BK437.out 2).trans rfl⟩ (fun hHeld => ?_); clear hK K; refine normA_ (some 14) ?_
  refine pureA_ (i := 4) (N := some 15) #[Y,Y,Y,Y,Y] rfl rfl (by kernel_rfl) ?_
  refine done_ (by kernel_rfl) ?_
  go_upto_region 7 with (fail)
  go_cut [32] (fun v32 wc => ∃ (kq : Nat) (x32_53 : Bool), v32 = .bool x32_53 ∧ Aside0 (sawtoothref02_Cmp.j0 kq x32_53 t438 t439 t440 t441 t443 t444 t445 t446 = some r) ∧ Aside0 (kq ≤ k) ∧ Aside0 (wc.heap[gb436]? = some (.cells #[.bool a0_0, .int .u64 a0_1, .int .u64 a0_2] 33 (0, 0))) ∧ Aside0 (wc.heap[gb437]? = some (.cells #[.bool a1_0, .int .u64 a1_1, .int .u64 a1_2] 33 (0, 0))) ∧ Aside0 (wc.heap[gb442]? = some (.cells #[.int .u64 t438, .int .u64 t439, .int .u64 t440, .int .u64 t441] 58 (0, 0))) ∧ Aside0 (wc.heap[gb447]? = some (.cells #[.int .u64 t443, .int .u64 t444, .int .u64 t445, .int .u64 t446] 58 (0, 0))) ∧ Aside0 (Below w.heap.size w wc))
  case first =>
   have H := HC54.out; clear HC54; replace H := Option.bind_eq_some_iff.mp H; obtain ⟨t451, A750, H⟩ := H; (try dsimp only at H); have A75 := Aside0.mk A750; clear A750; replace H := Option.bind_eq_some_iff.mp H; obtain ⟨t452, A760, H⟩ := H; (try dsimp only at H); have A76 := Aside0.mk A760; clear A760
   by_cases c77 : (t451 != t452) = true
   ·rw [if_pos c77] at H
    have c77b0 : (t451 != t452) = true := c77
    (try (have c77b1 : decide (t451 = t452) = false := by simpa using c77))
    (try (have c77b2 : (t451 == t452) = false := by simpa using c77))
    (try (have c77b3 : ¬ (t451 = t452) := by simpa using c77))
    clear c77
    (first | rw [c77b0] | (simp only [i64_w, i32_w]; rw [c77b0]) | skip)
    replace H := Option.bind_eq_some_iff.mp H; obtain ⟨t453, A780, H⟩ := H; replace H : ((sawtoothref02_belowS.f a0_0 a0_1 a0_2).bind fun t454 => (sawtoothref02_Cmp.j0 k (t453 == t454) t438 t439 t440 t441 t443 t444 t445 t446)) = some r := H; have A78 := Aside0.mk A780; clear A780; replace H := Option.bind_eq_some_iff.mp H; obtain ⟨t454, A790, H⟩ := H; replace H : (sawtoothref02_Cmp.j0 k (t453 == t454) t438 t439 t440 t441 t443 t444 t445 t446) = some r := H; have A79 := Aside0.mk A790; clear A790; have H' := Aside0.mk H; clear H
    try go_wp2
    replace BK436 := Aside0.mk (blk_drew BK436.out); replace BK437 := Aside0.mk (blk_drew BK437.out); replace BK442 := Aside0.mk (blk_drew BK442.out); replace BK447 := Aside0.mk (blk_drew BK447.out); replace HB := Aside0.mk (below_drew1 HB.out); refine start_ (n := 15) (S := fun w' => w'.cell? ⟨gb442, 0, none⟩ = some (.int .u64 t438) ∧ w'.cell? ⟨gb442, 1, none⟩ = some (.int .u64 t439) ∧ w'.cell? ⟨gb442, 2, none⟩ = some (.int .u64 t440) ∧ w'.cell? ⟨gb442, 3, none⟩ = some (.int .u64 t441) ∧ w'.cell? ⟨gb447, 0, none⟩ = some (.int .u64 t443) ∧ w'.cell? ⟨gb447, 1, none⟩ = some (.int .u64 t444) ∧ w'.cell? ⟨gb447, 2, none⟩ = some (.int .u64 t445) ∧ w'.cell? ⟨gb447, 3, none⟩ = some (.int .u64 t446) ∧ w'.cell? ⟨gb436, 0, none⟩ = some (.bool a0_0) ∧ w'.cell? ⟨gb436, 1, none⟩ = some (.int .u64 a0_1) ∧ w'.cell? ⟨gb436, 2, none⟩ = some (.int .u64 a0_2)) (ds := []) #[N,N,N,N,N,N,N,N,N,N,N,N,N,N,N] (by kernel_rfl) rfl rfl ⟨(blk_cell BK442.out 0).trans rfl, (blk_cell BK442.out 1).trans rfl, (blk_cell BK442.out 2).trans rfl, (blk_cell BK442.out 3).trans rfl, (blk_cell BK447.out 0).trans rfl, (blk_cell BK447.out 1).trans rfl, (blk_cell BK447.out 2).trans rfl, (blk_cell BK447.out 3).trans rfl, (blk_cell BK436.out 0).trans rfl, (blk_cell BK436.out 1).trans rfl, (blk_cell BK436.out 2).trans rfl⟩ (fun hHeld => ?_); refine with_tabW sawtoothref02_Cmp.tab7 sawtoothref02_Cmp.bits7 (fun HT_ HW_ => ?_)
    generalize w74.drew = w80 at BK436 BK437 BK442 BK447 HB hHeld ⊢
    refine take_ (i := 0) (N := some 18) (v := ?_) (a' := ?_) #[Y,N,N,N,N,N,N,N,N,N,N,N,N,N,N] rfl rfl (take_ofW HT_.out HW_.out (by kernel_rfl)) (fun _ _ _ h => h) (Or.inl ⟨by rfl, ?_⟩) hHeld ?_ ?_; rotate_left
    ·rintro w' ⟨s0, s1, s2, s3, s4, s5, s6, s7, s8, s9, s10⟩; go_simp
     with_reducible rfl
    rotate_left
    ·simp only [Act.put, sA, sB, sC, i64_w, i32_w]
     rfl
    refine take_ (i := 1) (N := some 19) (v := ?_) (a' := ?_) #[Y,Y,N,N,N,N,N,N,N,N,N,N,N,N,N] rfl rfl (take_ofW HT_.out HW_.out (by kernel_rfl)) (fun _ _ _ h => h) (Or.inl ⟨by rfl, ?_⟩) hHeld ?_ ?_; rotate_left
    ·rintro w' ⟨s0, s1, s2, s3, s4, s5, s6, s7, s8, s9, s10⟩; go_simp
     with_reducible rfl
    rotate_left
    ·simp only [Act.put, sA, sB, sC, i64_w, i32_w]
     rfl
    refine take_ (i := 3) (N := some 21) (v := ?_) (a' := ?_) #[Y,Y,N,Y,N,N,N,N,N,N,N,N,N,N,N] rfl rfl (take_ofW HT_.out HW_.out (by kernel_rfl)) (fun _ _ _ h => h) (Or.inl ⟨by rfl, ?_⟩) hHeld ?_ ?_; rotate_left
    ·rintro w' ⟨s0, s1, s2, s3, s4, s5, s6, s7, s8, s9, s10⟩; go_simp
     with_reducible rfl
    rotate_left
    ·simp only [Act.put, sA, sB, sC, i64_w, i32_w]
     rfl
    refine take_ (i := 4) (N := some 22) (v := ?_) (a' := ?_) #[Y,Y,N,Y,Y,N,N,N,N,N,N,N,N,N,N] rfl rfl (take_ofW HT_.out HW_.out (by kernel_rfl)) (fun _ _ _ h => h) (Or.inl ⟨by rfl, ?_⟩) hHeld ?_ ?_; rotate_left
    ·rintro w' ⟨s0, s1, s2, s3, s4, s5, s6, s7, s8, s9, s10⟩; go_simp
     with_reducible rfl
    rotate_left
    ·simp only [Act.put, sA, sB, sC, i64_w, i32_w]
     rfl
    refine one_ (i := 2) (N := some 20) #[Y,Y,Y,Y,Y,N,N,N,N,N,N,N,N,N,N] rfl rfl (one_of HT_.out (by kernel_rfl)) (by decide) (fun K hK => ?_); refine goesA_ Tryd.func49 rfl #[.agg #[.int .u64 t438, .int .u64 t439, .int .u64 t440, .int .u64 t441], .agg #[.int .u64 t443, .int .u64 t444, .int .u64 t445, .int .u64 t446]] (by rfl) rfl rfl ?_
    with_reducible refine (sawtoothref02_less.calls t438 t439 t440 t441 t443 t444 t445 t446 t451 _ A75.out).mono ?_
    rintro e w81 ⟨rfl, hb⟩; refine ⟨_, rfl, ?_⟩; replace BK436 := bbZ BK436 hb; replace BK437 := bbZ BK437 hb; replace BK442 := bbZ BK442 hb; replace BK447 := bbZ BK447 hb; replace HB := Aside0.mk (below_step HB.out hb); clear hb; refine hK.out _ _ ⟨(blk_cell BK442.out 0).trans rfl, (blk_cell BK442.out 1).trans rfl, (blk_cell BK442.out 2).trans rfl, (blk_cell BK442.out 3).trans rfl, (blk_cell BK447.out 0).trans rfl, (blk_cell BK447.out 1).trans rfl, (blk_cell BK447.out 2).trans rfl, (blk_cell BK447.out 3).trans rfl, (blk_cell BK436.out 0).trans rfl, (blk_cell BK436.out 1).trans rfl, (blk_cell BK436.out 2).trans rfl⟩ (fun hHeld => ?_); clear hK K; refine normA_ (some 20) ?_
    refine one_ (i := 5) (N := some 23) #[Y,Y,Y,Y,Y,Y,N,N,N,N,N,N,N,N,N] rfl rfl (one_of HT_.out (by kernel_rfl)) (by decide) (fun K hK => ?_); refine goesA_ Tryd.func49 rfl #[.agg #[.int .u64 t443, .int .u64 t444, .int .u64 t445, .int .u64 t446], .agg #[.int .u64 t438, .int .u64 t439, .int .u64 t440, .int .u64 t441]] (by rfl) rfl rfl ?_
    with_reducible refine (sawtoothref02_less.calls t443 t444 t445 t446 t438 t439 t440 t441 t452 _ A76.out).mono ?_
    rintro e w82 ⟨rfl, hb⟩; refine ⟨_, rfl, ?_⟩; replace BK436 := bbZ BK436 hb; replace BK437 := bbZ BK437 hb; replace BK442 := bbZ BK442 hb; replace BK447 := bbZ BK447 hb; replace HB := Aside0.mk (below_step HB.out hb); clear hb; refine hK.out _ _ ⟨(blk_cell BK442.out 0).trans rfl, (blk_cell BK442.out 1).trans rfl, (blk_cell BK442.out 2).trans rfl, (blk_cell BK442.out 3).trans rfl, (blk_cell BK447.out 0).trans rfl, (blk_cell BK447.out 1).trans rfl, (blk_cell BK447.out 2).trans rfl, (blk_cell BK447.out 3).trans rfl, (blk_cell BK436.out 0).trans rfl, (blk_cell BK436.out 1).trans rfl, (blk_cell BK436.out 2).trans rfl⟩ (fun hHeld => ?_); clear hK K; refine normA_ (some 23) ?_
    refine pureA_ (i := 6) (N := some 24) #[Y,Y,Y,Y,Y,Y,Y,N,N,N,N,N,N,N,N] rfl rfl (any_of HT_.out (by kernel_rfl)) ?_
    refine pureA_ (i := 7) (N := some 25) #[Y,Y,Y,Y,Y,Y,Y,Y,N,N,N,N,N,N,N] rfl rfl (any_of HT_.out (by kernel_rfl)) ?_
    refine take_ (i := 8) (N := some 26) (v := ?_) (a' := ?_) #[Y,Y,Y,Y,Y,Y,Y,Y,Y,N,N,N,N,N,N] rfl rfl (take_ofW HT_.out HW_.out (by kernel_rfl)) (fun _ _ _ h => h) (Or.inl ⟨by rfl, ?_⟩) hHeld ?_ ?_; rotate_left
    ·rintro w' ⟨s0, s1, s2, s3, s4, s5, s6, s7, s8, s9, s10⟩; go_simp
     with_reducible rfl
    rotate_left
    ·simp only [Act.put, sA, sB, sC, i64_w, i32_w]
     rfl
    refine take_ (i := 9) (N := some 27) (v := ?_) (a' := ?_) #[Y,Y,Y,Y,Y,Y,Y,Y,Y,Y,N,N,N,N,N] rfl rfl (take_ofW HT_.out HW_.out (by kernel_rfl)) (fun _ _ _ h => h) (Or.inl ⟨by rfl, ?_⟩) hHeld ?_ ?_; rotate_left
    ·rintro w' ⟨s0, s1, s2, s3, s4, s5, s6, s7, s8, s9, s10⟩; go_simp
     with_reducible rfl
    rotate_left
    ·simp only [Act.put, sA, sB, sC, i64_w, i32_w]
     rfl
    refine take_ (i := 11) (N := some 29) (v := ?_) (a' := ?_) #[Y,Y,Y,Y,Y,Y,Y,Y,Y,Y,N,Y,N,N,N] rfl rfl (take_ofW HT_.out HW_.out (by kernel_rfl)) (fun _ _ _ h => h) (Or.inl ⟨by rfl, ?_⟩) hHeld ?_ ?_; rotate_left
    ·rintro w' ⟨s0, s1, s2, s3, s4, s5, s6, s7, s8, s9, s10⟩; go_simp
     with_reducible rfl
    rotate_left
    ·simp only [Act.put, sA, sB, sC, i64_w, i32_w]
     rfl
    refine one_ (i := 10) (N := some 28) #[Y,Y,Y,Y,Y,Y,Y,Y,Y,Y,Y,Y,N,N,N] rfl rfl (one_of HT_.out (by kernel_rfl)) (by decide) (fun K hK => ?_); refine goesA_ Tryd.func49 rfl #[.agg #[.int .u64 t438, .int .u64 t439, .int .u64 t440, .int .u64 t441], .agg #[.int .u64 t443, .int .u64 t444, .int .u64 t445, .int .u64 t446]] (by rfl) rfl rfl ?_
    with_reducible refine (sawtoothref02_less.calls t438 t439 t440 t441 t443 t444 t445 t446 t453 _ A78.out).mono ?_
    rintro e w83 ⟨rfl, hb⟩; refine ⟨_, rfl, ?_⟩; replace BK436 := bbZ BK436 hb; replace BK437 := bbZ BK437 hb; replace BK442 := bbZ BK442 hb; replace BK447 := bbZ BK447 hb; replace HB := Aside0.mk (below_step HB.out hb); clear hb; refine hK.out _ _ ⟨(blk_cell BK442.out 0).trans rfl, (blk_cell BK442.out 1).trans rfl, (blk_cell BK442.out 2).trans rfl, (blk_cell BK442.out 3).trans rfl, (blk_cell BK447.out 0).trans rfl, (blk_cell BK447.out 1).trans rfl, (blk_cell BK447.out 2).trans rfl, (blk_cell BK447.out 3).trans rfl, (blk_cell BK436.out 0).trans rfl, (blk_cell BK436.out 1).trans rfl, (blk_cell BK436.out 2).trans rfl⟩ (fun hHeld => ?_); clear hK K; refine normA_ (some 28) ?_
    refine one_ (i := 12) (N := some 30) #[Y,Y,Y,Y,Y,Y,Y,Y,Y,Y,Y,Y,Y,N,N] rfl rfl (one_of HT_.out (by kernel_rfl)) (by decide) (fun K hK => ?_); refine goesA_ Tryd.func48 rfl #[.agg #[.bool a0_0, .int .u64 a0_1, .int .u64 a0_2]] (by rfl) rfl rfl ?_
    with_reducible refine (sawtoothref02_belowS.calls a0_0 a0_1 a0_2 t454 _ A79.out).mono ?_
    rintro e w84 ⟨rfl, hb⟩; refine ⟨_, rfl, ?_⟩; replace BK436 := bbZ BK436 hb; replace BK437 := bbZ BK437 hb; replace BK442 := bbZ BK442 hb; replace BK447 := bbZ BK447 hb; replace HB := Aside0.mk (below_step HB.out hb); clear hb; refine hK.out _ _ ⟨(blk_cell BK442.out 0).trans rfl, (blk_cell BK442.out 1).trans rfl, (blk_cell BK442.out 2).trans rfl, (blk_cell BK442.out 3).trans rfl, (blk_cell BK447.out 0).trans rfl, (blk_cell BK447.out 1).trans rfl, (blk_cell BK447.out 2).trans rfl, (blk_cell BK447.out 3).trans rfl, (blk_cell BK436.out 0).trans rfl, (blk_cell BK436.out 1).trans rfl, (blk_cell BK436.out 2).trans rfl⟩ (fun hHeld => ?_); clear hK K; refine normA_ (some 30) ?_
    refine pureA_ (i := 13) (N := some 31) #[Y,Y,Y,Y,Y,Y,Y,Y,Y,Y,Y,Y,Y,Y,N] rfl rfl (any_of HT_.out (by kernel_rfl)) ?_
    refine pureA_ (i := 14) (N := some 32) #[Y,Y,Y,Y,Y,Y,Y,Y,Y,Y,Y,Y,Y,Y,Y] rfl rfl (any_of HT_.out (by kernel_rfl)) ?_
    refine done_ (done_of HT_.out (by kernel_rfl)) ?_
    try go_wp2
    go_meet
    case rel => exact ⟨_, ((t453 == t454)), (by first | rfl | (simp; done) | (simp [*]; done)), H', ⟨by first | omega | exact Nat.le_refl _⟩, ⟨by (with_reducible repeat first | apply blk_drewN | apply blk_drew | apply blk_alloc); exact BK436.out⟩, ⟨by (with_reducible repeat first | apply blk_drewN | apply blk_drew | apply blk_alloc); exact BK437.out⟩, ⟨by (with_reducible repeat first | apply blk_drewN | apply blk_drew | apply blk_alloc); exact BK442.out⟩, ⟨by (with_reducible repeat first | apply blk_drewN | apply blk_drew | apply blk_alloc); exact BK447.out⟩, ⟨by repeat (first | (with_reducible first | exact HB.out | apply below_alloc | apply pw_below_drewN | apply below_drew1 | refine below_set ?_ (Aside0.out (by assumption))) | exact HB.out)⟩⟩
   ·rw [if_neg c77] at H
    have c77b0 : (t451 != t452) = false := by simpa using c77
    (try (have c77b1 : decide (t451 = t452) = true := by simpa using c77))
    (try (have c77b2 : (t451 == t452) = true := by simpa using c77))
    clear c77
    (first | rw [c77b0] | (simp only [i64_w, i32_w]; rw [c77b0]) | skip)
    have H' := Aside0.mk H; clear H
    try go_wp2
    replace BK436 := Aside0.mk (blk_drew BK436.out); replace BK437 := Aside0.mk (blk_drew BK437.out); replace BK442 := Aside0.mk (blk_drew BK442.out); replace BK447 := Aside0.mk (blk_drew BK447.out); replace HB := Aside0.mk (below_drew1 HB.out); refine start_ (n := 15) (S := fun w' => w'.cell? ⟨gb442, 0, none⟩ = some (.int .u64 t438) ∧ w'.cell? ⟨gb442, 1, none⟩ = some (.int .u64 t439) ∧ w'.cell? ⟨gb442, 2, none⟩ = some (.int .u64 t440) ∧ w'.cell? ⟨gb442, 3, none⟩ = some (.int .u64 t441) ∧ w'.cell? ⟨gb447, 0, none⟩ = some (.int .u64 t443) ∧ w'.cell? ⟨gb447, 1, none⟩ = some (.int .u64 t444) ∧ w'.cell? ⟨gb447, 2, none⟩ = some (.int .u64 t445) ∧ w'.cell? ⟨gb447, 3, none⟩ = some (.int .u64 t446)) (ds := []) #[N,N,N,N,N,N,N,N,N,N,N,N,N,N,N] (by kernel_rfl) rfl rfl ⟨(blk_cell BK442.out 0).trans rfl, (blk_cell BK442.out 1).trans rfl, (blk_cell BK442.out 2).trans rfl, (blk_cell BK442.out 3).trans rfl, (blk_cell BK447.out 0).trans rfl, (blk_cell BK447.out 1).trans rfl, (blk_cell BK447.out 2).trans rfl, (blk_cell BK447.out 3).trans rfl⟩ (fun hHeld => ?_); refine with_tabW sawtoothref02_Cmp.tab7 sawtoothref02_Cmp.bits7 (fun HT_ HW_ => ?_)
    generalize w74.drew = w85 at BK436 BK437 BK442 BK447 HB hHeld ⊢
    refine take_ (i := 0) (N := some 18) (v := ?_) (a' := ?_) #[Y,N,N,N,N,N,N,N,N,N,N,N,N,N,N] rfl rfl (take_ofW HT_.out HW_.out (by kernel_rfl)) (fun _ _ _ h => h) (Or.inl ⟨by rfl, ?_⟩) hHeld ?_ ?_; rotate_left
    ·rintro w' ⟨s0, s1, s2, s3, s4, s5, s6, s7⟩; go_simp
     with_reducible rfl
    rotate_left
    ·simp only [Act.put, sA, sB, sC, i64_w, i32_w]
     rfl
    refine take_ (i := 1) (N := some 19) (v := ?_) (a' := ?_) #[Y,Y,N,N,N,N,N,N,N,N,N,N,N,N,N] rfl rfl (take_ofW HT_.out HW_.out (by kernel_rfl)) (fun _ _ _ h => h) (Or.inl ⟨by rfl, ?_⟩) hHeld ?_ ?_; rotate_left
    ·rintro w' ⟨s0, s1, s2, s3, s4, s5, s6, s7⟩; go_simp
     with_reducible rfl
    rotate_left
    ·simp only [Act.put, sA, sB, sC, i64_w, i32_w]
     rfl
    refine take_ (i := 3) (N := some 21) (v := ?_) (a' := ?_) #[Y,Y,N,Y,N,N,N,N,N,N,N,N,N,N,N] rfl rfl (take_ofW HT_.out HW_.out (by kernel_rfl)) (fun _ _ _ h => h) (Or.inl ⟨by rfl, ?_⟩) hHeld ?_ ?_; rotate_left
    ·rintro w' ⟨s0, s1, s2, s3, s4, s5, s6, s7⟩; go_simp
     with_reducible rfl
    rotate_left
    ·simp only [Act.put, sA, sB, sC, i64_w, i32_w]
     rfl
    refine take_ (i := 4) (N := some 22) (v := ?_) (a' := ?_) #[Y,Y,N,Y,Y,N,N,N,N,N,N,N,N,N,N] rfl rfl (take_ofW HT_.out HW_.out (by kernel_rfl)) (fun _ _ _ h => h) (Or.inl ⟨by rfl, ?_⟩) hHeld ?_ ?_; rotate_left
    ·rintro w' ⟨s0, s1, s2, s3, s4, s5, s6, s7⟩; go_simp
     with_reducible rfl
    rotate_left
    ·simp only [Act.put, sA, sB, sC, i64_w, i32_w]
     rfl
    refine one_ (i := 2) (N := some 20) #[Y,Y,Y,Y,Y,N,N,N,N,N,N,N,N,N,N] rfl rfl (one_of HT_.out (by kernel_rfl)) (by decide) (fun K hK => ?_); refine goesA_ Tryd.func49 rfl #[.agg #[.int .u64 t438, .int .u64 t439, .int .u64 t440, .int .u64 t441], .agg #[.int .u64 t443, .int .u64 t444, .int .u64 t445, .int .u64 t446]] (by rfl) rfl rfl ?_
    with_reducible refine (sawtoothref02_less.calls t438 t439 t440 t441 t443 t444 t445 t446 t451 _ A75.out).mono ?_
    rintro e w86 ⟨rfl, hb⟩; refine ⟨_, rfl, ?_⟩; replace BK436 := bbZ BK436 hb; replace BK437 := bbZ BK437 hb; replace BK442 := bbZ BK442 hb; replace BK447 := bbZ BK447 hb; replace HB := Aside0.mk (below_step HB.out hb); clear hb; refine hK.out _ _ ⟨(blk_cell BK442.out 0).trans rfl, (blk_cell BK442.out 1).trans rfl, (blk_cell BK442.out 2).trans rfl, (blk_cell BK442.out 3).trans rfl, (blk_cell BK447.out 0).trans rfl, (blk_cell BK447.out 1).trans rfl, (blk_cell BK447.out 2).trans rfl, (blk_cell BK447.out 3).trans rfl⟩ (fun hHeld => ?_); clear hK K; refine normA_ (some 20) ?_
    refine one_ (i := 5) (N := some 23) #[Y,Y,Y,Y,Y,Y,N,N,N,N,N,N,N,N,N] rfl rfl (one_of HT_.out (by kernel_rfl)) (by decide) (fun K hK => ?_); refine goesA_ Tryd.func49 rfl #[.agg #[.int .u64 t443, .int .u64 t444, .int .u64 t445, .int .u64 t446], .agg #[.int .u64 t438, .int .u64 t439, .int .u64 t440, .int .u64 t441]] (by rfl) rfl rfl ?_
    with_reducible refine (sawtoothref02_less.calls t443 t444 t445 t446 t438 t439 t440 t441 t452 _ A76.out).mono ?_
    rintro e w87 ⟨rfl, hb⟩; refine ⟨_, rfl, ?_⟩; replace BK436 := bbZ BK436 hb; replace BK437 := bbZ BK437 hb; replace BK442 := bbZ BK442 hb; replace BK447 := bbZ BK447 hb; replace HB := Aside0.mk (below_step HB.out hb); clear hb; refine hK.out _ _ ⟨(blk_cell BK442.out 0).trans rfl, (blk_cell BK442.out 1).trans rfl, (blk_cell BK442.out 2).trans rfl, (blk_cell BK442.out 3).trans rfl, (blk_cell BK447.out 0).trans rfl, (blk_cell BK447.out 1).trans rfl, (blk_cell BK447.out 2).trans rfl, (blk_cell BK447.out 3).trans rfl⟩ (fun hHeld => ?_); clear hK K; refine normA_ (some 23) ?_
    refine pureA_ (i := 6) (N := some 24) #[Y,Y,Y,Y,Y,Y,Y,N,N,N,N,N,N,N,N] rfl rfl (any_of HT_.out (by kernel_rfl)) ?_
    refine pureA_ (i := 7) (N := some 25) #[Y,Y,Y,Y,Y,Y,Y,Y,N,N,N,N,N,N,N] rfl rfl (any_of HT_.out (by kernel_rfl)) ?_
    refine pure_ (i := 8) (N := some 26) (v := undef) (a' := ?_) #[Y,Y,Y,Y,Y,Y,Y,Y,Y,N,N,N,N,N,N] rfl rfl (any_of HT_.out (by kernel_rfl)) (fun _ _ _ h => h) (Or.inr ⟨by rfl, rfl⟩) ?_ ?_; rotate_left
    ·simp only [Act.put, sA, sB, sC, i64_w, i32_w]
     rfl
    refine pure_ (i := 9) (N := some 27) (v := undef) (a' := ?_) #[Y,Y,Y,Y,Y,Y,Y,Y,Y,Y,N,N,N,N,N] rfl rfl (any_of HT_.out (by kernel_rfl)) (fun _ _ _ h => h) (Or.inr ⟨by rfl, rfl⟩) ?_ ?_; rotate_left
    ·simp only [Act.put, sA, sB, sC, i64_w, i32_w]
     rfl
    refine pure_ (i := 10) (N := some 28) (v := undef) (a' := ?_) #[Y,Y,Y,Y,Y,Y,Y,Y,Y,Y,Y,N,N,N,N] rfl rfl (any_of HT_.out (by kernel_rfl)) (fun _ _ _ h => h) (Or.inr ⟨by rfl, rfl⟩) ?_ ?_; rotate_left
    ·simp only [Act.put, sA, sB, sC, i64_w, i32_w]
     rfl
    refine pure_ (i := 11) (N := some 29) (v := undef) (a' := ?_) #[Y,Y,Y,Y,Y,Y,Y,Y,Y,Y,Y,Y,N,N,N] rfl rfl (any_of HT_.out (by kernel_rfl)) (fun _ _ _ h => h) (Or.inr ⟨by rfl, rfl⟩) ?_ ?_; rotate_left
    ·simp only [Act.put, sA, sB, sC, i64_w, i32_w]
     rfl
    refine pure_ (i := 12) (N := some 30) (v := undef) (a' := ?_) #[Y,Y,Y,Y,Y,Y,Y,Y,Y,Y,Y,Y,Y,N,N] rfl rfl (any_of HT_.out (by kernel_rfl)) (fun _ _ _ h => h) (Or.inr ⟨by rfl, rfl⟩) ?_ ?_; rotate_left
    ·simp only [Act.put, sA, sB, sC, i64_w, i32_w]
     rfl
    refine pure_ (i := 13) (N := some 31) (v := undef) (a' := ?_) #[Y,Y,Y,Y,Y,Y,Y,Y,Y,Y,Y,Y,Y,Y,N] rfl rfl (any_of HT_.out (by kernel_rfl)) (fun _ _ _ h => h) (Or.inr ⟨by rfl, rfl⟩) ?_ ?_; rotate_left
    ·simp only [Act.put, sA, sB, sC, i64_w, i32_w]
     rfl
    refine pureA_ (i := 14) (N := some 32) #[Y,Y,Y,Y,Y,Y,Y,Y,Y,Y,Y,Y,Y,Y,Y] rfl rfl (any_of HT_.out (by kernel_rfl)) ?_
    refine done_ (done_of HT_.out (by kernel_rfl)) ?_
    try go_wp2
    go_meet
    case rel => exact ⟨_, (false), (by first | rfl | (simp; done) | (simp [*]; done)), H', ⟨by first | omega | exact Nat.le_refl _⟩, ⟨by (with_reducible repeat first | apply blk_drewN | apply blk_drew | apply blk_alloc); exact BK436.out⟩, ⟨by (with_reducible repeat first | apply blk_drewN | apply blk_drew | apply blk_alloc); exact BK437.out⟩, ⟨by (with_reducible repeat first | apply blk_drewN | apply blk_drew | apply blk_alloc); exact BK442.out⟩, ⟨by (with_reducible repeat first | apply blk_drewN | apply blk_drew | apply blk_alloc); exact BK447.out⟩, ⟨by repeat (first | (with_reducible first | exact HB.out | apply below_alloc | apply pw_below_drewN | apply below_drew1 | refine below_set ?_ (Aside0.out (by assumption))) | exact HB.out)⟩⟩
  case rest =>
   clear HC54
   try clear c2
   try clear p2
   try clear c4
   try clear c5
   try clear c6
   try clear c7
   try clear c7b0
   try clear c7b1
   try clear c7b2
   try clear c22
   try clear c45
   try clear c48
   try clear c49
   try clear c57
   try clear c61
   try clear c62
   try clear c67
   try clear c68
   try clear c69
   try clear c77
   try clear c77b0
   try clear c77b1
   try clear c77b2
   try clear hcz52_0
   try clear hcz52_1
   try clear hcz52_2
   try clear hcz58_0
   try clear hcz58_1
   try clear hcz58_2
   try clear hcz63_0
   try clear hcz63_1
   try clear hcz63_2
   try clear hcz63_3
   try clear hcz64_0
   try clear hcz64_1
   try clear hcz64_2
   try clear hcz70_0
   try clear hcz70_1
   try clear hcz70_2
   try clear hcz70_3
   try clear hfz52_0
   try clear hfz52_1
   try clear hfz52_2
   try clear hfz58_0
   try clear hfz58_1
   try clear hfz58_2
   try clear hfz63_0
   try clear hfz63_1
   try clear hfz63_2
   try clear hfz63_3
   try clear hfz64_0
   try clear hfz64_1
   try clear hfz64_2
   try clear hfz70_0
   try clear hfz70_1
   try clear hfz70_2
   try clear hfz70_3
   obtain ⟨kq, x32_53, rfl, HA, HJ53, BK436, BK437, BK442, BK447, HB⟩ := hcut
   cases kq with
   | zero => exact absurd HA.out (by simp [sawtoothref02_Cmp.j0])
   | succ kj53 =>
    have H := HA.out; clear HA; simp only [sawtoothref02_Cmp.j0] at H
    by_cases c88 : x32_53 = true
    ·subst c88
     have H1 : (some 1) = some r := by rw [if_pos rfl] at H; exact H
     clear H; have H := H1; clear H1; obtain rfl := Option.some.inj H
     go_wp2
     go_ret
     exact ⟨by first | rfl | (simp [errW_none, errW_some] <;> rfl) | (simp [*, errW_none, errW_some] <;> rfl), by repeat (first | (with_reducible first | exact HB.out | apply below_alloc | apply pw_below_drewN | apply below_drew1 | refine below_set ?_ (Aside0.out (by assumption))) | exact HB.out)⟩
    ·replace c88 := Bool.eq_false_iff.mpr c88
     subst c88
     have H1 : ((sawtoothref02_less.f t438 t439 t440 t441 t443 t444 t445 t446).bind fun t455 => ((sawtoothref02_less.f t443 t444 t445 t446 t438 t439 t440 t441).bind fun t456 => (if (t455 != t456) = true then (some (-1)) else (some 0)))) = some r := by rw [if_neg (show ¬ (false = true) by decide)] at H; exact H
     clear H; have H := H1; clear H1; replace H := Option.bind_eq_some_iff.mp H; obtain ⟨t455, A890, H⟩ := H; replace H : ((sawtoothref02_less.f t443 t444 t445 t446 t438 t439 t440 t441).bind fun t456 => (if (t455 != t456) = true then (some (-1)) else (some 0))) = some r := H; have A89 := Aside0.mk A890; clear A890; replace H := Option.bind_eq_some_iff.mp H; obtain ⟨t456, A900, H⟩ := H; replace H : (if (t455 != t456) = true then (some (-1)) else (some 0)) = some r := H; have A90 := Aside0.mk A900; clear A900
     by_cases c91 : (t455 != t456) = true
     ·rw [if_pos c91] at H
      have c91b0 : (t455 != t456) = true := c91
      (try (have c91b1 : decide (t455 = t456) = false := by simpa using c91))
      (try (have c91b2 : (t455 == t456) = false := by simpa using c91))
      (try (have c91b3 : ¬ (t455 = t456) := by simpa using c91))
      clear c91; obtain rfl := Option.some.inj H
      try go_wp2
      replace BK436 := Aside0.mk (blk_drew BK436.out); replace BK437 := Aside0.mk (blk_drew BK437.out); replace BK442 := Aside0.mk (blk_drew BK442.out); replace BK447 := Aside0.mk (blk_drew BK447.out); replace HB := Aside0.mk (below_drew1 HB.out); refine start_ (n := 7) (S := fun w' => w'.cell? ⟨gb442, 0, none⟩ = some (.int .u64 t438) ∧ w'.cell? ⟨gb442, 1, none⟩ = some (.int .u64 t439) ∧ w'.cell? ⟨gb442, 2, none⟩ = some (.int .u64 t440) ∧ w'.cell? ⟨gb442, 3, none⟩ = some (.int .u64 t441) ∧ w'.cell? ⟨gb447, 0, none⟩ = some (.int .u64 t443) ∧ w'.cell? ⟨gb447, 1, none⟩ = some (.int .u64 t444) ∧ w'.cell? ⟨gb447, 2, none⟩ = some (.int .u64 t445) ∧ w'.cell? ⟨gb447, 3, none⟩ = some (.int .u64 t446)) (ds := []) #[N,N,N,N,N,N,N] (by kernel_rfl) rfl rfl ⟨(blk_cell BK442.out 0).trans rfl, (blk_cell BK442.out 1).trans rfl, (blk_cell BK442.out 2).trans rfl, (blk_cell BK442.out 3).trans rfl, (blk_cell BK447.out 0).trans rfl, (blk_cell BK447.out 1).trans rfl, (blk_cell BK447.out 2).trans rfl, (blk_cell BK447.out 3).trans rfl⟩ (fun hHeld => ?_)
      generalize wc.drew = w92 at BK436 BK437 BK442 BK447 HB hHeld ⊢
      refine take_ (i := 0) (N := some 33) (v := ?_) (a' := ?_) #[Y,N,N,N,N,N,N] rfl rfl (by kernel_rfl) (fun _ _ _ h => h) (Or.inl ⟨by rfl, ?_⟩) hHeld ?_ ?_; rotate_left
      ·rintro w' ⟨s0, s1, s2, s3, s4, s5, s6, s7⟩; go_simp
       with_reducible rfl
      rotate_left
      ·simp only [Act.put, sA, sB, sC, i64_w, i32_w]
       rfl
      refine take_ (i := 1) (N := some 34) (v := ?_) (a' := ?_) #[Y,Y,N,N,N,N,N] rfl rfl (by kernel_rfl) (fun _ _ _ h => h) (Or.inl ⟨by rfl, ?_⟩) hHeld ?_ ?_; rotate_left
      ·rintro w' ⟨s0, s1, s2, s3, s4, s5, s6, s7⟩; go_simp
       with_reducible rfl
      rotate_left
      ·simp only [Act.put, sA, sB, sC, i64_w, i32_w]
       rfl
      refine take_ (i := 3) (N := some 36) (v := ?_) (a' := ?_) #[Y,Y,N,Y,N,N,N] rfl rfl (by kernel_rfl) (fun _ _ _ h => h) (Or.inl ⟨by rfl, ?_⟩) hHeld ?_ ?_; rotate_left
      ·rintro w' ⟨s0, s1, s2, s3, s4, s5, s6, s7⟩; go_simp
       with_reducible rfl
      rotate_left
      ·simp only [Act.put, sA, sB, sC, i64_w, i32_w]
       rfl
      refine take_ (i := 4) (N := some 37) (v := ?_) (a' := ?_) #[Y,Y,N,Y,Y,N,N] rfl rfl (by kernel_rfl) (fun _ _ _ h => h) (Or.inl ⟨by rfl, ?_⟩) hHeld ?_ ?_; rotate_left
      ·rintro w' ⟨s0, s1, s2, s3, s4, s5, s6, s7⟩; go_simp
       with_reducible rfl
      rotate_left
      ·simp only [Act.put, sA, sB, sC, i64_w, i32_w]
       rfl
      refine one_ (i := 2) (N := some 35) #[Y,Y,Y,Y,Y,N,N] rfl rfl (by kernel_rfl) (by decide) (fun K hK => ?_); refine goesA_ Tryd.func49 rfl #[.agg #[.int .u64 t438, .int .u64 t439, .int .u64 t440, .int .u64 t441], .agg #[.int .u64 t443, .int .u64 t444, .int .u64 t445, .int .u64 t446]] (by rfl) rfl rfl ?_
      with_reducible refine (sawtoothref02_less.calls t438 t439 t440 t441 t443 t444 t445 t446 t455 _ A89.out).mono ?_
      rintro e w93 ⟨rfl, hb⟩; refine ⟨_, rfl, ?_⟩; replace BK436 := bbZ BK436 hb; replace BK437 := bbZ BK437 hb; replace BK442 := bbZ BK442 hb; replace BK447 := bbZ BK447 hb; replace HB := Aside0.mk (below_step HB.out hb); clear hb; refine hK.out _ _ ⟨(blk_cell BK442.out 0).trans rfl, (blk_cell BK442.out 1).trans rfl, (blk_cell BK442.out 2).trans rfl, (blk_cell BK442.out 3).trans rfl, (blk_cell BK447.out 0).trans rfl, (blk_cell BK447.out 1).trans rfl, (blk_cell BK447.out 2).trans rfl, (blk_cell BK447.out 3).trans rfl⟩ (fun hHeld => ?_); clear hK K; refine normA_ (some 35) ?_
      refine one_ (i := 5) (N := some 38) #[Y,Y,Y,Y,Y,Y,N] rfl rfl (by kernel_rfl) (by decide) (fun K hK => ?_); refine goesA_ Tryd.func49 rfl #[.agg #[.int .u64 t443, .int .u64 t444, .int .u64 t445, .int .u64 t446], .agg #[.int .u64 t438, .int .u64 t439, .int .u64 t440, .int .u64 t441]] (by rfl) rfl rfl ?_
      with_reducible refine (sawtoothref02_less.calls t443 t444 t445 t446 t438 t439 t440 t441 t456 _ A90.out).mono ?_
      rintro e w94 ⟨rfl, hb⟩; refine ⟨_, rfl, ?_⟩; replace BK436 := bbZ BK436 hb; replace BK437 := bbZ BK437 hb; replace BK442 := bbZ BK442 hb; replace BK447 := bbZ BK447 hb; replace HB := Aside0.mk (below_step HB.out hb); clear hb; refine hK.out _ _ ⟨(blk_cell BK442.out 0).trans rfl, (blk_cell BK442.out 1).trans rfl, (blk_cell BK442.out 2).trans rfl, (blk_cell BK442.out 3).trans rfl, (blk_cell BK447.out 0).trans rfl, (blk_cell BK447.out 1).trans rfl, (blk_cell BK447.out 2).trans rfl, (blk_cell BK447.out 3).trans rfl⟩ (fun hHeld => ?_); clear hK K; refine normA_ (some 38) ?_
      refine pureA_ (i := 6) (N := some 39) #[Y,Y,Y,Y,Y,Y,Y] rfl rfl (by kernel_rfl) ?_
      refine done_ (by kernel_rfl) ?_
      try go_wp2
      go_ret
      exact ⟨by first | rfl | (simp [errW_none, errW_some] <;> rfl) | (simp [*, errW_none, errW_some] <;> rfl), by repeat (first | (with_reducible first | exact HB.out | apply below_alloc | apply pw_below_drewN | apply below_drew1 | refine below_set ?_ (Aside0.out (by assumption))) | exact HB.out)⟩
     ·rw [if_neg c91] at H
      have c91b0 : (t455 != t456) = false := by simpa using c91
      (try (have c91b1 : decide (t455 = t456) = true := by simpa using c91))
      (try (have c91b2 : (t455 == t456) = true := by simpa using c91))
      clear c91; obtain rfl := Option.some.inj H
      try go_wp2
      replace BK436 := Aside0.mk (blk_drew BK436.out); replace BK437 := Aside0.mk (blk_drew BK437.out); replace BK442 := Aside0.mk (blk_drew BK442.out); replace BK447 := Aside0.mk (blk_drew BK447.out); replace HB := Aside0.mk (below_drew1 HB.out); refine start_ (n := 7) (S := fun w' => w'.cell? ⟨gb442, 0, none⟩ = some (.int .u64 t438) ∧ w'.cell? ⟨gb442, 1, none⟩ = some (.int .u64 t439) ∧ w'.cell? ⟨gb442, 2, none⟩ = some (.int .u64 t440) ∧ w'.cell? ⟨gb442, 3, none⟩ = some (.int .u64 t441) ∧ w'.cell? ⟨gb447, 0, none⟩ = some (.int .u64 t443) ∧ w'.cell? ⟨gb447, 1, none⟩ = some (.int .u64 t444) ∧ w'.cell? ⟨gb447, 2, none⟩ = some (.int .u64 t445) ∧ w'.cell? ⟨gb447, 3, none⟩ = some (.int .u64 t446)) (ds := []) #[N,N,N,N,N,N,N] (by kernel_rfl) rfl rfl ⟨(blk_cell BK442.out 0).trans rfl, (blk_cell BK442.out 1).trans rfl, (blk_cell BK442.out 2).trans rfl, (blk_cell BK442.out 3).trans rfl, (blk_cell BK447.out 0).trans rfl, (blk_cell BK447.out 1).trans rfl, (blk_cell BK447.out 2).trans rfl, (blk_cell BK447.out 3).trans rfl⟩ (fun hHeld => ?_)
      generalize wc.drew = w95 at BK436 BK437 BK442 BK447 HB hHeld ⊢
      refine take_ (i := 0) (N := some 33) (v := ?_) (a' := ?_) #[Y,N,N,N,N,N,N] rfl rfl (by kernel_rfl) (fun _ _ _ h => h) (Or.inl ⟨by rfl, ?_⟩) hHeld ?_ ?_; rotate_left
      ·rintro w' ⟨s0, s1, s2, s3, s4, s5, s6, s7⟩; go_simp
       with_reducible rfl
      rotate_left
      ·simp only [Act.put, sA, sB, sC, i64_w, i32_w]
       rfl
      refine take_ (i := 1) (N := some 34) (v := ?_) (a' := ?_) #[Y,Y,N,N,N,N,N] rfl rfl (by kernel_rfl) (fun _ _ _ h => h) (Or.inl ⟨by rfl, ?_⟩) hHeld ?_ ?_; rotate_left
      ·rintro w' ⟨s0, s1, s2, s3, s4, s5, s6, s7⟩; go_simp
       with_reducible rfl
      rotate_left
      ·simp only [Act.put, sA, sB, sC, i64_w, i32_w]
       rfl
      refine take_ (i := 3) (N := some 36) (v := ?_) (a' := ?_) #[Y,Y,N,Y,N,N,N] rfl rfl (by kernel_rfl) (fun _ _ _ h => h) (Or.inl ⟨by rfl, ?_⟩) hHeld ?_ ?_; rotate_left
      ·rintro w' ⟨s0, s1, s2, s3, s4, s5, s6, s7⟩; go_simp
       with_reducible rfl
      rotate_left
      ·simp only [Act.put, sA, sB, sC, i64_w, i32_w]
       rfl
      refine take_ (i := 4) (N := some 37) (v := ?_) (a' := ?_) #[Y,Y,N,Y,Y,N,N] rfl rfl (by kernel_rfl) (fun _ _ _ h => h) (Or.inl ⟨by rfl, ?_⟩) hHeld ?_ ?_; rotate_left
      ·rintro w' ⟨s0, s1, s2, s3, s4, s5, s6, s7⟩; go_simp
       with_reducible rfl
      rotate_left
      ·simp only [Act.put, sA, sB, sC, i64_w, i32_w]
       rfl
      refine one_ (i := 2) (N := some 35) #[Y,Y,Y,Y,Y,N,N] rfl rfl (by kernel_rfl) (by decide) (fun K hK => ?_); refine goesA_ Tryd.func49 rfl #[.agg #[.int .u64 t438, .int .u64 t439, .int .u64 t440, .int .u64 t441], .agg #[.int .u64 t443, .int .u64 t444, .int .u64 t445, .int .u64 t446]] (by rfl) rfl rfl ?_
      with_reducible refine (sawtoothref02_less.calls t438 t439 t440 t441 t443 t444 t445 t446 t455 _ A89.out).mono ?_
      rintro e w96 ⟨rfl, hb⟩; refine ⟨_, rfl, ?_⟩; replace BK436 := bbZ BK436 hb; replace BK437 := bbZ BK437 hb; replace BK442 := bbZ BK442 hb; replace BK447 := bbZ BK447 hb; replace HB := Aside0.mk (below_step HB.out hb); clear hb; refine hK.out _ _ ⟨(blk_cell BK442.out 0).trans rfl, (blk_cell BK442.out 1).trans rfl, (blk_cell BK442.out 2).trans rfl, (blk_cell BK442.out 3).trans rfl, (blk_cell BK447.out 0).trans rfl, (blk_cell BK447.out 1).trans rfl, (blk_cell BK447.out 2).trans rfl, (blk_cell BK447.out 3).trans rfl⟩ (fun hHeld => ?_); clear hK K; refine normA_ (some 35) ?_
      refine one_ (i := 5) (N := some 38) #[Y,Y,Y,Y,Y,Y,N] rfl rfl (by kernel_rfl) (by decide) (fun K hK => ?_); refine goesA_ Tryd.func49 rfl #[.agg #[.int .u64 t443, .int .u64 t444, .int .u64 t445, .int .u64 t446], .agg #[.int .u64 t438, .int .u64 t439, .int .u64 t440, .int .u64 t441]] (by rfl) rfl rfl ?_
      with_reducible refine (sawtoothref02_less.calls t443 t444 t445 t446 t438 t439 t440 t441 t456 _ A90.out).mono ?_
      rintro e w97 ⟨rfl, hb⟩; refine ⟨_, rfl, ?_⟩; replace BK436 := bbZ BK436 hb; replace BK437 := bbZ BK437 hb; replace BK442 := bbZ BK442 hb; replace BK447 := bbZ BK447 hb; replace HB := Aside0.mk (below_step HB.out hb); clear hb; refine hK.out _ _ ⟨(blk_cell BK442.out 0).trans rfl, (blk_cell BK442.out 1).trans rfl, (blk_cell BK442.out 2).trans rfl, (blk_cell BK442.out 3).trans rfl, (blk_cell BK447.out 0).trans rfl, (blk_cell BK447.out 1).trans rfl, (blk_cell BK447.out 2).trans rfl, (blk_cell BK447.out 3).trans rfl⟩ (fun hHeld => ?_); clear hK K; refine normA_ (some 38) ?_
      refine pureA_ (i := 6) (N := some 39) #[Y,Y,Y,Y,Y,Y,Y] rfl rfl (by kernel_rfl) ?_
      refine done_ (by kernel_rfl) ?_
      try go_wp2
      go_ret
      exact ⟨by first | rfl | (simp [errW_none, errW_some] <;> rfl) | (simp [*, errW_none, errW_some] <;> rfl), by repeat (first | (with_reducible first | exact HB.out | apply below_alloc | apply pw_below_drewN | apply below_drew1 | refine below_set ?_ (Aside0.out (by assumption))) | exact HB.out)⟩

end Go.Proofs.YtgakpcfmgcpeaaaDoor.Px
