/- Printed by px.py, over the kit's print. Conditions: none beside the theorems' own. -/
import Derived.Test.YtceiakiihkaamaaDoorPx0
import Derived.Test.YtceiakiihkaamaaDoorPx31
import Derived.Test.YtceiakiihkaamaaDoorSpec
namespace Go.Proofs.YtceiakiihkaamaaDoor.Px
open Go.RowKit Go.Proofs.YtceiakiihkaamaaDoorW.PrintWords Go.Proofs.YtceiakiihkaamaaDoorW.PrintLast Go.Proofs.YtceiakiihkaamaaDoorW.PrintMore
attribute [local go_sem] max2_int min2_int max_two min_two max_three min_three max_four min_four
set_option linter.unusedVariables false
set_option linter.unusedSimpArgs false

/-! ### sawtoothref03_Square: function 65 -/
noncomputable def sawtoothref03_Square.f (a0 : Int) : Option (Bool × Int × Int) := (sawtoothref02_Scale.f false 0 a0 a0).bind fun bt351 => (some (bt351.1, bt351.2.1, bt351.2.2.1))
set_option maxHeartbeats 8000000 in
set_option maxRecDepth 100000 in
theorem sawtoothref03_Square.calls (a0 : Int) (r1 : Bool) (r2 : Int) (r3 : Int) (w : World) (h : sawtoothref03_Square.f a0 = some (r1, r2, r3)) :
  Calls Tryd.prog 65 #[.int .u64 a0] w fun e w' => e = .returned (.agg #[.bool r1, .int .u64 r2, .int .u64 r3]) ∧ Below w.heap.size w w' := by
 have hu35 := Tryd.underlying35; have HB := Aside0.mk (Below.refl w.heap.size w); have H : ((sawtoothref02_Scale.f false 0 a0 a0).bind fun bt351 => (some (bt351.1, bt351.2.1, bt351.2.2.1))) = some (r1, r2, r3) := h; clear h; replace H := Option.bind_eq_some_iff.mp H; obtain ⟨⟨t351, t352, t353, t354⟩, A20, H⟩ := H; replace H : (some (t351, t352, t353)) = some (r1, r2, r3) := H; have A2 := Aside0.mk A20; clear A20; simp only [Option.some.injEq, Prod.mk.injEq] at H; obtain ⟨rfl, rfl, rfl⟩ := H
 go_enter Tryd.func65, Tryd.ntmps65
 go_wp2_with (first | ((with_reducible refine gate_dst (N := 2) rfl ?_); refine box_event ?hg (N := 2) ?hd (cs := #[.bool false, .int .u64 0, .int .u64 0]) (t := 35) ?hr ?_; (case hd => rfl); (case hg => rfl); (case hr => first | (go_simp; done) | (go_simp; rfl)); intro gb350 hg w3 hbox hb; have BK350 := Aside0.mk (hbox); obtain ⟨GW350, nHB⟩ := geA hg hb; have GE350 := GW350; replace HB := nHB; clear nHB; clear hb hbox hg) | ((with_reducible refine gate_callee (f := 50) rfl ?_); refine goesLA_ (some 9) rfl rfl Tryd.func50 rfl #[.agg #[.bool false, .int .u64 0, .int .u64 a0], .int .u64 a0] rfl ?_; (with_reducible refine (sawtoothref02_Scale.calls false 0 a0 a0 t351 t352 t353 t354 _ A2.out).mono ?_); rintro e w4 ⟨rfl, hb⟩; refine ⟨_, rfl, ?_⟩; replace BK350 := bdZ BK350 hb; replace HB := stA hb; clear hb) | ((with_reducible refine gate_dst (N := 3) rfl ?_); refine box_event ?hg (N := 3) ?hd (cs := #[.bool false, .int .u64 0, .int .u64 0]) (t := 35) ?hr ?_; (case hd => rfl); (case hg => rfl); (case hr => first | (go_simp; done) | (go_simp; rfl)); intro gb355 hg w5 hbox hb; have BK355 := Aside0.mk (hbox); obtain ⟨GW355, nHB⟩ := geA hg hb; have GE355 := GW355; obtain ⟨NB350_355, NB355_350, nBK⟩ := nbA BK350 hg hb; replace BK350 := nBK; clear nBK; replace HB := nHB; clear nHB; clear hb hbox hg; have hnb6 := NB355_350.out; have hnc6 := NB350_355.out; have hcz7_0 := czZ BK355 0 (.bool false); have hcz7_1 := czZ BK355 1 (.int .u64 0); have hcz7_2 := czZ BK355 2 (.int .u64 0); have hfz7_0 := blk_frozen BK355.out 0; have hfz7_1 := blk_frozen BK355.out 1; have hfz7_2 := blk_frozen BK355.out 2; have hcz8_0 := czZ BK350 0 (.bool false); have hcz8_1 := czZ BK350 1 (.int .u64 0); have hcz8_2 := czZ BK350 2 (.int .u64 0); have hfz8_0 := blk_frozen BK350.out 0; have hfz8_1 := blk_frozen BK350.out 1; have hfz8_2 := blk_frozen BK350.out 2))
 refine bodyPost_ret (results_cell_row rfl _ _ gb350 35 #[.bool t351, .int .u64 t352, .int .u64 t353] (0, 0) _ rfl (by (with_reducible repeat first | apply blk_drewN | apply blk_drew | apply blk_alloc); refine blk_put (cs := #[.bool t351, .int .u64 t352, .int .u64 0]) ?_ 2 _ rfl; (with_reducible repeat first | apply blk_drewN | apply blk_drew | apply blk_alloc); refine blk_put (cs := #[.bool t351, .int .u64 0, .int .u64 0]) ?_ 1 _ rfl; (with_reducible repeat first | apply blk_drewN | apply blk_drew | apply blk_alloc); refine blk_put (cs := #[.bool false, .int .u64 0, .int .u64 0]) ?_ 0 _ rfl; (with_reducible repeat first | apply blk_drewN | apply blk_drew | apply blk_alloc); refine blk_far ?_ NB350_355.out _; (with_reducible repeat first | apply blk_drewN | apply blk_drew | apply blk_alloc); refine blk_far ?_ NB350_355.out _; (with_reducible repeat first | apply blk_drewN | apply blk_drew | apply blk_alloc); refine blk_far ?_ NB350_355.out _; (with_reducible repeat first | apply blk_drewN | apply blk_drew | apply blk_alloc); exact BK350.out) Tryd.underlying35 rfl (by kernel_rfl)) rfl ?_; exact ⟨by first | rfl | (simp [errW_none, errW_some] <;> rfl) | (simp [*, errW_none, errW_some] <;> rfl), by repeat (first | (with_reducible first | exact HB.out | apply below_alloc | apply pw_below_drewN | apply below_drew1 | refine below_set ?_ (Aside0.out (by assumption))) | exact HB.out)⟩

/-! ### sawtoothref03_Cube: function 49 -/
noncomputable def sawtoothref03_Cube.f (a0 : Int) : Option (Bool × Int × Int × Int) := (sawtoothref03_Square.f a0).bind fun bt357 => ((sawtoothref02_Scale.f bt357.1 bt357.2.1 bt357.2.2 a0).bind fun bt360 => (some (bt360.1, bt360.2.1, bt360.2.2.1, bt360.2.2.2)))
set_option maxHeartbeats 8000000 in
set_option maxRecDepth 100000 in
theorem sawtoothref03_Cube.calls (a0 : Int) (r1 : Bool) (r2 : Int) (r3 : Int) (r4 : Int) (w : World) (h : sawtoothref03_Cube.f a0 = some (r1, r2, r3, r4)) :
  Calls Tryd.prog 49 #[.int .u64 a0] w fun e w' => e = .returned (.tuple #[.agg #[.bool r1, .int .u64 r2, .int .u64 r3], .int .i64 r4]) ∧ Below w.heap.size w w' := by
 have hu35 := Tryd.underlying35; have HB := Aside0.mk (Below.refl w.heap.size w); have H : ((sawtoothref03_Square.f a0).bind fun bt357 => ((sawtoothref02_Scale.f bt357.1 bt357.2.1 bt357.2.2 a0).bind fun bt360 => (some (bt360.1, bt360.2.1, bt360.2.2.1, bt360.2.2.2)))) = some (r1, r2, r3, r4) := h; clear h; replace H := Option.bind_eq_some_iff.mp H; obtain ⟨⟨t357, t358, t359⟩, A20, H⟩ := H; replace H : ((sawtoothref02_Scale.f t357 t358 t359 a0).bind fun bt360 => (some (bt360.1, bt360.2.1, bt360.2.2.1, bt360.2.2.2))) = some (r1, r2, r3, r4) := H; have A2 := Aside0.mk A20; clear A20; replace H := Option.bind_eq_some_iff.mp H; obtain ⟨⟨t360, t361, t362, t363⟩, A30, H⟩ := H; replace H : (some (t360, t361, t362, t363)) = some (r1, r2, r3, r4) := H; have A3 := Aside0.mk A30; clear A30; simp only [Option.some.injEq, Prod.mk.injEq] at H; obtain ⟨rfl, rfl, rfl, rfl⟩ := H
 go_enter Tryd.func49, Tryd.ntmps49
 go_wp2_with (first | ((with_reducible refine gate_dst (N := 2) rfl ?_); refine box_event ?hg (N := 2) ?hd (cs := #[.bool false, .int .u64 0, .int .u64 0]) (t := 35) ?hr ?_; (case hd => rfl); (case hg => rfl); (case hr => first | (go_simp; done) | (go_simp; rfl)); intro gb356 hg w4 hbox hb; have BK356 := Aside0.mk (hbox); obtain ⟨GW356, nHB⟩ := geA hg hb; have GE356 := GW356; replace HB := nHB; clear nHB; clear hb hbox hg) | ((with_reducible refine gate_callee (f := 65) rfl ?_); refine goesLA_ (some 5) rfl rfl Tryd.func65 rfl #[.int .u64 a0] rfl ?_; (with_reducible refine (sawtoothref03_Square.calls a0 t357 t358 t359 _ A2.out).mono ?_); rintro e w5 ⟨rfl, hb⟩; refine ⟨_, rfl, ?_⟩; replace BK356 := bdZ BK356 hb; replace HB := stA hb; clear hb) | ((with_reducible refine gate_callee (f := 50) rfl ?_); refine goesLA_ (some 7) rfl rfl Tryd.func50 rfl #[.agg #[.bool t357, .int .u64 t358, .int .u64 t359], .int .u64 a0] rfl ?_; (with_reducible refine (sawtoothref02_Scale.calls t357 t358 t359 a0 t360 t361 t362 t363 _ A3.out).mono ?_); rintro e w6 ⟨rfl, hb⟩; refine ⟨_, rfl, ?_⟩; replace BK356 := bdZ BK356 hb; replace HB := stA hb; clear hb; have hcz7_0 := czZ BK356 0 (.bool false); have hcz7_1 := czZ BK356 1 (.int .u64 0); have hcz7_2 := czZ BK356 2 (.int .u64 0); have hfz7_0 := blk_frozen BK356.out 0; have hfz7_1 := blk_frozen BK356.out 1; have hfz7_2 := blk_frozen BK356.out 2))
 refine bodyPost_ret (results_ct rfl _ _ gb356 35 #[.bool t360, .int .u64 t361, .int .u64 t362] (0, 0) _ rfl (by (with_reducible repeat first | apply blk_drewN | apply blk_drew | apply blk_alloc); refine blk_put (cs := #[.bool t360, .int .u64 t361, .int .u64 0]) ?_ 2 _ rfl; (with_reducible repeat first | apply blk_drewN | apply blk_drew | apply blk_alloc); refine blk_put (cs := #[.bool t360, .int .u64 0, .int .u64 0]) ?_ 1 _ rfl; (with_reducible repeat first | apply blk_drewN | apply blk_drew | apply blk_alloc); refine blk_put (cs := #[.bool false, .int .u64 0, .int .u64 0]) ?_ 0 _ rfl; (with_reducible repeat first | apply blk_drewN | apply blk_drew | apply blk_alloc); exact BK356.out) Tryd.underlying35 rfl (by kernel_rfl)) rfl ?_; exact ⟨by first | rfl | (simp [errW_none, errW_some] <;> rfl) | (simp [*, errW_none, errW_some] <;> rfl), by repeat (first | (with_reducible first | exact HB.out | apply below_alloc | apply pw_below_drewN | apply below_drew1 | refine below_set ?_ GE356.out) | exact HB.out)⟩

/-! ### sawtoothref02_size: function 68 -/
noncomputable def sawtoothref02_size.f (a0 : Int) : Option (Int) := if a0 < 0 then (some (IntKind.u64.wrap ((IntKind.u64.wrap (wrap64 (-(wrap64 (a0 + 1))))) + 1))) else (some (IntKind.u64.wrap (a0)))
set_option maxHeartbeats 8000000 in
set_option maxRecDepth 100000 in
theorem sawtoothref02_size.calls (a0 : Int) (r : Int) (w : World) (h : sawtoothref02_size.f a0 = some r) :
  Calls Tryd.prog 68 #[.int .i64 a0] w fun e w' => e = .returned (.int .u64 r) ∧ Drawn0 w w' := by
 have H : (if a0 < 0 then (some (IntKind.u64.wrap ((IntKind.u64.wrap (wrap64 (-(wrap64 (a0 + 1))))) + 1))) else (some (IntKind.u64.wrap (a0)))) = some r := h; clear h
 by_cases c2 : a0 < 0
 ·rw [if_pos c2] at H
  have c2b0 : decide (a0 < 0) = true := decide_eq_true c2; clear c2; obtain rfl := Option.some.inj H
  go_enter Tryd.func68, Tryd.ntmps68
  go_wp2
  go_ret
  exact ⟨by first | rfl | (simp; done) | (simp [*]; done), by repeat (first | exact Drawn0.refl _ | apply Drawn0.step)⟩
 ·rw [if_neg c2] at H
  have c2b0 : decide (a0 < 0) = false := decide_eq_false c2; clear c2; obtain rfl := Option.some.inj H
  go_enter Tryd.func68, Tryd.ntmps68
  go_wp2
  go_ret
  exact ⟨by first | rfl | (simp; done) | (simp [*]; done), by repeat (first | exact Drawn0.refl _ | apply Drawn0.step)⟩

/-! ### sawtoothref02_Of: function 51 -/
noncomputable def sawtoothref02_Of.f (a0 : Int) : Option (Bool × Int × Int) := (sawtoothref02_size.f a0).bind fun t365 => (some (decide (a0 < 0), 0, t365))
set_option maxHeartbeats 8000000 in
set_option maxRecDepth 100000 in
theorem sawtoothref02_Of.calls (a0 : Int) (r1 : Bool) (r2 : Int) (r3 : Int) (w : World) (h : sawtoothref02_Of.f a0 = some (r1, r2, r3)) :
  Calls Tryd.prog 51 #[.int .i64 a0] w fun e w' => e = .returned (.agg #[.bool r1, .int .u64 r2, .int .u64 r3]) ∧ Below w.heap.size w w' := by
 have hu35 := Tryd.underlying35; have HB := Aside0.mk (Below.refl w.heap.size w); have H : ((sawtoothref02_size.f a0).bind fun t365 => (some (decide (a0 < 0), 0, t365))) = some (r1, r2, r3) := h; clear h; replace H := Option.bind_eq_some_iff.mp H; obtain ⟨t365, A20, H⟩ := H; replace H : (some (decide (a0 < 0), 0, t365)) = some (r1, r2, r3) := H; have A2 := Aside0.mk A20; clear A20; simp only [Option.some.injEq, Prod.mk.injEq] at H; obtain ⟨rfl, rfl, rfl⟩ := H
 go_enter Tryd.func51, Tryd.ntmps51
 go_wp2_with (first | ((with_reducible refine gate_dst (N := 2) rfl ?_); refine box_event ?hg (N := 2) ?hd (cs := #[.bool false, .int .u64 0, .int .u64 0]) (t := 35) ?hr ?_; (case hd => rfl); (case hg => rfl); (case hr => first | (go_simp; done) | (go_simp; rfl)); intro gb364 hg w3 hbox hb; have BK364 := Aside0.mk (hbox); obtain ⟨GW364, nHB⟩ := geA hg hb; have GE364 := GW364; replace HB := nHB; clear nHB; clear hb hbox hg) | ((with_reducible refine gate_callee (f := 68) rfl ?_); refine goesLA_ (some 6) rfl rfl Tryd.func68 rfl #[.int .i64 a0] rfl ?_; (with_reducible refine (sawtoothref02_size.calls a0 t365 _ A2.out).mono ?_); rintro e w' ⟨rfl, ⟨nd, rfl⟩⟩; refine ⟨_, rfl, ?_⟩; (try (rw [drewN_self w3]; generalize hq_ : World.drewN w3 _ = w3; have n0_ : Aside0 (w3.heap[gb364]? = some (.cells #[.bool false, .int .u64 0, .int .u64 0] 35 (0, 0))) := ⟨by rw [← hq_]; exact (by (with_reducible repeat first | apply blk_drewN | apply blk_drew | apply blk_alloc); exact BK364.out)⟩; have n1_ : Aside0 (Below w.heap.size w w3) := ⟨by rw [← hq_]; exact (by repeat (first | (with_reducible first | exact HB.out | apply below_alloc | apply pw_below_drewN | apply below_drew1 | refine below_set ?_ GE364.out) | exact HB.out))⟩; clear BK364 HB hq_; have BK364 := n0_; have HB := n1_; clear n0_ n1_)); have hcz4_0 := czZ BK364 0 (.bool false); have hcz4_1 := czZ BK364 1 (.int .u64 0); have hcz4_2 := czZ BK364 2 (.int .u64 0); have hfz4_0 := blk_frozen BK364.out 0; have hfz4_1 := blk_frozen BK364.out 1; have hfz4_2 := blk_frozen BK364.out 2))
 refine bodyPost_ret (results_cell_row rfl _ _ gb364 35 #[.bool (decide (a0 < 0)), .int .u64 0, .int .u64 t365] (0, 0) _ rfl (by (with_reducible repeat first | apply blk_drewN | apply blk_drew | apply blk_alloc); refine blk_put (cs := #[.bool (decide (a0 < 0)), .int .u64 0, .int .u64 0]) ?_ 2 _ rfl; (with_reducible repeat first | apply blk_drewN | apply blk_drew | apply blk_alloc); refine blk_put (cs := #[.bool (decide (a0 < 0)), .int .u64 0, .int .u64 0]) ?_ 1 _ rfl; (with_reducible repeat first | apply blk_drewN | apply blk_drew | apply blk_alloc); refine blk_put (cs := #[.bool false, .int .u64 0, .int .u64 0]) ?_ 0 _ rfl; (with_reducible repeat first | apply blk_drewN | apply blk_drew | apply blk_alloc); exact BK364.out) Tryd.underlying35 rfl (by kernel_rfl)) rfl ?_; exact ⟨by first | rfl | (simp [errW_none, errW_some] <;> rfl) | (simp [*, errW_none, errW_some] <;> rfl), by repeat (first | (with_reducible first | exact HB.out | apply below_alloc | apply pw_below_drewN | apply below_drew1 | refine below_set ?_ GE364.out) | exact HB.out)⟩

/-! ### sawtoothref02_OfS: a number: pure, behind function 51 -/
noncomputable def sawtoothref02_OfS.f (a : Int) : Option (Bool × Int × Int) := Sp.ofF a
section Ref02Of
open Go.Proofs.YtceiakiihkaamaaDoor.Sp
theorem sawtoothref02_size.eq {a : Int} (h : I a) : sawtoothref02_size.f a = some (a.natAbs : Int) := by
 unfold sawtoothref02_size.f
 have e1 : wrap64 (a + 1) = wrap64 (a + 1) := rfl
 by_cases ha : a < 0
 ·rw [if_pos ha, w64 (x := a + 1) (by omega), w64 (x := -(a + 1)) (by omega), u64w, u64w]; congr 1; omega
 ·rw [if_neg ha, u64w]; congr 1; omega
theorem sawtoothref02_Of.main {a : Int} (h : I a) : sawtoothref02_Of.f a = some (encN a, encH a, encL a) := by
 unfold sawtoothref02_Of.f
 rw [sawtoothref02_size.eq h]
 simp only [Option.bind_some]
 have e2 : encH a = 0 := by unfold encH; omega
 have e3 : encL a = (a.natAbs : Int) := by unfold encL; omega
 rw [e2, e3]; rfl
end Ref02Of
theorem sawtoothref02_OfS.calls (a0 : Int) (r1 : Bool) (r2 r3 : Int) (w : World) (h : sawtoothref02_OfS.f a0 = some (r1, r2, r3)) :
  Calls Tryd.prog 51 #[.int .i64 a0] w fun e w' => e = .returned (.agg #[.bool r1, .int .u64 r2, .int .u64 r3]) ∧ Below w.heap.size w w' := by
 obtain ⟨hc, h⟩ := Sp.need_some h; exact sawtoothref02_Of.calls a0 r1 r2 r3 w (by rw [sawtoothref02_Of.main hc]; exact h)

/-! ### sawtoothref02_below: function 69 -/
noncomputable def sawtoothref02_below.f (a0_0 : Bool) (a0_1 : Int) (a0_2 : Int) : Option (Bool) := if a0_0 = true then (if a0_1 > 0 then (some true) else (some (decide (a0_2 > 0)))) else (some false)
set_option maxHeartbeats 8000000 in
set_option maxRecDepth 100000 in
theorem sawtoothref02_below.calls (a0_0 : Bool) (a0_1 : Int) (a0_2 : Int) (r : Bool) (w : World) (h : sawtoothref02_below.f a0_0 a0_1 a0_2 = some r) :
  Calls Tryd.prog 69 #[.agg #[.bool a0_0, .int .u64 a0_1, .int .u64 a0_2]] w fun e w' => e = .returned (.bool r) ∧ Below w.heap.size w w' := by
 have hu35 := Tryd.underlying35; have HB := Aside0.mk (Below.refl w.heap.size w); have H : (if a0_0 = true then (if a0_1 > 0 then (some true) else (some (decide (a0_2 > 0)))) else (some false)) = some r := h; clear h
 by_cases c2 : a0_0 = true
 ·subst c2
  have H1 : (if a0_1 > 0 then (some true) else (some (decide (a0_2 > 0)))) = some r := by rw [if_pos rfl] at H; exact H
  clear H; have H := H1; clear H1
  by_cases c3 : a0_1 > 0
  ·rw [if_pos c3] at H
   have c3b0 : decide (0 < a0_1) = true := decide_eq_true c3; clear c3; obtain rfl := Option.some.inj H
   go_enter Tryd.func69, Tryd.ntmps69
   go_wp2_with (first | ((with_reducible refine gate_dst (N := 1) rfl ?_); refine box_event ?hg (N := 1) ?hd (cs := #[.bool true, .int .u64 a0_1, .int .u64 a0_2]) (t := 35) ?hr ?_; (case hd => rfl); (case hg => rfl); (case hr => first | (go_simp; done) | (go_simp; rfl)); intro gb366 hg w4 hbox hb; have BK366 := Aside0.mk (hbox); obtain ⟨GW366, nHB⟩ := geA hg hb; have GE366 := GW366; replace HB := nHB; clear nHB; clear hb hbox hg; have hcz5_0 := czZ BK366 0 (.bool true); have hcz5_1 := czZ BK366 1 (.int .u64 a0_1); have hcz5_2 := czZ BK366 2 (.int .u64 a0_2); have hfz5_0 := blk_frozen BK366.out 0; have hfz5_1 := blk_frozen BK366.out 1; have hfz5_2 := blk_frozen BK366.out 2))
   go_ret
   exact ⟨by first | rfl | (simp [errW_none, errW_some] <;> rfl) | (simp [*, errW_none, errW_some] <;> rfl), by repeat (first | (with_reducible first | exact HB.out | apply below_alloc | apply pw_below_drewN | apply below_drew1 | refine below_set ?_ GE366.out) | exact HB.out)⟩
  ·rw [if_neg c3] at H
   have c3b0 : decide (0 < a0_1) = false := decide_eq_false c3; clear c3; obtain rfl := Option.some.inj H
   go_enter Tryd.func69, Tryd.ntmps69
   go_wp2_with (first | ((with_reducible refine gate_dst (N := 1) rfl ?_); refine box_event ?hg (N := 1) ?hd (cs := #[.bool true, .int .u64 a0_1, .int .u64 a0_2]) (t := 35) ?hr ?_; (case hd => rfl); (case hg => rfl); (case hr => first | (go_simp; done) | (go_simp; rfl)); intro gb366 hg w6 hbox hb; have BK366 := Aside0.mk (hbox); obtain ⟨GW366, nHB⟩ := geA hg hb; have GE366 := GW366; replace HB := nHB; clear nHB; clear hb hbox hg; have hcz7_0 := czZ BK366 0 (.bool true); have hcz7_1 := czZ BK366 1 (.int .u64 a0_1); have hcz7_2 := czZ BK366 2 (.int .u64 a0_2); have hfz7_0 := blk_frozen BK366.out 0; have hfz7_1 := blk_frozen BK366.out 1; have hfz7_2 := blk_frozen BK366.out 2))
   go_ret
   exact ⟨by first | rfl | (simp [errW_none, errW_some] <;> rfl) | (simp [*, errW_none, errW_some] <;> rfl), by repeat (first | (with_reducible first | exact HB.out | apply below_alloc | apply pw_below_drewN | apply below_drew1 | refine below_set ?_ GE366.out) | exact HB.out)⟩
 ·replace c2 := Bool.eq_false_iff.mpr c2
  subst c2
  have H1 : (some false) = some r := by rw [if_neg (show ¬ (false = true) by decide)] at H; exact H
  clear H; have H := H1; clear H1; obtain rfl := Option.some.inj H
  go_enter Tryd.func69, Tryd.ntmps69
  go_wp2_with (first | ((with_reducible refine gate_dst (N := 1) rfl ?_); refine box_event ?hg (N := 1) ?hd (cs := #[.bool false, .int .u64 a0_1, .int .u64 a0_2]) (t := 35) ?hr ?_; (case hd => rfl); (case hg => rfl); (case hr => first | (go_simp; done) | (go_simp; rfl)); intro gb366 hg w8 hbox hb; have BK366 := Aside0.mk (hbox); obtain ⟨GW366, nHB⟩ := geA hg hb; have GE366 := GW366; replace HB := nHB; clear nHB; clear hb hbox hg; have hcz9_0 := czZ BK366 0 (.bool false); have hcz9_1 := czZ BK366 1 (.int .u64 a0_1); have hcz9_2 := czZ BK366 2 (.int .u64 a0_2); have hfz9_0 := blk_frozen BK366.out 0; have hfz9_1 := blk_frozen BK366.out 1; have hfz9_2 := blk_frozen BK366.out 2))
  go_ret
  exact ⟨by first | rfl | (simp [errW_none, errW_some] <;> rfl) | (simp [*, errW_none, errW_some] <;> rfl), by repeat (first | (with_reducible first | exact HB.out | apply below_alloc | apply pw_below_drewN | apply below_drew1 | refine below_set ?_ GE366.out) | exact HB.out)⟩

/-! ### sawtoothref02_belowS: is it below 0: pure, behind function 69 -/
noncomputable def sawtoothref02_belowS.f (n : Bool) (h l : Int) : Option Bool := Sp.need (Sp.U h ∧ Sp.U l) (some (decide (Sp.val n h l < 0)))
section Ref02Below
open Go.Proofs.YtceiakiihkaamaaDoor.Sp
theorem sawtoothref02_belowS.eq {n : Bool} {h l : Int} (h1 : U h) (h2 : U l) : sawtoothref02_belowS.f n h l = some (decide (val n h l < 0)) := need_pos ⟨h1, h2⟩
theorem sawtoothref02_below.main {n : Bool} {h l : Int} (h1 : U h) (h2 : U l) : sawtoothref02_below.f n h l = some (decide (val n h l < 0)) := by
 unfold sawtoothref02_below.f val
 cases n
 ·simp only [Bool.false_eq_true, if_false]; rw [decide_eq_false]; omega
 ·simp only [if_true]
  by_cases hh : h > 0
  ·rw [if_pos hh, decide_eq_true]; omega
  ·rw [if_neg hh]; congr 1; rw [decide_eq_decide]; omega
end Ref02Below
theorem sawtoothref02_belowS.calls (a0_0 : Bool) (a0_1 a0_2 : Int) (r : Bool) (w : World) (h : sawtoothref02_belowS.f a0_0 a0_1 a0_2 = some r) :
  Calls Tryd.prog 69 #[.agg #[.bool a0_0, .int .u64 a0_1, .int .u64 a0_2]] w fun e w' => e = .returned (.bool r) ∧ Below w.heap.size w w' := by
 obtain ⟨hc, h⟩ := Sp.need_some h; exact sawtoothref02_below.calls a0_0 a0_1 a0_2 r w (by rw [sawtoothref02_below.main hc.1 hc.2]; exact h)

/-! ### sawtoothref02_less: function 70 -/
noncomputable def sawtoothref02_less.f (a0 a1 a2 a3 b0 b1 b2 b3 : Int) : Option Bool :=
 if a3 = b3 then (if a2 = b2 then (if a1 = b1 then (if a0 = b0 then some false else some (decide (a0 < b0))) else some (decide (a1 < b1))) else some (decide (a2 < b2))) else some (decide (a3 < b3))
set_option maxHeartbeats 4000000 in
set_option maxRecDepth 100000 in
theorem sawtoothref02_less.calls (a0 a1 a2 a3 b0 b1 b2 b3 : Int) (r : Bool) (w : World) (h : sawtoothref02_less.f a0 a1 a2 a3 b0 b1 b2 b3 = some r) :
  Calls Tryd.prog 70 #[.agg #[.int .u64 a0, .int .u64 a1, .int .u64 a2, .int .u64 a3], .agg #[.int .u64 b0, .int .u64 b1, .int .u64 b2, .int .u64 b3]] w fun e w' => e = .returned (.bool r) ∧ Below w.heap.size w w' := by
 have hu69 := Tryd.underlying82; have HB := Aside0.mk (Below.refl w.heap.size w)
 unfold sawtoothref02_less.f at h
 by_cases c3 : a3 = b3
 rotate_left
 ·rw [if_neg c3] at h
  obtain rfl := Option.some.inj h; clear h
  have d3 : (a3 != b3) = true := by simp [c3]
  clear c3
  go_enter Tryd.func70, Tryd.ntmps70
  go_wp2_with (fail)
  refine wp_loop_rounds 1 ?_
  rw [rounds_succ]
  go_wp2_with (fail)
  go_quiet (fail)
  go_wp2_with (fail)
  go_quiet (fail)
  go_wp2_with (fail)
  go_ret
  exact ⟨rfl, by repeat (first | exact HB.out | apply below_alloc | apply pw_below_drewN)⟩
 rw [if_pos c3] at h
 subst c3
 by_cases c2 : a2 = b2
 rotate_left
 ·rw [if_neg c2] at h
  obtain rfl := Option.some.inj h; clear h
  have d2 : (a2 != b2) = true := by simp [c2]
  clear c2
  go_enter Tryd.func70, Tryd.ntmps70
  go_wp2_with (fail)
  refine wp_loop_rounds 2 ?_
  rw [rounds_succ]
  go_wp2_with (fail)
  go_quiet (fail)
  go_wp2_with (fail)
  rw [rounds_succ]
  go_wp2_with (fail)
  go_quiet (fail)
  go_wp2_with (fail)
  go_quiet (fail)
  go_wp2_with (fail)
  go_ret
  exact ⟨rfl, by repeat (first | exact HB.out | apply below_alloc | apply pw_below_drewN)⟩
 rw [if_pos c2] at h
 subst c2
 by_cases c1 : a1 = b1
 rotate_left
 ·rw [if_neg c1] at h
  obtain rfl := Option.some.inj h; clear h
  have d1 : (a1 != b1) = true := by simp [c1]
  clear c1
  go_enter Tryd.func70, Tryd.ntmps70
  go_wp2_with (fail)
  refine wp_loop_rounds 3 ?_
  rw [rounds_succ]
  go_wp2_with (fail)
  go_quiet (fail)
  go_wp2_with (fail)
  rw [rounds_succ]
  go_wp2_with (fail)
  go_quiet (fail)
  go_wp2_with (fail)
  rw [rounds_succ]
  go_wp2_with (fail)
  go_quiet (fail)
  go_wp2_with (fail)
  go_quiet (fail)
  go_wp2_with (fail)
  go_ret
  exact ⟨rfl, by repeat (first | exact HB.out | apply below_alloc | apply pw_below_drewN)⟩
 rw [if_pos c1] at h
 subst c1
 by_cases c0 : a0 = b0
 rotate_left
 ·rw [if_neg c0] at h
  obtain rfl := Option.some.inj h; clear h
  have d0 : (a0 != b0) = true := by simp [c0]
  clear c0
  go_enter Tryd.func70, Tryd.ntmps70
  go_wp2_with (fail)
  refine wp_loop_rounds 4 ?_
  rw [rounds_succ]
  go_wp2_with (fail)
  go_quiet (fail)
  go_wp2_with (fail)
  rw [rounds_succ]
  go_wp2_with (fail)
  go_quiet (fail)
  go_wp2_with (fail)
  rw [rounds_succ]
  go_wp2_with (fail)
  go_quiet (fail)
  go_wp2_with (fail)
  rw [rounds_succ]
  go_wp2_with (fail)
  go_quiet (fail)
  go_wp2_with (fail)
  go_quiet (fail)
  go_wp2_with (fail)
  go_ret
  exact ⟨rfl, by repeat (first | exact HB.out | apply below_alloc | apply pw_below_drewN)⟩
 rw [if_pos c0] at h
 subst c0
 obtain rfl := Option.some.inj h; clear h
 go_enter Tryd.func70, Tryd.ntmps70
 go_wp2_with (fail)
 refine wp_loop_rounds 5 ?_
 rw [rounds_succ]
 go_wp2_with (fail)
 go_quiet (fail)
 go_wp2_with (fail)
 rw [rounds_succ]
 go_wp2_with (fail)
 go_quiet (fail)
 go_wp2_with (fail)
 rw [rounds_succ]
 go_wp2_with (fail)
 go_quiet (fail)
 go_wp2_with (fail)
 rw [rounds_succ]
 go_wp2_with (fail)
 go_quiet (fail)
 go_wp2_with (fail)
 rw [rounds_succ]
 go_wp2_with (fail)
 go_ret
 exact ⟨rfl, by repeat (first | exact HB.out | apply below_alloc | apply pw_below_drewN)⟩
section Ref02Less
open Go.Proofs.YtceiakiihkaamaaDoor.Sp
theorem sawtoothref02_less.eq {h l i k : Int} (h1 : U h) (h2 : U l) (h3 : U i) (h4 : U k) : sawtoothref02_less.f (l % 4294967296) (l / 4294967296) (h % 4294967296) (h / 4294967296) (k % 4294967296) (k / 4294967296) (i % 4294967296) (i / 4294967296) = some (decide (h * 18446744073709551616 + l < i * 18446744073709551616 + k)) := by
 unfold sawtoothref02_less.f
 split
 ·split
  ·split
   ·split
    ·rw [decide_eq_false]; omega
    ·congr 1; rw [decide_eq_decide]; omega
   ·congr 1; rw [decide_eq_decide]; omega
  ·congr 1; rw [decide_eq_decide]; omega
 ·congr 1; rw [decide_eq_decide]; omega
end Ref02Less

end Go.Proofs.YtceiakiihkaamaaDoor.Px
