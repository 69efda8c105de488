/- Printed by px.py, over the kit's print. Conditions: none beside the theorems' own. -/
import Derived.Test.YtfahbgkoldoflaaGreatDoorPx0
namespace Go.Proofs.YtfahbgkoldoflaaGreatDoor.Px
open Go.RowKit Go.Proofs.YtfahbgkoldoflaaGreatDoorW.PrintWords Go.Proofs.YtfahbgkoldoflaaGreatDoorW.PrintLast Go.Proofs.YtfahbgkoldoflaaGreatDoorW.PrintMore
attribute [local go_sem] max2_int min2_int max_two min_two max_three min_three max_four min_four
set_option linter.unusedVariables false
set_option linter.unusedSimpArgs false

/-! ### round_Check: function 69 -/
noncomputable def round_Check.f (a0_0 : Int) (a0_1 : Int) : Option (Bool) := if a0_0 ≥ 0 then (some (decide (a0_1 ≥ 0))) else (some false)
set_option maxHeartbeats 8000000 in
set_option maxRecDepth 100000 in
theorem round_Check.calls (a0_0 : Int) (a0_1 : Int) (r : Bool) (w : World) (h : round_Check.f a0_0 a0_1 = some r) :
  Calls Tryz.prog 69 #[.agg #[.int .i64 a0_0, .int .i64 a0_1]] w fun e w' => e = .returned (.bool r) ∧ Below w.heap.size w w' := by
 have hu42 := Tryz.underlying42; have HB := Aside0.mk (Below.refl w.heap.size w); have H : (if a0_0 ≥ 0 then (some (decide (a0_1 ≥ 0))) else (some false)) = some r := h; clear h
 by_cases c2 : a0_0 ≥ 0
 ·rw [if_pos c2] at H
  have c2b0 : decide (0 ≤ a0_0) = true := decide_eq_true c2; clear c2; obtain rfl := Option.some.inj H
  go_enter Tryz.func69, Tryz.ntmps69
  go_wp2_with (first | ((with_reducible refine gate_dst (N := 1) rfl ?_); refine box_event ?hg (N := 1) ?hd (cs := #[.int .i64 a0_0, .int .i64 a0_1]) (t := 42) ?hr ?_; (case hd => rfl); (case hg => rfl); (case hr => first | (go_simp; done) | (go_simp; rfl)); intro gb326 hg w3 hbox hb; have BK326 := Aside0.mk (hbox); obtain ⟨GW326, nHB⟩ := geA hg hb; have GE326 := GW326; replace HB := nHB; clear nHB; clear hb hbox hg; have hcz4_0 := czZ BK326 0 (.int .i64 a0_0); have hcz4_1 := czZ BK326 1 (.int .i64 a0_1); have hfz4_0 := blk_frozen BK326.out 0; have hfz4_1 := blk_frozen BK326.out 1))
  go_ret
  exact ⟨by first | rfl | (simp [errW_none, errW_some] <;> rfl) | (simp [*, errW_none, errW_some] <;> rfl), by repeat (first | (with_reducible first | exact HB.out | apply below_alloc | apply pw_below_drewN | apply below_drew1 | refine below_set ?_ GE326.out) | exact HB.out)⟩
 ·rw [if_neg c2] at H
  have c2b0 : decide (0 ≤ a0_0) = false := decide_eq_false c2; clear c2; obtain rfl := Option.some.inj H
  go_enter Tryz.func69, Tryz.ntmps69
  go_wp2_with (first | ((with_reducible refine gate_dst (N := 1) rfl ?_); refine box_event ?hg (N := 1) ?hd (cs := #[.int .i64 a0_0, .int .i64 a0_1]) (t := 42) ?hr ?_; (case hd => rfl); (case hg => rfl); (case hr => first | (go_simp; done) | (go_simp; rfl)); intro gb326 hg w5 hbox hb; have BK326 := Aside0.mk (hbox); obtain ⟨GW326, nHB⟩ := geA hg hb; have GE326 := GW326; replace HB := nHB; clear nHB; clear hb hbox hg; have hcz6_0 := czZ BK326 0 (.int .i64 a0_0); have hcz6_1 := czZ BK326 1 (.int .i64 a0_1); have hfz6_0 := blk_frozen BK326.out 0; have hfz6_1 := blk_frozen BK326.out 1))
  go_ret
  exact ⟨by first | rfl | (simp [errW_none, errW_some] <;> rfl) | (simp [*, errW_none, errW_some] <;> rfl), by repeat (first | (with_reducible first | exact HB.out | apply below_alloc | apply pw_below_drewN | apply below_drew1 | refine below_set ?_ GE326.out) | exact HB.out)⟩

/-! ### hystart_state_phase: function 121 -/
noncomputable def hystart_state_phase.f (a0_0 : Int) (a0_1 : Int) (a0_2 : Int) (a0_3 : Bool) (a0_4 : Bool) (a0_5 : Int) (a0_6 : Int) : Option (Int) := if a0_4 = true then (some 3) else (if a0_3 = true then (some 2) else (some 1))
set_option maxHeartbeats 8000000 in
set_option maxRecDepth 100000 in
theorem hystart_state_phase.calls (a0_0 : Int) (a0_1 : Int) (a0_2 : Int) (a0_3 : Bool) (a0_4 : Bool) (a0_5 : Int) (a0_6 : Int) (r : Int) (w : World) (h : hystart_state_phase.f a0_0 a0_1 a0_2 a0_3 a0_4 a0_5 a0_6 = some r) :
  Calls Tryz.prog 121 #[.agg #[.int .i64 a0_0, .int .i64 a0_1, .int .i64 a0_2, .bool a0_3, .bool a0_4, .int .i64 a0_5, .int .i64 a0_6]] w fun e w' => e = .returned (.int .i64 r) ∧ Below w.heap.size w w' := by
 have hu169 := Tryz.underlying169; have HB := Aside0.mk (Below.refl w.heap.size w); have H : (if a0_4 = true then (some 3) else (if a0_3 = true then (some 2) else (some 1))) = some r := h; clear h
 by_cases c2 : a0_4 = true
 ·subst c2
  have H1 : (some 3) = some r := by rw [if_pos rfl] at H; exact H
  clear H; have H := H1; clear H1; obtain rfl := Option.some.inj H
  go_enter Tryz.func121, Tryz.ntmps121
  go_wp2_with (first | ((with_reducible refine gate_dst (N := 1) rfl ?_); refine box_event ?hg (N := 1) ?hd (cs := #[.int .i64 a0_0, .int .i64 a0_1, .int .i64 a0_2, .bool a0_3, .bool true, .int .i64 a0_5, .int .i64 a0_6]) (t := 169) ?hr ?_; (case hd => rfl); (case hg => rfl); (case hr => first | (go_simp; done) | (go_simp; rfl)); intro gb327 hg w3 hbox hb; have BK327 := Aside0.mk (hbox); obtain ⟨GW327, nHB⟩ := geA hg hb; have GE327 := GW327; replace HB := nHB; clear nHB; clear hb hbox hg; have hcz4_0 := czZ BK327 0 (.int .i64 a0_0); have hcz4_1 := czZ BK327 1 (.int .i64 a0_1); have hcz4_2 := czZ BK327 2 (.int .i64 a0_2); have hcz4_3 := czZ BK327 3 (.bool a0_3); have hcz4_4 := czZ BK327 4 (.bool true); have hcz4_5 := czZ BK327 5 (.int .i64 a0_5); have hcz4_6 := czZ BK327 6 (.int .i64 a0_6); have hfz4_0 := blk_frozen BK327.out 0; have hfz4_1 := blk_frozen BK327.out 1; have hfz4_2 := blk_frozen BK327.out 2; have hfz4_3 := blk_frozen BK327.out 3; have hfz4_4 := blk_frozen BK327.out 4; have hfz4_5 := blk_frozen BK327.out 5; have hfz4_6 := blk_frozen BK327.out 6))
  go_ret
  exact ⟨by first | rfl | (simp [errW_none, errW_some] <;> rfl) | (simp [*, errW_none, errW_some] <;> rfl), by repeat (first | (with_reducible first | exact HB.out | apply below_alloc | apply pw_below_drewN | apply below_drew1 | refine below_set ?_ GE327.out) | exact HB.out)⟩
 ·replace c2 := Bool.eq_false_iff.mpr c2
  subst c2
  have H1 : (if a0_3 = true then (some 2) else (some 1)) = some r := by rw [if_neg (show ¬ (false = true) by decide)] at H; exact H
  clear H; have H := H1; clear H1
  by_cases c5 : a0_3 = true
  ·subst c5
   have H1 : (some 2) = some r := by rw [if_pos rfl] at H; exact H
   clear H; have H := H1; clear H1; obtain rfl := Option.some.inj H
   go_enter Tryz.func121, Tryz.ntmps121
   go_wp2_with (first | ((with_reducible refine gate_dst (N := 1) rfl ?_); refine box_event ?hg (N := 1) ?hd (cs := #[.int .i64 a0_0, .int .i64 a0_1, .int .i64 a0_2, .bool true, .bool false, .int .i64 a0_5, .int .i64 a0_6]) (t := 169) ?hr ?_; (case hd => rfl); (case hg => rfl); (case hr => first | (go_simp; done) | (go_simp; rfl)); intro gb327 hg w6 hbox hb; have BK327 := Aside0.mk (hbox); obtain ⟨GW327, nHB⟩ := geA hg hb; have GE327 := GW327; replace HB := nHB; clear nHB; clear hb hbox hg; have hcz7_0 := czZ BK327 0 (.int .i64 a0_0); have hcz7_1 := czZ BK327 1 (.int .i64 a0_1); have hcz7_2 := czZ BK327 2 (.int .i64 a0_2); have hcz7_3 := czZ BK327 3 (.bool true); have hcz7_4 := czZ BK327 4 (.bool false); have hcz7_5 := czZ BK327 5 (.int .i64 a0_5); have hcz7_6 := czZ BK327 6 (.int .i64 a0_6); have hfz7_0 := blk_frozen BK327.out 0; have hfz7_1 := blk_frozen BK327.out 1; have hfz7_2 := blk_frozen BK327.out 2; have hfz7_3 := blk_frozen BK327.out 3; have hfz7_4 := blk_frozen BK327.out 4; have hfz7_5 := blk_frozen BK327.out 5; have hfz7_6 := blk_frozen BK327.out 6))
   go_ret
   exact ⟨by first | rfl | (simp [errW_none, errW_some] <;> rfl) | (simp [*, errW_none, errW_some] <;> rfl), by repeat (first | (with_reducible first | exact HB.out | apply below_alloc | apply pw_below_drewN | apply below_drew1 | refine below_set ?_ GE327.out) | exact HB.out)⟩
  ·replace c5 := Bool.eq_false_iff.mpr c5
   subst c5
   have H1 : (some 1) = some r := by rw [if_neg (show ¬ (false = true) by decide)] at H; exact H
   clear H; have H := H1; clear H1; obtain rfl := Option.some.inj H
   go_enter Tryz.func121, Tryz.ntmps121
   go_wp2_with (first | ((with_reducible refine gate_dst (N := 1) rfl ?_); refine box_event ?hg (N := 1) ?hd (cs := #[.int .i64 a0_0, .int .i64 a0_1, .int .i64 a0_2, .bool false, .bool false, .int .i64 a0_5, .int .i64 a0_6]) (t := 169) ?hr ?_; (case hd => rfl); (case hg => rfl); (case hr => first | (go_simp; done) | (go_simp; rfl)); intro gb327 hg w8 hbox hb; have BK327 := Aside0.mk (hbox); obtain ⟨GW327, nHB⟩ := geA hg hb; have GE327 := GW327; replace HB := nHB; clear nHB; clear hb hbox hg; have hcz9_0 := czZ BK327 0 (.int .i64 a0_0); have hcz9_1 := czZ BK327 1 (.int .i64 a0_1); have hcz9_2 := czZ BK327 2 (.int .i64 a0_2); have hcz9_3 := czZ BK327 3 (.bool false); have hcz9_4 := czZ BK327 4 (.bool false); have hcz9_5 := czZ BK327 5 (.int .i64 a0_5); have hcz9_6 := czZ BK327 6 (.int .i64 a0_6); have hfz9_0 := blk_frozen BK327.out 0; have hfz9_1 := blk_frozen BK327.out 1; have hfz9_2 := blk_frozen BK327.out 2; have hfz9_3 := blk_frozen BK327.out 3; have hfz9_4 := blk_frozen BK327.out 4; have hfz9_5 := blk_frozen BK327.out 5; have hfz9_6 := blk_frozen BK327.out 6))
   go_ret
   exact ⟨by first | rfl | (simp [errW_none, errW_some] <;> rfl) | (simp [*, errW_none, errW_some] <;> rfl), by repeat (first | (with_reducible first | exact HB.out | apply below_alloc | apply pw_below_drewN | apply below_drew1 | refine below_set ?_ GE327.out) | exact HB.out)⟩

/-! ### hystart_may: function 122 -/
noncomputable def hystart_may.f (a0 : Int) : Option (Bool) := if a0 ≥ 0 then (some (decide (a0 ≤ 1073741824))) else (some false)
set_option maxHeartbeats 8000000 in
set_option maxRecDepth 100000 in
theorem hystart_may.calls (a0 : Int) (r : Bool) (w : World) (h : hystart_may.f a0 = some r) :
  Calls Tryz.prog 122 #[.int .i64 a0] w fun e w' => e = .returned (.bool r) ∧ Drawn0 w w' := by
 have H : (if a0 ≥ 0 then (some (decide (a0 ≤ 1073741824))) else (some false)) = some r := h; clear h
 by_cases c2 : a0 ≥ 0
 ·rw [if_pos c2] at H
  have c2b0 : decide (0 ≤ a0) = true := decide_eq_true c2; clear c2; obtain rfl := Option.some.inj H
  go_enter Tryz.func122, Tryz.ntmps122
  go_wp2
  go_ret
  exact ⟨by first | rfl | (simp; done) | (simp [*]; done), by repeat (first | exact Drawn0.refl _ | apply Drawn0.step)⟩
 ·rw [if_neg c2] at H
  have c2b0 : decide (0 ≤ a0) = false := decide_eq_false c2; clear c2; obtain rfl := Option.some.inj H
  go_enter Tryz.func122, Tryz.ntmps122
  go_wp2
  go_ret
  exact ⟨by first | rfl | (simp; done) | (simp [*]; done), by repeat (first | exact Drawn0.refl _ | apply Drawn0.step)⟩

end Go.Proofs.YtfahbgkoldoflaaGreatDoor.Px
