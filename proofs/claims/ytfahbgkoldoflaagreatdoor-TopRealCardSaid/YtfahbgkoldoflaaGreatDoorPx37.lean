/- Printed by px.py, over the kit's print. Conditions: none beside the theorems' own. -/
import Derived.Test.YtfahbgkoldoflaaGreatDoorPx0
namespace Go.Proofs.YtfahbgkoldoflaaGreatDoor.Px
open Go.RowKit Go.Proofs.YtfahbgkoldoflaaGreatDoorW.PrintWords Go.Proofs.YtfahbgkoldoflaaGreatDoorW.PrintLast Go.Proofs.YtfahbgkoldoflaaGreatDoorW.PrintMore
attribute [local go_sem] max2_int min2_int max_two min_two max_three min_three max_four min_four
set_option linter.unusedVariables false
set_option linter.unusedSimpArgs false

/-! ### event_what_some: function 154 -/
noncomputable def event_what_some.f (a0_0 : Int) (a0_1 : Int) (a0_2 : Int) (a0_3 : Int) : Option (Bool) := if a0_2 ≥ 1 then (some (decide (a0_2 ≤ 1073741824))) else (some false)
set_option maxHeartbeats 8000000 in
set_option maxRecDepth 100000 in
theorem event_what_some.calls (a0_0 : Int) (a0_1 : Int) (a0_2 : Int) (a0_3 : Int) (r : Bool) (w : World) (h : event_what_some.f a0_0 a0_1 a0_2 a0_3 = some r) :
  Calls Tryz.prog 154 #[.agg #[.int .i64 a0_0, .int .i64 a0_1, .int .i64 a0_2, .int .i64 a0_3]] w fun e w' => e = .returned (.bool r) ∧ Below w.heap.size w w' := by
 have hu116 := Tryz.underlying116; have HB := Aside0.mk (Below.refl w.heap.size w); have H : (if a0_2 ≥ 1 then (some (decide (a0_2 ≤ 1073741824))) else (some false)) = some r := h; clear h
 by_cases c2 : a0_2 ≥ 1
 ·rw [if_pos c2] at H
  have c2b0 : decide (1 ≤ a0_2) = true := decide_eq_true c2; clear c2; obtain rfl := Option.some.inj H
  go_enter Tryz.func154, Tryz.ntmps154
  go_wp2_with (first | ((with_reducible refine gate_dst (N := 1) rfl ?_); refine box_event ?hg (N := 1) ?hd (cs := #[.int .i64 a0_0, .int .i64 a0_1, .int .i64 a0_2, .int .i64 a0_3]) (t := 116) ?hr ?_; (case hd => rfl); (case hg => rfl); (case hr => first | (go_simp; done) | (go_simp; rfl)); intro gb386 hg w3 hbox hb; have BK386 := Aside0.mk (hbox); obtain ⟨GW386, nHB⟩ := geA hg hb; have GE386 := GW386; replace HB := nHB; clear nHB; clear hb hbox hg; have hcz4_0 := czZ BK386 0 (.int .i64 a0_0); have hcz4_1 := czZ BK386 1 (.int .i64 a0_1); have hcz4_2 := czZ BK386 2 (.int .i64 a0_2); have hcz4_3 := czZ BK386 3 (.int .i64 a0_3); have hfz4_0 := blk_frozen BK386.out 0; have hfz4_1 := blk_frozen BK386.out 1; have hfz4_2 := blk_frozen BK386.out 2; have hfz4_3 := blk_frozen BK386.out 3))
  go_ret
  exact ⟨by first | rfl | (simp [errW_none, errW_some] <;> rfl) | (simp [*, errW_none, errW_some] <;> rfl), by repeat (first | (with_reducible first | exact HB.out | apply below_alloc | apply pw_below_drewN | apply below_drew1 | refine below_set ?_ GE386.out) | exact HB.out)⟩
 ·rw [if_neg c2] at H
  have c2b0 : decide (1 ≤ a0_2) = false := decide_eq_false c2; clear c2; obtain rfl := Option.some.inj H
  go_enter Tryz.func154, Tryz.ntmps154
  go_wp2_with (first | ((with_reducible refine gate_dst (N := 1) rfl ?_); refine box_event ?hg (N := 1) ?hd (cs := #[.int .i64 a0_0, .int .i64 a0_1, .int .i64 a0_2, .int .i64 a0_3]) (t := 116) ?hr ?_; (case hd => rfl); (case hg => rfl); (case hr => first | (go_simp; done) | (go_simp; rfl)); intro gb386 hg w5 hbox hb; have BK386 := Aside0.mk (hbox); obtain ⟨GW386, nHB⟩ := geA hg hb; have GE386 := GW386; replace HB := nHB; clear nHB; clear hb hbox hg; have hcz6_0 := czZ BK386 0 (.int .i64 a0_0); have hcz6_1 := czZ BK386 1 (.int .i64 a0_1); have hcz6_2 := czZ BK386 2 (.int .i64 a0_2); have hcz6_3 := czZ BK386 3 (.int .i64 a0_3); have hfz6_0 := blk_frozen BK386.out 0; have hfz6_1 := blk_frozen BK386.out 1; have hfz6_2 := blk_frozen BK386.out 2; have hfz6_3 := blk_frozen BK386.out 3))
  go_ret
  exact ⟨by first | rfl | (simp [errW_none, errW_some] <;> rfl) | (simp [*, errW_none, errW_some] <;> rfl), by repeat (first | (with_reducible first | exact HB.out | apply below_alloc | apply pw_below_drewN | apply below_drew1 | refine below_set ?_ GE386.out) | exact HB.out)⟩

/-! ### event_what_full: function 116 -/
noncomputable def event_what_full.f (a0_0 : Int) (a0_1 : Int) (a0_2 : Int) (a0_3 : Int) : Option (Bool) := (event_what_some.f a0_0 a0_1 a0_2 a0_3).bind fun t388 => (if t388 = true then (if a0_3 ≥ 0 then (some (decide (a0_3 ≤ 1073741824))) else (some false)) else (some false))
set_option maxHeartbeats 8000000 in
set_option maxRecDepth 100000 in
theorem event_what_full.calls (a0_0 : Int) (a0_1 : Int) (a0_2 : Int) (a0_3 : Int) (r : Bool) (w : World) (h : event_what_full.f a0_0 a0_1 a0_2 a0_3 = some r) :
  Calls Tryz.prog 116 #[.agg #[.int .i64 a0_0, .int .i64 a0_1, .int .i64 a0_2, .int .i64 a0_3]] w fun e w' => e = .returned (.bool r) ∧ Below w.heap.size w w' := by
 have hu116 := Tryz.underlying116; have HB := Aside0.mk (Below.refl w.heap.size w); have H : ((event_what_some.f a0_0 a0_1 a0_2 a0_3).bind fun t388 => (if t388 = true then (if a0_3 ≥ 0 then (some (decide (a0_3 ≤ 1073741824))) else (some false)) else (some false))) = some r := h; clear h; replace H := Option.bind_eq_some_iff.mp H; obtain ⟨t388, A20, H⟩ := H; replace H : (if t388 = true then (if a0_3 ≥ 0 then (some (decide (a0_3 ≤ 1073741824))) else (some false)) else (some false)) = some r := H; have A2 := Aside0.mk A20; clear A20
 by_cases c3 : t388 = true
 ·subst c3
  have H1 : (if a0_3 ≥ 0 then (some (decide (a0_3 ≤ 1073741824))) else (some false)) = some r := by rw [if_pos rfl] at H; exact H
  clear H; have H := H1; clear H1
  by_cases c4 : a0_3 ≥ 0
  ·rw [if_pos c4] at H
   have c4b0 : decide (0 ≤ a0_3) = true := decide_eq_true c4; clear c4; obtain rfl := Option.some.inj H
   go_enter Tryz.func116, Tryz.ntmps116
   go_wp2_with (first | ((with_reducible refine gate_dst (N := 1) rfl ?_); refine box_event ?hg (N := 1) ?hd (cs := #[.int .i64 a0_0, .int .i64 a0_1, .int .i64 a0_2, .int .i64 a0_3]) (t := 116) ?hr ?_; (case hd => rfl); (case hg => rfl); (case hr => first | (go_simp; done) | (go_simp; rfl)); intro gb387 hg w5 hbox hb; have BK387 := Aside0.mk (hbox); obtain ⟨GW387, nHB⟩ := geA hg hb; have GE387 := GW387; replace HB := nHB; clear nHB; clear hb hbox hg; have hcz6_0 := czZ BK387 0 (.int .i64 a0_0); have hcz6_1 := czZ BK387 1 (.int .i64 a0_1); have hcz6_2 := czZ BK387 2 (.int .i64 a0_2); have hcz6_3 := czZ BK387 3 (.int .i64 a0_3); have hfz6_0 := blk_frozen BK387.out 0; have hfz6_1 := blk_frozen BK387.out 1; have hfz6_2 := blk_frozen BK387.out 2; have hfz6_3 := blk_frozen BK387.out 3) | ((with_reducible refine gate_callee (f := 154) rfl ?_); refine goesLA_ (some 4) rfl rfl Tryz.func154 rfl #[.agg #[.int .i64 a0_0, .int .i64 a0_1, .int .i64 a0_2, .int .i64 a0_3]] rfl ?_; (with_reducible refine (event_what_some.calls a0_0 a0_1 a0_2 a0_3 true _ A2.out).mono ?_); rintro e w7 ⟨rfl, hb⟩; refine ⟨_, rfl, ?_⟩; replace BK387 := bdZ BK387 hb; replace HB := stA hb; clear hb; have hcz8_0 := czZ BK387 0 (.int .i64 a0_0); have hcz8_1 := czZ BK387 1 (.int .i64 a0_1); have hcz8_2 := czZ BK387 2 (.int .i64 a0_2); have hcz8_3 := czZ BK387 3 (.int .i64 a0_3); have hfz8_0 := blk_frozen BK387.out 0; have hfz8_1 := blk_frozen BK387.out 1; have hfz8_2 := blk_frozen BK387.out 2; have hfz8_3 := blk_frozen BK387.out 3))
   go_ret
   exact ⟨by first | rfl | (simp [errW_none, errW_some] <;> rfl) | (simp [*, errW_none, errW_some] <;> rfl), by repeat (first | (with_reducible first | exact HB.out | apply below_alloc | apply pw_below_drewN | apply below_drew1 | refine below_set ?_ GE387.out) | exact HB.out)⟩
  ·rw [if_neg c4] at H
   have c4b0 : decide (0 ≤ a0_3) = false := decide_eq_false c4; clear c4; obtain rfl := Option.some.inj H
   go_enter Tryz.func116, Tryz.ntmps116
   go_wp2_with (first | ((with_reducible refine gate_dst (N := 1) rfl ?_); refine box_event ?hg (N := 1) ?hd (cs := #[.int .i64 a0_0, .int .i64 a0_1, .int .i64 a0_2, .int .i64 a0_3]) (t := 116) ?hr ?_; (case hd => rfl); (case hg => rfl); (case hr => first | (go_simp; done) | (go_simp; rfl)); intro gb387 hg w9 hbox hb; have BK387 := Aside0.mk (hbox); obtain ⟨GW387, nHB⟩ := geA hg hb; have GE387 := GW387; replace HB := nHB; clear nHB; clear hb hbox hg; have hcz10_0 := czZ BK387 0 (.int .i64 a0_0); have hcz10_1 := czZ BK387 1 (.int .i64 a0_1); have hcz10_2 := czZ BK387 2 (.int .i64 a0_2); have hcz10_3 := czZ BK387 3 (.int .i64 a0_3); have hfz10_0 := blk_frozen BK387.out 0; have hfz10_1 := blk_frozen BK387.out 1; have hfz10_2 := blk_frozen BK387.out 2; have hfz10_3 := blk_frozen BK387.out 3) | ((with_reducible refine gate_callee (f := 154) rfl ?_); refine goesLA_ (some 4) rfl rfl Tryz.func154 rfl #[.agg #[.int .i64 a0_0, .int .i64 a0_1, .int .i64 a0_2, .int .i64 a0_3]] rfl ?_; (with_reducible refine (event_what_some.calls a0_0 a0_1 a0_2 a0_3 true _ A2.out).mono ?_); rintro e w11 ⟨rfl, hb⟩; refine ⟨_, rfl, ?_⟩; replace BK387 := bdZ BK387 hb; replace HB := stA hb; clear hb; have hcz12_0 := czZ BK387 0 (.int .i64 a0_0); have hcz12_1 := czZ BK387 1 (.int .i64 a0_1); have hcz12_2 := czZ BK387 2 (.int .i64 a0_2); have hcz12_3 := czZ BK387 3 (.int .i64 a0_3); have hfz12_0 := blk_frozen BK387.out 0; have hfz12_1 := blk_frozen BK387.out 1; have hfz12_2 := blk_frozen BK387.out 2; have hfz12_3 := blk_frozen BK387.out 3))
   go_ret
   exact ⟨by first | rfl | (simp [errW_none, errW_some] <;> rfl) | (simp [*, errW_none, errW_some] <;> rfl), by repeat (first | (with_reducible first | exact HB.out | apply below_alloc | apply pw_below_drewN | apply below_drew1 | refine below_set ?_ GE387.out) | exact HB.out)⟩
 ·replace c3 := Bool.eq_false_iff.mpr c3
  subst c3
  have H1 : (some false) = some r := by rw [if_neg (show ¬ (false = true) by decide)] at H; exact H
  clear H; have H := H1; clear H1; obtain rfl := Option.some.inj H
  go_enter Tryz.func116, Tryz.ntmps116
  go_wp2_with (first | ((with_reducible refine gate_dst (N := 1) rfl ?_); refine box_event ?hg (N := 1) ?hd (cs := #[.int .i64 a0_0, .int .i64 a0_1, .int .i64 a0_2, .int .i64 a0_3]) (t := 116) ?hr ?_; (case hd => rfl); (case hg => rfl); (case hr => first | (go_simp; done) | (go_simp; rfl)); intro gb387 hg w13 hbox hb; have BK387 := Aside0.mk (hbox); obtain ⟨GW387, nHB⟩ := geA hg hb; have GE387 := GW387; replace HB := nHB; clear nHB; clear hb hbox hg; have hcz14_0 := czZ BK387 0 (.int .i64 a0_0); have hcz14_1 := czZ BK387 1 (.int .i64 a0_1); have hcz14_2 := czZ BK387 2 (.int .i64 a0_2); have hcz14_3 := czZ BK387 3 (.int .i64 a0_3); have hfz14_0 := blk_frozen BK387.out 0; have hfz14_1 := blk_frozen BK387.out 1; have hfz14_2 := blk_frozen BK387.out 2; have hfz14_3 := blk_frozen BK387.out 3) | ((with_reducible refine gate_callee (f := 154) rfl ?_); refine goesLA_ (some 4) rfl rfl Tryz.func154 rfl #[.agg #[.int .i64 a0_0, .int .i64 a0_1, .int .i64 a0_2, .int .i64 a0_3]] rfl ?_; (with_reducible refine (event_what_some.calls a0_0 a0_1 a0_2 a0_3 false _ A2.out).mono ?_); rintro e w15 ⟨rfl, hb⟩; refine ⟨_, rfl, ?_⟩; replace BK387 := bdZ BK387 hb; replace HB := stA hb; clear hb))
  go_ret
  exact ⟨by first | rfl | (simp [errW_none, errW_some] <;> rfl) | (simp [*, errW_none, errW_some] <;> rfl), by repeat (first | (with_reducible first | exact HB.out | apply below_alloc | apply pw_below_drewN | apply below_drew1 | refine below_set ?_ GE387.out) | exact HB.out)⟩

/-! ### event_what_bytes: function 117 -/
noncomputable def event_what_bytes.f (a0_0 : Int) (a0_1 : Int) (a0_2 : Int) (a0_3 : Int) : Option (Bool) := (event_what_some.f a0_0 a0_1 a0_2 a0_3).bind fun t390 => (if t390 = true then (some (a0_3 == 0)) else (some false))
set_option maxHeartbeats 8000000 in
set_option maxRecDepth 100000 in
theorem event_what_bytes.calls (a0_0 : Int) (a0_1 : Int) (a0_2 : Int) (a0_3 : Int) (r : Bool) (w : World) (h : event_what_bytes.f a0_0 a0_1 a0_2 a0_3 = some r) :
  Calls Tryz.prog 117 #[.agg #[.int .i64 a0_0, .int .i64 a0_1, .int .i64 a0_2, .int .i64 a0_3]] w fun e w' => e = .returned (.bool r) ∧ Below w.heap.size w w' := by
 have hu116 := Tryz.underlying116; have HB := Aside0.mk (Below.refl w.heap.size w); have H : ((event_what_some.f a0_0 a0_1 a0_2 a0_3).bind fun t390 => (if t390 = true then (some (a0_3 == 0)) else (some false))) = some r := h; clear h; replace H := Option.bind_eq_some_iff.mp H; obtain ⟨t390, A20, H⟩ := H; replace H : (if t390 = true then (some (a0_3 == 0)) else (some false)) = some r := H; have A2 := Aside0.mk A20; clear A20
 by_cases c3 : t390 = true
 ·subst c3
  have H1 : (some (a0_3 == 0)) = some r := by rw [if_pos rfl] at H; exact H
  clear H; have H := H1; clear H1; obtain rfl := Option.some.inj H
  go_enter Tryz.func117, Tryz.ntmps117
  go_wp2_with (first | ((with_reducible refine gate_dst (N := 1) rfl ?_); refine box_event ?hg (N := 1) ?hd (cs := #[.int .i64 a0_0, .int .i64 a0_1, .int .i64 a0_2, .int .i64 a0_3]) (t := 116) ?hr ?_; (case hd => rfl); (case hg => rfl); (case hr => first | (go_simp; done) | (go_simp; rfl)); intro gb389 hg w4 hbox hb; have BK389 := Aside0.mk (hbox); obtain ⟨GW389, nHB⟩ := geA hg hb; have GE389 := GW389; replace HB := nHB; clear nHB; clear hb hbox hg; have hcz5_0 := czZ BK389 0 (.int .i64 a0_0); have hcz5_1 := czZ BK389 1 (.int .i64 a0_1); have hcz5_2 := czZ BK389 2 (.int .i64 a0_2); have hcz5_3 := czZ BK389 3 (.int .i64 a0_3); have hfz5_0 := blk_frozen BK389.out 0; have hfz5_1 := blk_frozen BK389.out 1; have hfz5_2 := blk_frozen BK389.out 2; have hfz5_3 := blk_frozen BK389.out 3) | ((with_reducible refine gate_callee (f := 154) rfl ?_); refine goesLA_ (some 4) rfl rfl Tryz.func154 rfl #[.agg #[.int .i64 a0_0, .int .i64 a0_1, .int .i64 a0_2, .int .i64 a0_3]] rfl ?_; (with_reducible refine (event_what_some.calls a0_0 a0_1 a0_2 a0_3 true _ A2.out).mono ?_); rintro e w6 ⟨rfl, hb⟩; refine ⟨_, rfl, ?_⟩; replace BK389 := bdZ BK389 hb; replace HB := stA hb; clear hb; have hcz7_0 := czZ BK389 0 (.int .i64 a0_0); have hcz7_1 := czZ BK389 1 (.int .i64 a0_1); have hcz7_2 := czZ BK389 2 (.int .i64 a0_2); have hcz7_3 := czZ BK389 3 (.int .i64 a0_3); have hfz7_0 := blk_frozen BK389.out 0; have hfz7_1 := blk_frozen BK389.out 1; have hfz7_2 := blk_frozen BK389.out 2; have hfz7_3 := blk_frozen BK389.out 3))
  go_ret
  exact ⟨by first | rfl | (simp [errW_none, errW_some] <;> rfl) | (simp [*, errW_none, errW_some] <;> rfl), by repeat (first | (with_reducible first | exact HB.out | apply below_alloc | apply pw_below_drewN | apply below_drew1 | refine below_set ?_ GE389.out) | exact HB.out)⟩
 ·replace c3 := Bool.eq_false_iff.mpr c3
  subst c3
  have H1 : (some false) = some r := by rw [if_neg (show ¬ (false = true) by decide)] at H; exact H
  clear H; have H := H1; clear H1; obtain rfl := Option.some.inj H
  go_enter Tryz.func117, Tryz.ntmps117
  go_wp2_with (first | ((with_reducible refine gate_dst (N := 1) rfl ?_); refine box_event ?hg (N := 1) ?hd (cs := #[.int .i64 a0_0, .int .i64 a0_1, .int .i64 a0_2, .int .i64 a0_3]) (t := 116) ?hr ?_; (case hd => rfl); (case hg => rfl); (case hr => first | (go_simp; done) | (go_simp; rfl)); intro gb389 hg w8 hbox hb; have BK389 := Aside0.mk (hbox); obtain ⟨GW389, nHB⟩ := geA hg hb; have GE389 := GW389; replace HB := nHB; clear nHB; clear hb hbox hg; have hcz9_0 := czZ BK389 0 (.int .i64 a0_0); have hcz9_1 := czZ BK389 1 (.int .i64 a0_1); have hcz9_2 := czZ BK389 2 (.int .i64 a0_2); have hcz9_3 := czZ BK389 3 (.int .i64 a0_3); have hfz9_0 := blk_frozen BK389.out 0; have hfz9_1 := blk_frozen BK389.out 1; have hfz9_2 := blk_frozen BK389.out 2; have hfz9_3 := blk_frozen BK389.out 3) | ((with_reducible refine gate_callee (f := 154) rfl ?_); refine goesLA_ (some 4) rfl rfl Tryz.func154 rfl #[.agg #[.int .i64 a0_0, .int .i64 a0_1, .int .i64 a0_2, .int .i64 a0_3]] rfl ?_; (with_reducible refine (event_what_some.calls a0_0 a0_1 a0_2 a0_3 false _ A2.out).mono ?_); rintro e w10 ⟨rfl, hb⟩; refine ⟨_, rfl, ?_⟩; replace BK389 := bdZ BK389 hb; replace HB := stA hb; clear hb))
  go_ret
  exact ⟨by first | rfl | (simp [errW_none, errW_some] <;> rfl) | (simp [*, errW_none, errW_some] <;> rfl), by repeat (first | (with_reducible first | exact HB.out | apply below_alloc | apply pw_below_drewN | apply below_drew1 | refine below_set ?_ GE389.out) | exact HB.out)⟩

/-! ### least_is: function 119 -/
noncomputable def least_is.f (a0 : Int) : Option (Bool) := if a0 ≥ 0 then (some (decide (a0 ≤ 1099511627776))) else (some false)
set_option maxHeartbeats 8000000 in
set_option maxRecDepth 100000 in
theorem least_is.calls (a0 : Int) (r : Bool) (w : World) (h : least_is.f a0 = some r) :
  Calls Tryz.prog 119 #[.int .i64 a0] w fun e w' => e = .returned (.bool r) ∧ Drawn0 w w' := by
 have H : (if a0 ≥ 0 then (some (decide (a0 ≤ 1099511627776))) else (some false)) = some r := h; clear h
 by_cases c2 : a0 ≥ 0
 ·rw [if_pos c2] at H
  have c2b0 : decide (0 ≤ a0) = true := decide_eq_true c2; clear c2; obtain rfl := Option.some.inj H
  go_enter Tryz.func119, Tryz.ntmps119
  go_wp2
  go_ret
  exact ⟨by first | rfl | (simp; done) | (simp [*]; done), by repeat (first | exact Drawn0.refl _ | apply Drawn0.step)⟩
 ·rw [if_neg c2] at H
  have c2b0 : decide (0 ≤ a0) = false := decide_eq_false c2; clear c2; obtain rfl := Option.some.inj H
  go_enter Tryz.func119, Tryz.ntmps119
  go_wp2
  go_ret
  exact ⟨by first | rfl | (simp; done) | (simp [*]; done), by repeat (first | exact Drawn0.refl _ | apply Drawn0.step)⟩

end Go.Proofs.YtfahbgkoldoflaaGreatDoor.Px
