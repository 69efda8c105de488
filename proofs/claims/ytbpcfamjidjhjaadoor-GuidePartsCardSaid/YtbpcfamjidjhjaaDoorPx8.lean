/- Printed by px.py, over the kit's print. Conditions: none beside the theorems' own. -/
import Derived.Test.YtbpcfamjidjhjaaDoorPx0
import Derived.Test.YtbpcfamjidjhjaaDoorPx4
import Derived.Test.YtbpcfamjidjhjaaDoorPx6
import Derived.Test.YtbpcfamjidjhjaaDoorSpec
namespace Go.Proofs.YtbpcfamjidjhjaaDoor.Px
open Go.RowKit Go.Proofs.YtbpcfamjidjhjaaDoorW.PrintWords Go.Proofs.YtbpcfamjidjhjaaDoorW.PrintLast Go.Proofs.YtbpcfamjidjhjaaDoorW.PrintMore
attribute [local go_sem] max2_int min2_int max_two min_two max_three min_three max_four min_four
set_option linter.unusedVariables false
set_option linter.unusedSimpArgs false

attribute [local go_sem high] eqA69
/-! ### guide_First: function 13 -/
noncomputable def guide_First.f (a0_0 : Int) (a0_1 : Int) (a0_2 : Int) (a0_3 : Int) (a0_4 : Int) (a0_5 : Int) (a0_6 : Int) : Option (Int) := (guide_Check.f a0_0 a0_1 a0_2 a0_3 a0_4 a0_5 a0_6).bind fun t102 => (if t102 = 0 then (some (wrap64 (a0_2 * 65536))) else (some 131072))
set_option maxHeartbeats 8000000 in
set_option maxRecDepth 100000 in
theorem guide_First.calls (a0_0 : Int) (a0_1 : Int) (a0_2 : Int) (a0_3 : Int) (a0_4 : Int) (a0_5 : Int) (a0_6 : Int) (r : Int) (w : World) (h : guide_First.f a0_0 a0_1 a0_2 a0_3 a0_4 a0_5 a0_6 = some r) :
  Calls Tryd.prog 13 #[.agg #[.int .i64 a0_0, .int .i64 a0_1, .int .i64 a0_2, .int .i64 a0_3, .int .i64 a0_4, .int .i64 a0_5, .int .i64 a0_6]] w fun e w' => e = .returned (.int .i64 r) ∧ Below w.heap.size w w' := by
 have hu23 := Tryd.underlying23; have HB := Aside0.mk (Below.refl w.heap.size w); have H : ((guide_Check.f a0_0 a0_1 a0_2 a0_3 a0_4 a0_5 a0_6).bind fun t102 => (if t102 = 0 then (some (wrap64 (a0_2 * 65536))) else (some 131072))) = some r := h; clear h; replace H := Option.bind_eq_some_iff.mp H; obtain ⟨t102, A20, H⟩ := H; replace H : (if t102 = 0 then (some (wrap64 (a0_2 * 65536))) else (some 131072)) = some r := H; have A2 := Aside0.mk A20; clear A20
 by_cases c3 : t102 = 0
 ·rw [if_pos c3] at H
  have c3b0 : (t102 == 0) = true := beq_iff_eq.mpr c3; have c3b1 : (t102 != 0) = false := bne_eq_false_iff_eq.mpr c3; clear c3; obtain rfl := Option.some.inj H
  go_enter Tryd.func13, Tryd.ntmps13
  go_wp2_with (first | ((with_reducible refine gate_dst (N := 1) rfl ?_); refine box_event ?hg (N := 1) ?hd (cs := #[.int .i64 a0_0, .int .i64 a0_1, .int .i64 a0_2, .int .i64 a0_3, .int .i64 a0_4, .int .i64 a0_5, .int .i64 a0_6]) (t := 23) ?hr ?_; (case hd => rfl); (case hg => rfl); (case hr => first | (go_simp; done) | (go_simp; rfl)); intro gb101 hg w4 hbox hb; have BK101 := Aside0.mk (hbox); obtain ⟨GW101, nHB⟩ := geA hg hb; have GE101 := GW101; replace HB := nHB; clear nHB; clear hb hbox hg; have hcz5_0 := czZ BK101 0 (.int .i64 a0_0); have hcz5_1 := czZ BK101 1 (.int .i64 a0_1); have hcz5_2 := czZ BK101 2 (.int .i64 a0_2); have hcz5_3 := czZ BK101 3 (.int .i64 a0_3); have hcz5_4 := czZ BK101 4 (.int .i64 a0_4); have hcz5_5 := czZ BK101 5 (.int .i64 a0_5); have hcz5_6 := czZ BK101 6 (.int .i64 a0_6); have hfz5_0 := blk_frozen BK101.out 0; have hfz5_1 := blk_frozen BK101.out 1; have hfz5_2 := blk_frozen BK101.out 2; have hfz5_3 := blk_frozen BK101.out 3; have hfz5_4 := blk_frozen BK101.out 4; have hfz5_5 := blk_frozen BK101.out 5; have hfz5_6 := blk_frozen BK101.out 6) | ((with_reducible refine gate_callee (f := 11) rfl ?_); refine goesLA_ (some 4) rfl rfl Tryd.func11 rfl #[.agg #[.int .i64 a0_0, .int .i64 a0_1, .int .i64 a0_2, .int .i64 a0_3, .int .i64 a0_4, .int .i64 a0_5, .int .i64 a0_6]] rfl ?_; (with_reducible refine (guide_Check.calls a0_0 a0_1 a0_2 a0_3 a0_4 a0_5 a0_6 t102 _ A2.out).mono ?_); rintro e w6 ⟨rfl, hb⟩; refine ⟨_, rfl, ?_⟩; replace BK101 := bdZ BK101 hb; replace HB := stA hb; clear hb; have hcz7_0 := czZ BK101 0 (.int .i64 a0_0); have hcz7_1 := czZ BK101 1 (.int .i64 a0_1); have hcz7_2 := czZ BK101 2 (.int .i64 a0_2); have hcz7_3 := czZ BK101 3 (.int .i64 a0_3); have hcz7_4 := czZ BK101 4 (.int .i64 a0_4); have hcz7_5 := czZ BK101 5 (.int .i64 a0_5); have hcz7_6 := czZ BK101 6 (.int .i64 a0_6); have hfz7_0 := blk_frozen BK101.out 0; have hfz7_1 := blk_frozen BK101.out 1; have hfz7_2 := blk_frozen BK101.out 2; have hfz7_3 := blk_frozen BK101.out 3; have hfz7_4 := blk_frozen BK101.out 4; have hfz7_5 := blk_frozen BK101.out 5; have hfz7_6 := blk_frozen BK101.out 6))
  go_ret
  exact ⟨by first | rfl | (simp [errW_none, errW_some] <;> rfl) | (simp [*, errW_none, errW_some] <;> rfl), by repeat (first | (with_reducible first | exact HB.out | apply below_alloc | apply pw_below_drewN | apply below_drew1 | refine below_set ?_ GE101.out) | exact HB.out)⟩
 ·rw [if_neg c3] at H
  have c3b0 : (t102 == 0) = false := beq_eq_false_iff_ne.mpr c3; have c3b1 : (t102 != 0) = true := bne_iff_ne.mpr c3; obtain rfl := Option.some.inj H
  go_enter Tryd.func13, Tryd.ntmps13
  go_wp2_with (first | ((with_reducible refine gate_dst (N := 1) rfl ?_); refine box_event ?hg (N := 1) ?hd (cs := #[.int .i64 a0_0, .int .i64 a0_1, .int .i64 a0_2, .int .i64 a0_3, .int .i64 a0_4, .int .i64 a0_5, .int .i64 a0_6]) (t := 23) ?hr ?_; (case hd => rfl); (case hg => rfl); (case hr => first | (go_simp; done) | (go_simp; rfl)); intro gb101 hg w8 hbox hb; have BK101 := Aside0.mk (hbox); obtain ⟨GW101, nHB⟩ := geA hg hb; have GE101 := GW101; replace HB := nHB; clear nHB; clear hb hbox hg; have hcz9_0 := czZ BK101 0 (.int .i64 a0_0); have hcz9_1 := czZ BK101 1 (.int .i64 a0_1); have hcz9_2 := czZ BK101 2 (.int .i64 a0_2); have hcz9_3 := czZ BK101 3 (.int .i64 a0_3); have hcz9_4 := czZ BK101 4 (.int .i64 a0_4); have hcz9_5 := czZ BK101 5 (.int .i64 a0_5); have hcz9_6 := czZ BK101 6 (.int .i64 a0_6); have hfz9_0 := blk_frozen BK101.out 0; have hfz9_1 := blk_frozen BK101.out 1; have hfz9_2 := blk_frozen BK101.out 2; have hfz9_3 := blk_frozen BK101.out 3; have hfz9_4 := blk_frozen BK101.out 4; have hfz9_5 := blk_frozen BK101.out 5; have hfz9_6 := blk_frozen BK101.out 6) | ((with_reducible refine gate_callee (f := 11) rfl ?_); refine goesLA_ (some 4) rfl rfl Tryd.func11 rfl #[.agg #[.int .i64 a0_0, .int .i64 a0_1, .int .i64 a0_2, .int .i64 a0_3, .int .i64 a0_4, .int .i64 a0_5, .int .i64 a0_6]] rfl ?_; (with_reducible refine (guide_Check.calls a0_0 a0_1 a0_2 a0_3 a0_4 a0_5 a0_6 t102 _ A2.out).mono ?_); rintro e w10 ⟨rfl, hb⟩; refine ⟨_, rfl, ?_⟩; replace BK101 := bdZ BK101 hb; replace HB := stA hb; clear hb))
  go_ret
  exact ⟨by first | rfl | (simp [errW_none, errW_some] <;> rfl) | (simp [*, errW_none, errW_some] <;> rfl), by repeat (first | (with_reducible first | exact HB.out | apply below_alloc | apply pw_below_drewN | apply below_drew1 | refine below_set ?_ GE101.out) | exact HB.out)⟩

-- NOT PRINTED: function 61 (safe_held)

/-! ### safe_Plus: function 62 -/
noncomputable def safe_Plus.f (a0 : Int) (a1 : Int) : Option (Int × Int) := if ((decide (a0 ≥ 0)) == (decide (a1 ≥ 0))) = true then (if ((decide ((wrap64 (a0 + a1)) ≥ 0)) != (decide (a0 ≥ 0))) = true then (some (0, 10)) else (some (wrap64 (a0 + a1), 0))) else (some (wrap64 (a0 + a1), 0))
set_option maxHeartbeats 8000000 in
set_option maxRecDepth 100000 in
theorem safe_Plus.calls (a0 : Int) (a1 : Int) (r1 : Int) (r2 : Int) (w : World) (h : safe_Plus.f a0 a1 = some (r1, r2)) :
  Calls Tryd.prog 62 #[.int .i64 a0, .int .i64 a1] w fun e w' => e = .returned (.tuple #[.int .i64 r1, .int .i64 r2]) ∧ Drawn0 w w' := by
 have H : (if ((decide (a0 ≥ 0)) == (decide (a1 ≥ 0))) = true then (if ((decide ((wrap64 (a0 + a1)) ≥ 0)) != (decide (a0 ≥ 0))) = true then (some (0, 10)) else (some (wrap64 (a0 + a1), 0))) else (some (wrap64 (a0 + a1), 0))) = some (r1, r2) := h; clear h
 by_cases c3 : ((decide (a0 ≥ 0)) == (decide (a1 ≥ 0))) = true
 ·rw [if_pos c3] at H
  have c3b0 : ((decide (a0 ≥ 0)) == (decide (a1 ≥ 0))) = true := c3
  (try (have c3b1 : decide ((decide (a0 ≥ 0)) = (decide (a1 ≥ 0))) = true := by simpa using c3))
  (try (have c3b2 : ((decide (a0 ≥ 0)) == (decide (a1 ≥ 0))) = true := by simpa using c3))
  clear c3
  by_cases c4 : ((decide ((wrap64 (a0 + a1)) ≥ 0)) != (decide (a0 ≥ 0))) = true
  ·rw [if_pos c4] at H
   have c4b0 : ((decide ((wrap64 (a0 + a1)) ≥ 0)) != (decide (a0 ≥ 0))) = true := c4
   (try (have c4b1 : decide ((decide ((wrap64 (a0 + a1)) ≥ 0)) = (decide (a0 ≥ 0))) = false := by simpa using c4))
   (try (have c4b2 : ((decide ((wrap64 (a0 + a1)) ≥ 0)) == (decide (a0 ≥ 0))) = false := by simpa using c4))
   (try (have c4b3 : ¬ ((decide ((wrap64 (a0 + a1)) ≥ 0)) = (decide (a0 ≥ 0))) := by simpa using c4))
   clear c4; simp only [Option.some.injEq, Prod.mk.injEq] at H; obtain ⟨rfl, rfl⟩ := H
   go_enter Tryd.func62, Tryd.ntmps62
   go_wp2
   go_ret2
   exact ⟨by first | rfl | (simp; done) | (simp [*]; done), by repeat (first | exact Drawn0.refl _ | apply Drawn0.step)⟩
  ·rw [if_neg c4] at H
   have c4b0 : ((decide ((wrap64 (a0 + a1)) ≥ 0)) != (decide (a0 ≥ 0))) = false := by simpa using c4
   (try (have c4b1 : decide ((decide ((wrap64 (a0 + a1)) ≥ 0)) = (decide (a0 ≥ 0))) = true := by simpa using c4))
   (try (have c4b2 : ((decide ((wrap64 (a0 + a1)) ≥ 0)) == (decide (a0 ≥ 0))) = true := by simpa using c4))
   clear c4; simp only [Option.some.injEq, Prod.mk.injEq] at H; obtain ⟨rfl, rfl⟩ := H
   go_enter Tryd.func62, Tryd.ntmps62
   go_wp2
   go_ret2
   exact ⟨by first | rfl | (simp; done) | (simp [*]; done), by repeat (first | exact Drawn0.refl _ | apply Drawn0.step)⟩
 ·rw [if_neg c3] at H
  have c3b0 : ((decide (a0 ≥ 0)) == (decide (a1 ≥ 0))) = false := by simpa using c3
  (try (have c3b1 : decide ((decide (a0 ≥ 0)) = (decide (a1 ≥ 0))) = false := by simpa using c3))
  (try (have c3b2 : ((decide (a0 ≥ 0)) == (decide (a1 ≥ 0))) = false := by simpa using c3))
  (try (have c3b3 : ¬ ((decide (a0 ≥ 0)) = (decide (a1 ≥ 0))) := by simpa using c3))
  clear c3; simp only [Option.some.injEq, Prod.mk.injEq] at H; obtain ⟨rfl, rfl⟩ := H
  go_enter Tryd.func62, Tryd.ntmps62
  go_wp2
  go_ret2
  exact ⟨by first | rfl | (simp; done) | (simp [*]; done), by repeat (first | exact Drawn0.refl _ | apply Drawn0.step)⟩

/-! ### safe_PlusS: a sum, or its error: pure, behind function 62 -/
noncomputable def safe_PlusS.f (a b : Int) : Option (Int × Int) := Sp.need (Sp.I a ∧ Sp.I b) (Sp.fit (a + b))
section SafePlus
open Go.Proofs.YtbpcfamjidjhjaaDoor.Sp
theorem safe_Plus.main {a b : Int} (h1 : I a) (h2 : I b) : safe_Plus.f a b = fit (a + b) := by
 unfold safe_Plus.f fit
 by_cases c : I (a + b)
 ·rw [if_pos c, w64 c]
  by_cases ha : a ≥ 0 <;> by_cases hb : b ≥ 0
  ·have : a + b ≥ 0 := by omega
   simp [ha, hb, this]
  ·simp [ha, hb]
  ·simp [ha, hb]
  ·have : ¬ a + b ≥ 0 := by omega
   simp [ha, hb, this]
 ·rw [if_neg c]
  by_cases ha : a ≥ 0
  ·have hb : b ≥ 0 := by omega
   have hw : ¬ wrap64 (a + b) ≥ 0 := by unfold wrap64; omega
   simp [ha, hb, hw]
  ·have hb : ¬ b ≥ 0 := by omega
   have hw : wrap64 (a + b) ≥ 0 := by unfold wrap64; omega
   simp [ha, hb, hw]
end SafePlus
theorem safe_PlusS.calls (a0 a1 r1 r2 : Int) (w : World) (h : safe_PlusS.f a0 a1 = some (r1, r2)) :
  Calls Tryd.prog 62 #[.int .i64 a0, .int .i64 a1] w fun e w' => e = .returned (.tuple #[.int .i64 r1, .int .i64 r2]) ∧ Drawn0 w w' := by
 obtain ⟨hc, h⟩ := Sp.need_some h; exact safe_Plus.calls a0 a1 r1 r2 w (by rw [safe_Plus.main hc.1 hc.2]; exact h)

/-! ### safe_Add: function 40 -/
noncomputable def safe_Add.f (a b : Int) : Option Int := Sp.need (Sp.I a ∧ Sp.I b) (some (Sp.near (a + b)))
theorem safe_Add.eq {a b : Int} (h1 : Sp.I a) (h2 : Sp.I b) : safe_Add.f a b = some (Sp.near (a + b)) := Sp.need_pos ⟨h1, h2⟩
theorem safe_PlusS.as {a b x y : Int} (h1 : Sp.I a) (h2 : Sp.I b) (h : Sp.fit (a + b) = some (x, y)) : Aside0 (safe_PlusS.f a b = some (x, y)) := ⟨(Sp.need_pos ⟨h1, h2⟩).trans h⟩
set_option maxHeartbeats 1000000 in
set_option maxRecDepth 100000 in
theorem safe_Add.calls (a0 a1 r : Int) (w : World) (h : safe_Add.f a0 a1 = some r) :
  Calls Tryd.prog 40 #[.int .i64 a0, .int .i64 a1] w fun e w' => e = .returned (.int .i64 r) ∧ Below w.heap.size w w' := by
 obtain ⟨hc, h⟩ := Sp.need_some h; obtain rfl := Option.some.inj h
 have hmf : ∀ (fn : Fn) (first cap : Array Value) (w : World), (Instr.makeFunc fn first cap).run Tryd.prog w = .ok (.func fn first cap) w := fun _ _ _ _ => rfl
 by_cases c : Sp.I (a0 + a1)
 ·have HP := safe_PlusS.as hc.1 hc.2 (Sp.fit_in c)
  rw [Sp.near_in c]
  clear hc c
  go_enter Tryd.func40, Tryd.ntmps40
  go_wp2_with (first | (go_at_call 62; refine (safe_PlusS.calls a0 a1 _ _ _ HP.out).mono ?_; rintro e w' ⟨rfl, ⟨nd, rfl⟩⟩) | go_in)
  go_ret
  exact ⟨rfl, by repeat (first | exact Below.refl _ _ | apply below_alloc | apply pw_below_drewN)⟩
 ·have HP := safe_PlusS.as hc.1 hc.2 (Sp.fit_out c)
  by_cases hn : a0 < 0
  ·have e0 : Sp.near (a0 + a1) = -9223372036854775808 := Sp.near_lo (by omega)
   rw [e0]
   have hd : decide (a0 < 0) = true := decide_eq_true hn; clear hc c hn e0
   go_enter Tryd.func40, Tryd.ntmps40
   go_wp2_with (first | (go_at_call 62; refine (safe_PlusS.calls a0 a1 _ _ _ HP.out).mono ?_; rintro e w' ⟨rfl, ⟨nd, rfl⟩⟩) | go_in)
   go_ret
   exact ⟨rfl, by repeat (first | exact Below.refl _ _ | apply below_alloc | apply pw_below_drewN)⟩
  ·have e0 : Sp.near (a0 + a1) = 9223372036854775807 := Sp.near_hi (by omega)
   rw [e0]
   have hd : decide (a0 < 0) = false := decide_eq_false hn; clear hc c hn e0
   go_enter Tryd.func40, Tryd.ntmps40
   go_wp2_with (first | (go_at_call 62; refine (safe_PlusS.calls a0 a1 _ _ _ HP.out).mono ?_; rintro e w' ⟨rfl, ⟨nd, rfl⟩⟩) | go_in)
   go_ret
   exact ⟨rfl, by repeat (first | exact Below.refl _ _ | apply below_alloc | apply pw_below_drewN)⟩

/-! ### safe_unit: function 41 -/
noncomputable def safe_unit.f (a0 : Int) : Option (Int) := if a0 < 0 then (some 1) else (some 0)
set_option maxHeartbeats 8000000 in
set_option maxRecDepth 100000 in
theorem safe_unit.calls (a0 : Int) (r : Int) (w : World) (h : safe_unit.f a0 = some r) :
  Calls Tryd.prog 41 #[.int .i64 a0] w fun e w' => e = .returned (.int .i64 r) ∧ Drawn0 w w' := by
 have H : (if a0 < 0 then (some 1) else (some 0)) = some r := h; clear h
 by_cases c2 : a0 < 0
 ·rw [if_pos c2] at H
  have c2b0 : decide (a0 < 0) = true := decide_eq_true c2; clear c2; obtain rfl := Option.some.inj H
  go_enter Tryd.func41, Tryd.ntmps41
  go_wp2
  go_ret
  exact ⟨by first | rfl | (simp; done) | (simp [*]; done), by repeat (first | exact Drawn0.refl _ | apply Drawn0.step)⟩
 ·rw [if_neg c2] at H
  have c2b0 : decide (a0 < 0) = false := decide_eq_false c2; clear c2; obtain rfl := Option.some.inj H
  go_enter Tryd.func41, Tryd.ntmps41
  go_wp2
  go_ret
  exact ⟨by first | rfl | (simp; done) | (simp [*]; done), by repeat (first | exact Drawn0.refl _ | apply Drawn0.step)⟩

/-! ### safe_Sub: function 28 -/
noncomputable def safe_Sub.f (a0 : Int) (a1 : Int) : Option (Int) := if a1 = (-9223372036854775808) then ((safe_Add.f a0 9223372036854775807).bind fun t103 => ((safe_unit.f a0).bind fun t104 => ((safe_Add.f t103 (wrap64 t104)).bind fun t105 => (some t105)))) else ((safe_Add.f a0 (wrap64 (-a1))).bind fun t106 => (some t106))
set_option maxHeartbeats 8000000 in
set_option maxRecDepth 100000 in
theorem safe_Sub.calls (a0 : Int) (a1 : Int) (r : Int) (w : World) (h : safe_Sub.f a0 a1 = some r) :
  Calls Tryd.prog 28 #[.int .i64 a0, .int .i64 a1] w fun e w' => e = .returned (.int .i64 r) ∧ Below w.heap.size w w' := by
 have HB := Aside0.mk (Below.refl w.heap.size w); have H : (if a1 = (-9223372036854775808) then ((safe_Add.f a0 9223372036854775807).bind fun t103 => ((safe_unit.f a0).bind fun t104 => ((safe_Add.f t103 (wrap64 t104)).bind fun t105 => (some t105)))) else ((safe_Add.f a0 (wrap64 (-a1))).bind fun t106 => (some t106))) = some r := h; clear h
 by_cases c3 : a1 = (-9223372036854775808)
 ·rw [if_pos c3] at H
  have c3b0 : (a1 == (-9223372036854775808)) = true := beq_iff_eq.mpr c3; have c3b1 : (a1 != (-9223372036854775808)) = false := bne_eq_false_iff_eq.mpr c3; clear c3; replace H := Option.bind_eq_some_iff.mp H; obtain ⟨t103, A40, H⟩ := H; replace H : ((safe_unit.f a0).bind fun t104 => ((safe_Add.f t103 (wrap64 t104)).bind fun t105 => (some t105))) = some r := H; have A4 := Aside0.mk A40; clear A40; replace H := Option.bind_eq_some_iff.mp H; obtain ⟨t104, A50, H⟩ := H; replace H : ((safe_Add.f t103 (wrap64 t104)).bind fun t105 => (some t105)) = some r := H; have A5 := Aside0.mk A50; clear A50; replace H := Option.bind_eq_some_iff.mp H; obtain ⟨t105, A60, H⟩ := H; replace H : (some t105) = some r := H; have A6 := Aside0.mk A60; clear A60; obtain rfl := Option.some.inj H
  go_enter Tryd.func28, Tryd.ntmps28
  go_wp2_with (first | ((with_reducible refine gate_callee (f := 40) rfl ?_); refine goesLA_ (some 8) rfl rfl Tryd.func40 rfl #[.int .i64 a0, .int .i64 9223372036854775807] rfl ?_; (with_reducible refine (safe_Add.calls a0 9223372036854775807 t103 _ A4.out).mono ?_); rintro e w7 ⟨rfl, hb⟩; refine ⟨_, rfl, ?_⟩; replace HB := stA hb; clear hb) | ((with_reducible refine gate_callee (f := 41) rfl ?_); refine goesLA_ (some 10) rfl rfl Tryd.func41 rfl #[.int .i64 a0] rfl ?_; (with_reducible refine (safe_unit.calls a0 t104 _ A5.out).mono ?_); rintro e w' ⟨rfl, ⟨nd, rfl⟩⟩; refine ⟨_, rfl, ?_⟩) | ((with_reducible refine gate_callee (f := 40) rfl ?_); refine goesLA_ (some 12) rfl rfl Tryd.func40 rfl #[.int .i64 t103, .int .i64 (wrap64 t104)] rfl ?_; (with_reducible refine (safe_Add.calls t103 (wrap64 t104) t105 _ A6.out).mono ?_); rintro e w8 ⟨rfl, hb⟩; refine ⟨_, rfl, ?_⟩; replace HB := stA hb; clear hb))
  go_ret
  exact ⟨by first | rfl | (simp [errW_none, errW_some] <;> rfl) | (simp [*, errW_none, errW_some] <;> rfl), by repeat (first | (with_reducible first | exact HB.out | apply below_alloc | apply pw_below_drewN | apply below_drew1) | exact HB.out)⟩
 ·rw [if_neg c3] at H
  have c3b0 : (a1 == (-9223372036854775808)) = false := beq_eq_false_iff_ne.mpr c3; have c3b1 : (a1 != (-9223372036854775808)) = true := bne_iff_ne.mpr c3; replace H := Option.bind_eq_some_iff.mp H; obtain ⟨t106, A90, H⟩ := H; replace H : (some t106) = some r := H; have A9 := Aside0.mk A90; clear A90; obtain rfl := Option.some.inj H
  go_enter Tryd.func28, Tryd.ntmps28
  go_wp2_with (first | ((with_reducible refine gate_callee (f := 40) rfl ?_); refine goesLA_ (some 16) rfl rfl Tryd.func40 rfl #[.int .i64 a0, .int .i64 (wrap64 (-a1))] rfl ?_; (with_reducible refine (safe_Add.calls a0 (wrap64 (-a1)) t106 _ A9.out).mono ?_); rintro e w10 ⟨rfl, hb⟩; refine ⟨_, rfl, ?_⟩; replace HB := stA hb; clear hb))
  go_ret
  exact ⟨by first | rfl | (simp [errW_none, errW_some] <;> rfl) | (simp [*, errW_none, errW_some] <;> rfl), by repeat (first | (with_reducible first | exact HB.out | apply below_alloc | apply pw_below_drewN | apply below_drew1) | exact HB.out)⟩

/-! ### safe_SubS: pure, behind function 28 -/
section
open Go.Proofs.YtbpcfamjidjhjaaDoor.Sp
noncomputable def safe_SubS.f (a : Int) (b : Int) : Option (Int) := need (I a ∧ I b) (some (near (a - b)))
theorem safe_SubS.eq {a : Int} {b : Int} (h1 : I a) (h2 : I b) : safe_SubS.f a b = some (near (a - b)) := need_pos ⟨h1, h2⟩
theorem safe_Sub.main {a : Int} {b : Int} (h1 : I a) (h2 : I b) : safe_Sub.f a b = some (near (a - b)) := by
 unfold safe_Sub.f safe_unit.f
 by_cases hb : b = -9223372036854775808
 ·rw [if_pos hb, safe_Add.eq h1 (by omega)]
  simp only [Option.bind_some]
  by_cases ha : a < 0
  ·rw [if_pos ha]
   simp only [Option.bind_some]
   rw [w64 (x := 1) (by omega), safe_Add.eq (near_I _) (by omega)]
   simp only [Option.bind_some]
   rw [near_in (v := a + 9223372036854775807) (by omega)]
   congr 2; omega
  ·rw [if_neg ha]
   simp only [Option.bind_some]
   rw [w64 (x := 0) (by omega), safe_Add.eq (near_I _) (by omega)]
   simp only [Option.bind_some]; have e1 : near (a - b) = 9223372036854775807 := near_hi (by omega)
   have e2 : near (a + 9223372036854775807) = 9223372036854775807 := by unfold near; split <;> (try split) <;> omega
   rw [e1, e2, near_in (by omega)]
   rfl
 ·rw [if_neg hb, w64 (x := -b) (by omega), safe_Add.eq h1 (by omega)]
  simp only [Option.bind_some]
  congr 2
end
theorem safe_SubS.calls (a0 : Int) (a1 : Int) (r : Int) (w : World) (h : safe_SubS.f a0 a1 = some r) :
  Calls Tryd.prog 28 #[.int .i64 a0, .int .i64 a1] w fun e w' => e = .returned (.int .i64 r) ∧ Below w.heap.size w w' := by
 obtain ⟨hc, h⟩ := Sp.need_some h; obtain ⟨h1, h2⟩ := hc; exact safe_Sub.calls a0 a1 r w (by rw [safe_Sub.main h1 h2]; exact h)

/-! ### guide_Idle: function 15 -/
noncomputable def guide_Idle.f (a0 : Int) (a1 : Int) (a2 : Int) (a3 : Int) (a4_0 : Int) (a4_1 : Int) (a4_2 : Int) (a4_3 : Int) (a4_4 : Int) (a4_5 : Int) (a4_6 : Int) : Option (Int) := (safe_SubS.f a2 a1).bind fun t108 => (if t108 ≤ a3 then (some a0) else ((guide_First.f a4_0 a4_1 a4_2 a4_3 a4_4 a4_5 a4_6).bind fun t109 => (some (mx (mn a0 t109) 131072))))
set_option maxHeartbeats 8000000 in
set_option maxRecDepth 100000 in
theorem guide_Idle.calls (a0 : Int) (a1 : Int) (a2 : Int) (a3 : Int) (a4_0 : Int) (a4_1 : Int) (a4_2 : Int) (a4_3 : Int) (a4_4 : Int) (a4_5 : Int) (a4_6 : Int) (r : Int) (w : World) (h : guide_Idle.f a0 a1 a2 a3 a4_0 a4_1 a4_2 a4_3 a4_4 a4_5 a4_6 = some r) :
  Calls Tryd.prog 15 #[.int .i64 a0, .int .i64 a1, .int .i64 a2, .int .i64 a3, .agg #[.int .i64 a4_0, .int .i64 a4_1, .int .i64 a4_2, .int .i64 a4_3, .int .i64 a4_4, .int .i64 a4_5, .int .i64 a4_6]] w fun e w' => e = .returned (.int .i64 r) ∧ Below w.heap.size w w' := by
 have hu23 := Tryd.underlying23; have HB := Aside0.mk (Below.refl w.heap.size w); have H : ((safe_SubS.f a2 a1).bind fun t108 => (if t108 ≤ a3 then (some a0) else ((guide_First.f a4_0 a4_1 a4_2 a4_3 a4_4 a4_5 a4_6).bind fun t109 => (some (mx (mn a0 t109) 131072))))) = some r := h; clear h; replace H := Option.bind_eq_some_iff.mp H; obtain ⟨t108, A60, H⟩ := H; replace H : (if t108 ≤ a3 then (some a0) else ((guide_First.f a4_0 a4_1 a4_2 a4_3 a4_4 a4_5 a4_6).bind fun t109 => (some (mx (mn a0 t109) 131072)))) = some r := H; have A6 := Aside0.mk A60; clear A60
 by_cases c7 : t108 ≤ a3
 ·rw [if_pos c7] at H
  have c7b0 : decide (t108 ≤ a3) = true := decide_eq_true c7; clear c7; obtain rfl := Option.some.inj H
  go_enter Tryd.func15, Tryd.ntmps15
  go_wp2_with (first | ((with_reducible refine gate_dst (N := 9) rfl ?_); refine box_event ?hg (N := 9) ?hd (cs := #[.int .i64 a4_0, .int .i64 a4_1, .int .i64 a4_2, .int .i64 a4_3, .int .i64 a4_4, .int .i64 a4_5, .int .i64 a4_6]) (t := 23) ?hr ?_; (case hd => rfl); (case hg => rfl); (case hr => first | (go_simp; done) | (go_simp; rfl)); intro gb107 hg w8 hbox hb; have BK107 := Aside0.mk (hbox); obtain ⟨GW107, nHB⟩ := geA hg hb; have GE107 := GW107; replace HB := nHB; clear nHB; clear hb hbox hg) | ((with_reducible refine gate_callee (f := 28) rfl ?_); refine goesLA_ (some 13) rfl rfl Tryd.func28 rfl #[.int .i64 a2, .int .i64 a1] rfl ?_; (with_reducible refine (safe_SubS.calls a2 a1 t108 _ A6.out).mono ?_); rintro e w9 ⟨rfl, hb⟩; refine ⟨_, rfl, ?_⟩; replace BK107 := bdZ BK107 hb; replace HB := stA hb; clear hb))
  go_ret
  exact ⟨by first | rfl | (simp [errW_none, errW_some] <;> rfl) | (simp [*, errW_none, errW_some] <;> rfl), by repeat (first | (with_reducible first | exact HB.out | apply below_alloc | apply pw_below_drewN | apply below_drew1 | refine below_set ?_ GE107.out) | exact HB.out)⟩
 ·rw [if_neg c7] at H
  have c7b0 : decide (t108 ≤ a3) = false := decide_eq_false c7; clear c7; replace H := Option.bind_eq_some_iff.mp H; obtain ⟨t109, A100, H⟩ := H; replace H : (some (mx (mn a0 t109) 131072)) = some r := H; have A10 := Aside0.mk A100; clear A100
  obtain ⟨ji11, hji11⟩ : ∃ j_ : Int, (mn a0 t109) = j_ := ⟨_, rfl⟩
  replace H : (some (mx (ji11) 131072)) = some r := by first | (rw [hji11] at H; exact H) | (simp only [hji11] at H ⊢; exact H)
  (try rw [hji11] at A6)
  (try rw [hji11] at A10)
  have hji11_ : (if t109 < a0 then t109 else a0) = ji11 := hji11
  obtain ⟨ji12, hji12⟩ : ∃ j_ : Int, (mx (ji11) 131072) = j_ := ⟨_, rfl⟩
  replace H : (some ji12) = some r := by first | (rw [hji12] at H; exact H) | (simp only [hji12] at H ⊢; exact H)
  (try rw [hji12] at A6)
  (try rw [hji12] at A10)
  have hji12_ : (if (ji11) < 131072 then 131072 else (ji11)) = ji12 := hji12; obtain rfl := Option.some.inj H
  go_enter Tryd.func15, Tryd.ntmps15
  go_wp2_with (first | ((with_reducible refine gate_dst (N := 9) rfl ?_); refine box_event ?hg (N := 9) ?hd (cs := #[.int .i64 a4_0, .int .i64 a4_1, .int .i64 a4_2, .int .i64 a4_3, .int .i64 a4_4, .int .i64 a4_5, .int .i64 a4_6]) (t := 23) ?hr ?_; (case hd => rfl); (case hg => rfl); (case hr => first | (go_simp; done) | (go_simp; rfl)); intro gb107 hg w13 hbox hb; have BK107 := Aside0.mk (hbox); obtain ⟨GW107, nHB⟩ := geA hg hb; have GE107 := GW107; replace HB := nHB; clear nHB; clear hb hbox hg) | ((with_reducible refine gate_callee (f := 28) rfl ?_); refine goesLA_ (some 13) rfl rfl Tryd.func28 rfl #[.int .i64 a2, .int .i64 a1] rfl ?_; (with_reducible refine (safe_SubS.calls a2 a1 t108 _ A6.out).mono ?_); rintro e w14 ⟨rfl, hb⟩; refine ⟨_, rfl, ?_⟩; replace BK107 := bdZ BK107 hb; replace HB := stA hb; clear hb; have hcz15_0 := czZ BK107 0 (.int .i64 a4_0); have hcz15_1 := czZ BK107 1 (.int .i64 a4_1); have hcz15_2 := czZ BK107 2 (.int .i64 a4_2); have hcz15_3 := czZ BK107 3 (.int .i64 a4_3); have hcz15_4 := czZ BK107 4 (.int .i64 a4_4); have hcz15_5 := czZ BK107 5 (.int .i64 a4_5); have hcz15_6 := czZ BK107 6 (.int .i64 a4_6); have hfz15_0 := blk_frozen BK107.out 0; have hfz15_1 := blk_frozen BK107.out 1; have hfz15_2 := blk_frozen BK107.out 2; have hfz15_3 := blk_frozen BK107.out 3; have hfz15_4 := blk_frozen BK107.out 4; have hfz15_5 := blk_frozen BK107.out 5; have hfz15_6 := blk_frozen BK107.out 6) | ((with_reducible refine gate_callee (f := 13) rfl ?_); refine goesLA_ (some 19) rfl rfl Tryd.func13 rfl #[.agg #[.int .i64 a4_0, .int .i64 a4_1, .int .i64 a4_2, .int .i64 a4_3, .int .i64 a4_4, .int .i64 a4_5, .int .i64 a4_6]] rfl ?_; (with_reducible refine (guide_First.calls a4_0 a4_1 a4_2 a4_3 a4_4 a4_5 a4_6 t109 _ A10.out).mono ?_); rintro e w16 ⟨rfl, hb⟩; refine ⟨_, rfl, ?_⟩; replace BK107 := bdZ BK107 hb; replace HB := stA hb; clear hb))
  go_ret
  exact ⟨by first | rfl | (simp [errW_none, errW_some] <;> rfl) | (simp only [← hji11, ← hji12]; first | rfl | (simp [errW_none, errW_some] <;> rfl)) | (simp [*, errW_none, errW_some] <;> rfl), by repeat (first | (with_reducible first | exact HB.out | apply below_alloc | apply pw_below_drewN | apply below_drew1 | refine below_set ?_ GE107.out) | exact HB.out)⟩

/-! ### epoch_Shift: function 30 -/
noncomputable def epoch_Shift.f (a0_0 : Bool) (a0_1 : Int) (a0_2 : Int) (a0_3 : Int) (a0_4 : Int) (a0_5 : Int) (a1 : Int) : Option (Bool × Int × Int × Int × Int × Int) := if a0_0 = true then (if a1 > 0 then ((safe_Add.f a0_1 a1).bind fun t112 => (some (a0_0, mn t112 1099511627776, a0_2, a0_3, a0_4, a0_5))) else (some (a0_0, a0_1, a0_2, a0_3, a0_4, a0_5))) else (some (a0_0, a0_1, a0_2, a0_3, a0_4, a0_5))
set_option maxHeartbeats 8000000 in
set_option maxRecDepth 100000 in
theorem epoch_Shift.calls (a0_0 : Bool) (a0_1 : Int) (a0_2 : Int) (a0_3 : Int) (a0_4 : Int) (a0_5 : Int) (a1 : Int) (r1 : Bool) (r2 : Int) (r3 : Int) (r4 : Int) (r5 : Int) (r6 : Int) (w : World) (h : epoch_Shift.f a0_0 a0_1 a0_2 a0_3 a0_4 a0_5 a1 = some (r1, r2, r3, r4, r5, r6)) :
  Calls Tryd.prog 30 #[.agg #[.bool a0_0, .int .i64 a0_1, .int .i64 a0_2, .int .i64 a0_3, .int .i64 a0_4, .int .i64 a0_5], .int .i64 a1] w fun e w' => e = .returned (.agg #[.bool r1, .int .i64 r2, .int .i64 r3, .int .i64 r4, .int .i64 r5, .int .i64 r6]) ∧ Below w.heap.size w w' := by
 have hu25 := Tryd.underlying25; have HB := Aside0.mk (Below.refl w.heap.size w); have H : (if a0_0 = true then (if a1 > 0 then ((safe_Add.f a0_1 a1).bind fun t112 => (some (a0_0, mn t112 1099511627776, a0_2, a0_3, a0_4, a0_5))) else (some (a0_0, a0_1, a0_2, a0_3, a0_4, a0_5))) else (some (a0_0, a0_1, a0_2, a0_3, a0_4, a0_5))) = some (r1, r2, r3, r4, r5, r6) := h; clear h
 by_cases c3 : a0_0 = true
 ·subst c3
  have H1 : (if a1 > 0 then ((safe_Add.f a0_1 a1).bind fun t112 => (some (true, mn t112 1099511627776, a0_2, a0_3, a0_4, a0_5))) else (some (true, a0_1, a0_2, a0_3, a0_4, a0_5))) = some (r1, r2, r3, r4, r5, r6) := by rw [if_pos rfl] at H; exact H
  clear H; have H := H1; clear H1
  by_cases c4 : a1 > 0
  ·rw [if_pos c4] at H
   have c4b0 : decide (0 < a1) = true := decide_eq_true c4; clear c4; replace H := Option.bind_eq_some_iff.mp H; obtain ⟨t112, A50, H⟩ := H; replace H : (some (true, mn t112 1099511627776, a0_2, a0_3, a0_4, a0_5)) = some (r1, r2, r3, r4, r5, r6) := H; have A5 := Aside0.mk A50; clear A50
   obtain ⟨ji6, hji6⟩ : ∃ j_ : Int, (mn t112 1099511627776) = j_ := ⟨_, rfl⟩
   replace H : (some (true, ji6, a0_2, a0_3, a0_4, a0_5)) = some (r1, r2, r3, r4, r5, r6) := by first | (rw [hji6] at H; exact H) | (simp only [hji6] at H ⊢; exact H)
   (try rw [hji6] at A5)
   (try (have hji6h : ji6 ≤ 1099511627776 := by (rw [← hji6]; unfold mn; (repeat' split) <;> omega)))
   (try (have hji6g : ji6 ≤ 64 := by omega))
   have hji6_ : (if 1099511627776 < t112 then 1099511627776 else t112) = ji6 := hji6; simp only [Option.some.injEq, Prod.mk.injEq] at H; obtain ⟨rfl, rfl, rfl, rfl, rfl, rfl⟩ := H
   go_enter Tryd.func30, Tryd.ntmps30
   go_wp2_with (first | ((with_reducible refine gate_dst (N := 2) rfl ?_); refine box_event ?hg (N := 2) ?hd (cs := #[.bool true, .int .i64 a0_1, .int .i64 a0_2, .int .i64 a0_3, .int .i64 a0_4, .int .i64 a0_5]) (t := 25) ?hr ?_; (case hd => rfl); (case hg => rfl); (case hr => first | (go_simp; done) | (go_simp; rfl)); intro gb110 hg w7 hbox hb; have BK110 := Aside0.mk (hbox); obtain ⟨GW110, nHB⟩ := geA hg hb; have GE110 := GW110; replace HB := nHB; clear nHB; clear hb hbox hg) | ((with_reducible refine gate_dst (N := 4) rfl ?_); refine box_event ?hg (N := 4) ?hd (cs := #[.bool false, .int .i64 0, .int .i64 0, .int .i64 0, .int .i64 0, .int .i64 0]) (t := 25) ?hr ?_; (case hd => rfl); (case hg => rfl); (case hr => first | (go_simp; done) | (go_simp; rfl)); intro gb111 hg w8 hbox hb; have BK111 := Aside0.mk (hbox); obtain ⟨GW111, nHB⟩ := geA hg hb; have GE111 := GW111; obtain ⟨NB110_111, NB111_110, nBK⟩ := nbA BK110 hg hb; replace BK110 := nBK; clear nBK; replace HB := nHB; clear nHB; clear hb hbox hg; have hnb9 := NB110_111.out; have hnc9 := NB111_110.out; have hcz10_0 := czZ BK110 0 (.bool true); have hcz10_1 := czZ BK110 1 (.int .i64 a0_1); have hcz10_2 := czZ BK110 2 (.int .i64 a0_2); have hcz10_3 := czZ BK110 3 (.int .i64 a0_3); have hcz10_4 := czZ BK110 4 (.int .i64 a0_4); have hcz10_5 := czZ BK110 5 (.int .i64 a0_5); have hfz10_0 := blk_frozen BK110.out 0; have hfz10_1 := blk_frozen BK110.out 1; have hfz10_2 := blk_frozen BK110.out 2; have hfz10_3 := blk_frozen BK110.out 3; have hfz10_4 := blk_frozen BK110.out 4; have hfz10_5 := blk_frozen BK110.out 5) | ((with_reducible refine gate_callee (f := 40) rfl ?_); refine goesLA_ (some 14) rfl rfl Tryd.func40 rfl #[.int .i64 a0_1, .int .i64 a1] rfl ?_; (with_reducible refine (safe_Add.calls a0_1 a1 t112 _ A5.out).mono ?_); rintro e w11 ⟨rfl, hb⟩; refine ⟨_, rfl, ?_⟩; replace BK110 := bdZ BK110 hb; replace BK111 := bdZ BK111 hb; replace HB := stA hb; clear hb; have hcz12_0 := czZ BK110 0 (.bool true); have hcz12_1 := czZ BK110 1 (.int .i64 a0_1); have hcz12_2 := czZ BK110 2 (.int .i64 a0_2); have hcz12_3 := czZ BK110 3 (.int .i64 a0_3); have hcz12_4 := czZ BK110 4 (.int .i64 a0_4); have hcz12_5 := czZ BK110 5 (.int .i64 a0_5); have hfz12_0 := blk_frozen BK110.out 0; have hfz12_1 := blk_frozen BK110.out 1; have hfz12_2 := blk_frozen BK110.out 2; have hfz12_3 := blk_frozen BK110.out 3; have hfz12_4 := blk_frozen BK110.out 4; have hfz12_5 := blk_frozen BK110.out 5; have hcz13_0 := czZ BK111 0 (.bool false); have hcz13_1 := czZ BK111 1 (.int .i64 0); have hcz13_2 := czZ BK111 2 (.int .i64 0); have hcz13_3 := czZ BK111 3 (.int .i64 0); have hcz13_4 := czZ BK111 4 (.int .i64 0); have hcz13_5 := czZ BK111 5 (.int .i64 0); have hfz13_0 := blk_frozen BK111.out 0; have hfz13_1 := blk_frozen BK111.out 1; have hfz13_2 := blk_frozen BK111.out 2; have hfz13_3 := blk_frozen BK111.out 3; have hfz13_4 := blk_frozen BK111.out 4; have hfz13_5 := blk_frozen BK111.out 5))
   refine bodyPost_ret (results_cell_row rfl _ _ gb111 25 #[.bool true, .int .i64 ji6, .int .i64 a0_2, .int .i64 a0_3, .int .i64 a0_4, .int .i64 a0_5] (0, 0) _ rfl (by (with_reducible repeat first | apply blk_drewN | apply blk_drew | apply blk_alloc); refine blk_put (cs := #[.bool true, .int .i64 ji6, .int .i64 a0_2, .int .i64 a0_3, .int .i64 a0_4, .int .i64 0]) ?_ 5 _ rfl; (with_reducible repeat first | apply blk_drewN | apply blk_drew | apply blk_alloc); refine blk_put (cs := #[.bool true, .int .i64 ji6, .int .i64 a0_2, .int .i64 a0_3, .int .i64 0, .int .i64 0]) ?_ 4 _ rfl; (with_reducible repeat first | apply blk_drewN | apply blk_drew | apply blk_alloc); refine blk_put (cs := #[.bool true, .int .i64 ji6, .int .i64 a0_2, .int .i64 0, .int .i64 0, .int .i64 0]) ?_ 3 _ rfl; (with_reducible repeat first | apply blk_drewN | apply blk_drew | apply blk_alloc); refine blk_put (cs := #[.bool true, .int .i64 ji6, .int .i64 0, .int .i64 0, .int .i64 0, .int .i64 0]) ?_ 2 _ rfl; (with_reducible repeat first | apply blk_drewN | apply blk_drew | apply blk_alloc); refine blk_put (cs := #[.bool true, .int .i64 0, .int .i64 0, .int .i64 0, .int .i64 0, .int .i64 0]) ?_ 1 _ rfl; (with_reducible repeat first | apply blk_drewN | apply blk_drew | apply blk_alloc); refine blk_put (cs := #[.bool false, .int .i64 0, .int .i64 0, .int .i64 0, .int .i64 0, .int .i64 0]) ?_ 0 _ rfl; (with_reducible repeat first | apply blk_drewN | apply blk_drew | apply blk_alloc); refine blk_far ?_ NB111_110.out _; (with_reducible repeat first | apply blk_drewN | apply blk_drew | apply blk_alloc); exact BK111.out) Tryd.underlying25 rfl (by kernel_rfl)) rfl ?_; exact ⟨by first | rfl | (simp [errW_none, errW_some] <;> rfl) | (simp only [← hji6]; first | rfl | (simp [errW_none, errW_some] <;> rfl)) | (simp [*, errW_none, errW_some] <;> rfl), by repeat (first | (with_reducible first | exact HB.out | apply below_alloc | apply pw_below_drewN | apply below_drew1 | refine below_set ?_ (Aside0.out (by assumption))) | exact HB.out)⟩
  ·rw [if_neg c4] at H
   have c4b0 : decide (0 < a1) = false := decide_eq_false c4; clear c4; simp only [Option.some.injEq, Prod.mk.injEq] at H; obtain ⟨rfl, rfl, rfl, rfl, rfl, rfl⟩ := H
   go_enter Tryd.func30, Tryd.ntmps30
   go_wp2_with (first | ((with_reducible refine gate_dst (N := 2) rfl ?_); refine box_event ?hg (N := 2) ?hd (cs := #[.bool true, .int .i64 a0_1, .int .i64 a0_2, .int .i64 a0_3, .int .i64 a0_4, .int .i64 a0_5]) (t := 25) ?hr ?_; (case hd => rfl); (case hg => rfl); (case hr => first | (go_simp; done) | (go_simp; rfl)); intro gb110 hg w14 hbox hb; have BK110 := Aside0.mk (hbox); obtain ⟨GW110, nHB⟩ := geA hg hb; have GE110 := GW110; replace HB := nHB; clear nHB; clear hb hbox hg) | ((with_reducible refine gate_dst (N := 4) rfl ?_); refine box_event ?hg (N := 4) ?hd (cs := #[.bool false, .int .i64 0, .int .i64 0, .int .i64 0, .int .i64 0, .int .i64 0]) (t := 25) ?hr ?_; (case hd => rfl); (case hg => rfl); (case hr => first | (go_simp; done) | (go_simp; rfl)); intro gb111 hg w15 hbox hb; have BK111 := Aside0.mk (hbox); obtain ⟨GW111, nHB⟩ := geA hg hb; have GE111 := GW111; obtain ⟨NB110_111, NB111_110, nBK⟩ := nbA BK110 hg hb; replace BK110 := nBK; clear nBK; replace HB := nHB; clear nHB; clear hb hbox hg; have hnb16 := NB110_111.out; have hnc16 := NB111_110.out; have hcz17_0 := czZ BK110 0 (.bool true); have hcz17_1 := czZ BK110 1 (.int .i64 a0_1); have hcz17_2 := czZ BK110 2 (.int .i64 a0_2); have hcz17_3 := czZ BK110 3 (.int .i64 a0_3); have hcz17_4 := czZ BK110 4 (.int .i64 a0_4); have hcz17_5 := czZ BK110 5 (.int .i64 a0_5); have hfz17_0 := blk_frozen BK110.out 0; have hfz17_1 := blk_frozen BK110.out 1; have hfz17_2 := blk_frozen BK110.out 2; have hfz17_3 := blk_frozen BK110.out 3; have hfz17_4 := blk_frozen BK110.out 4; have hfz17_5 := blk_frozen BK110.out 5; have hcz18_0 := czZ BK111 0 (.bool false); have hcz18_1 := czZ BK111 1 (.int .i64 0); have hcz18_2 := czZ BK111 2 (.int .i64 0); have hcz18_3 := czZ BK111 3 (.int .i64 0); have hcz18_4 := czZ BK111 4 (.int .i64 0); have hcz18_5 := czZ BK111 5 (.int .i64 0); have hfz18_0 := blk_frozen BK111.out 0; have hfz18_1 := blk_frozen BK111.out 1; have hfz18_2 := blk_frozen BK111.out 2; have hfz18_3 := blk_frozen BK111.out 3; have hfz18_4 := blk_frozen BK111.out 4; have hfz18_5 := blk_frozen BK111.out 5))
   refine bodyPost_ret (results_cell_row rfl _ _ gb111 25 #[.bool true, .int .i64 a0_1, .int .i64 a0_2, .int .i64 a0_3, .int .i64 a0_4, .int .i64 a0_5] (0, 0) _ rfl (by (with_reducible repeat first | apply blk_drewN | apply blk_drew | apply blk_alloc); refine blk_put (cs := #[.bool true, .int .i64 a0_1, .int .i64 a0_2, .int .i64 a0_3, .int .i64 a0_4, .int .i64 0]) ?_ 5 _ rfl; (with_reducible repeat first | apply blk_drewN | apply blk_drew | apply blk_alloc); refine blk_put (cs := #[.bool true, .int .i64 a0_1, .int .i64 a0_2, .int .i64 a0_3, .int .i64 0, .int .i64 0]) ?_ 4 _ rfl; (with_reducible repeat first | apply blk_drewN | apply blk_drew | apply blk_alloc); refine blk_put (cs := #[.bool true, .int .i64 a0_1, .int .i64 a0_2, .int .i64 0, .int .i64 0, .int .i64 0]) ?_ 3 _ rfl; (with_reducible repeat first | apply blk_drewN | apply blk_drew | apply blk_alloc); refine blk_put (cs := #[.bool true, .int .i64 a0_1, .int .i64 0, .int .i64 0, .int .i64 0, .int .i64 0]) ?_ 2 _ rfl; (with_reducible repeat first | apply blk_drewN | apply blk_drew | apply blk_alloc); refine blk_put (cs := #[.bool true, .int .i64 0, .int .i64 0, .int .i64 0, .int .i64 0, .int .i64 0]) ?_ 1 _ rfl; (with_reducible repeat first | apply blk_drewN | apply blk_drew | apply blk_alloc); refine blk_put (cs := #[.bool false, .int .i64 0, .int .i64 0, .int .i64 0, .int .i64 0, .int .i64 0]) ?_ 0 _ rfl; (with_reducible repeat first | apply blk_drewN | apply blk_drew | apply blk_alloc); exact BK111.out) Tryd.underlying25 rfl (by kernel_rfl)) rfl ?_; exact ⟨by first | rfl | (simp [errW_none, errW_some] <;> rfl) | (simp [*, errW_none, errW_some] <;> rfl), by repeat (first | (with_reducible first | exact HB.out | apply below_alloc | apply pw_below_drewN | apply below_drew1 | refine below_set ?_ (Aside0.out (by assumption))) | exact HB.out)⟩
 ·replace c3 := Bool.eq_false_iff.mpr c3
  subst c3
  have H1 : (some (false, a0_1, a0_2, a0_3, a0_4, a0_5)) = some (r1, r2, r3, r4, r5, r6) := by rw [if_neg (show ¬ (false = true) by decide)] at H; exact H
  clear H; have H := H1; clear H1; simp only [Option.some.injEq, Prod.mk.injEq] at H; obtain ⟨rfl, rfl, rfl, rfl, rfl, rfl⟩ := H
  go_enter Tryd.func30, Tryd.ntmps30
  go_wp2_with (first | ((with_reducible refine gate_dst (N := 2) rfl ?_); refine box_event ?hg (N := 2) ?hd (cs := #[.bool false, .int .i64 a0_1, .int .i64 a0_2, .int .i64 a0_3, .int .i64 a0_4, .int .i64 a0_5]) (t := 25) ?hr ?_; (case hd => rfl); (case hg => rfl); (case hr => first | (go_simp; done) | (go_simp; rfl)); intro gb110 hg w19 hbox hb; have BK110 := Aside0.mk (hbox); obtain ⟨GW110, nHB⟩ := geA hg hb; have GE110 := GW110; replace HB := nHB; clear nHB; clear hb hbox hg) | ((with_reducible refine gate_dst (N := 4) rfl ?_); refine box_event ?hg (N := 4) ?hd (cs := #[.bool false, .int .i64 0, .int .i64 0, .int .i64 0, .int .i64 0, .int .i64 0]) (t := 25) ?hr ?_; (case hd => rfl); (case hg => rfl); (case hr => first | (go_simp; done) | (go_simp; rfl)); intro gb111 hg w20 hbox hb; have BK111 := Aside0.mk (hbox); obtain ⟨GW111, nHB⟩ := geA hg hb; have GE111 := GW111; obtain ⟨NB110_111, NB111_110, nBK⟩ := nbA BK110 hg hb; replace BK110 := nBK; clear nBK; replace HB := nHB; clear nHB; clear hb hbox hg; have hnb21 := NB110_111.out; have hnc21 := NB111_110.out; have hcz22_0 := czZ BK110 0 (.bool false); have hcz22_1 := czZ BK110 1 (.int .i64 a0_1); have hcz22_2 := czZ BK110 2 (.int .i64 a0_2); have hcz22_3 := czZ BK110 3 (.int .i64 a0_3); have hcz22_4 := czZ BK110 4 (.int .i64 a0_4); have hcz22_5 := czZ BK110 5 (.int .i64 a0_5); have hfz22_0 := blk_frozen BK110.out 0; have hfz22_1 := blk_frozen BK110.out 1; have hfz22_2 := blk_frozen BK110.out 2; have hfz22_3 := blk_frozen BK110.out 3; have hfz22_4 := blk_frozen BK110.out 4; have hfz22_5 := blk_frozen BK110.out 5; have hcz23_0 := czZ BK111 0 (.bool false); have hcz23_1 := czZ BK111 1 (.int .i64 0); have hcz23_2 := czZ BK111 2 (.int .i64 0); have hcz23_3 := czZ BK111 3 (.int .i64 0); have hcz23_4 := czZ BK111 4 (.int .i64 0); have hcz23_5 := czZ BK111 5 (.int .i64 0); have hfz23_0 := blk_frozen BK111.out 0; have hfz23_1 := blk_frozen BK111.out 1; have hfz23_2 := blk_frozen BK111.out 2; have hfz23_3 := blk_frozen BK111.out 3; have hfz23_4 := blk_frozen BK111.out 4; have hfz23_5 := blk_frozen BK111.out 5))
  refine bodyPost_ret (results_cell_row rfl _ _ gb111 25 #[.bool false, .int .i64 a0_1, .int .i64 a0_2, .int .i64 a0_3, .int .i64 a0_4, .int .i64 a0_5] (0, 0) _ rfl (by (with_reducible repeat first | apply blk_drewN | apply blk_drew | apply blk_alloc); refine blk_put (cs := #[.bool false, .int .i64 a0_1, .int .i64 a0_2, .int .i64 a0_3, .int .i64 a0_4, .int .i64 0]) ?_ 5 _ rfl; (with_reducible repeat first | apply blk_drewN | apply blk_drew | apply blk_alloc); refine blk_put (cs := #[.bool false, .int .i64 a0_1, .int .i64 a0_2, .int .i64 a0_3, .int .i64 0, .int .i64 0]) ?_ 4 _ rfl; (with_reducible repeat first | apply blk_drewN | apply blk_drew | apply blk_alloc); refine blk_put (cs := #[.bool false, .int .i64 a0_1, .int .i64 a0_2, .int .i64 0, .int .i64 0, .int .i64 0]) ?_ 3 _ rfl; (with_reducible repeat first | apply blk_drewN | apply blk_drew | apply blk_alloc); refine blk_put (cs := #[.bool false, .int .i64 a0_1, .int .i64 0, .int .i64 0, .int .i64 0, .int .i64 0]) ?_ 2 _ rfl; (with_reducible repeat first | apply blk_drewN | apply blk_drew | apply blk_alloc); refine blk_put (cs := #[.bool false, .int .i64 0, .int .i64 0, .int .i64 0, .int .i64 0, .int .i64 0]) ?_ 1 _ rfl; (with_reducible repeat first | apply blk_drewN | apply blk_drew | apply blk_alloc); refine blk_put (cs := #[.bool false, .int .i64 0, .int .i64 0, .int .i64 0, .int .i64 0, .int .i64 0]) ?_ 0 _ rfl; (with_reducible repeat first | apply blk_drewN | apply blk_drew | apply blk_alloc); exact BK111.out) Tryd.underlying25 rfl (by kernel_rfl)) rfl ?_; exact ⟨by first | rfl | (simp [errW_none, errW_some] <;> rfl) | (simp [*, errW_none, errW_some] <;> rfl), by repeat (first | (with_reducible first | exact HB.out | apply below_alloc | apply pw_below_drewN | apply below_drew1 | refine below_set ?_ (Aside0.out (by assumption))) | exact HB.out)⟩

/-! ### epoch_ShiftS: pure, behind function 30 -/
section
open Go.Proofs.YtbpcfamjidjhjaaDoor.Sp
noncomputable def epoch_ShiftS.f (on : Bool) (s : Int) (f : Int) (m : Int) (k : Int) (e : Int) (d : Int) : Option (Bool × Int × Int × Int × Int × Int) := need ((I s) ∧ (I d)) (some (on, laterQ on s d, f, m, k, e))
theorem epoch_ShiftS.eq {on : Bool} {s : Int} {f : Int} {m : Int} {k : Int} {e : Int} {d : Int} (h1 : I s) (h2 : I d) : epoch_ShiftS.f on s f m k e d = some (on, laterQ on s d, f, m, k, e) := need_pos ⟨h1, h2⟩
theorem epoch_Shift.main {on : Bool} {s : Int} {f : Int} {m : Int} {k : Int} {e : Int} {d : Int} (h1 : I s) (h2 : I d) : epoch_Shift.f on s f m k e d = some (on, laterQ on s d, f, m, k, e) := by
 unfold epoch_Shift.f laterQ
 by_cases c1 : on = true
 ·by_cases c2 : d > 0
  ·rw [if_pos c1, if_pos c2, if_pos (show on = true ∧ 0 < d from ⟨c1, c2⟩), safe_Add.eq h1 h2]
   simp only [Option.bind_some]
   have q : mn (near (s + d)) 1099511627776 = if 1099511627776 < s + d then 1099511627776 else s + d := by unfold mn near; (repeat' split) <;> first | rfl | omega
   rw [q]
  ·rw [if_pos c1, if_neg c2, if_neg (show ¬ (on = true ∧ 0 < d) from fun x => c2 x.2)]
 ·rw [if_neg c1, if_neg (show ¬ (on = true ∧ 0 < d) from fun x => c1 x.1)]
end
theorem epoch_ShiftS.calls (a0_0 : Bool) (a0_1 : Int) (a0_2 : Int) (a0_3 : Int) (a0_4 : Int) (a0_5 : Int) (a1 : Int) (r1 : Bool) (r2 : Int) (r3 : Int) (r4 : Int) (r5 : Int) (r6 : Int) (w : World) (h : epoch_ShiftS.f a0_0 a0_1 a0_2 a0_3 a0_4 a0_5 a1 = some (r1, r2, r3, r4, r5, r6)) :
  Calls Tryd.prog 30 #[.agg #[.bool a0_0, .int .i64 a0_1, .int .i64 a0_2, .int .i64 a0_3, .int .i64 a0_4, .int .i64 a0_5], .int .i64 a1] w fun e w' => e = .returned (.agg #[.bool r1, .int .i64 r2, .int .i64 r3, .int .i64 r4, .int .i64 r5, .int .i64 r6]) ∧ Below w.heap.size w w' := by
 obtain ⟨hc, h⟩ := Sp.need_some h; obtain ⟨h1, h2⟩ := hc; exact epoch_Shift.calls a0_0 a0_1 a0_2 a0_3 a0_4 a0_5 a1 r1 r2 r3 r4 r5 r6 w (by rw [epoch_Shift.main h1 h2]; exact h)

/-! ### guide_Pause: function 17 -/
noncomputable def guide_Pause.f (a0_0 : Bool) (a0_1 : Int) (a0_2 : Int) (a0_3 : Int) (a0_4 : Int) (a0_5 : Int) (a1 : Int) (a2 : Int) : Option (Bool × Int × Int × Int × Int × Int) := (safe_SubS.f a2 a1).bind fun t115 => ((epoch_ShiftS.f a0_0 a0_1 a0_2 a0_3 a0_4 a0_5 t115).bind fun bt116 => (some (bt116.1, bt116.2.1, bt116.2.2.1, bt116.2.2.2.1, bt116.2.2.2.2.1, bt116.2.2.2.2.2)))
set_option maxHeartbeats 8000000 in
set_option maxRecDepth 100000 in
theorem guide_Pause.calls (a0_0 : Bool) (a0_1 : Int) (a0_2 : Int) (a0_3 : Int) (a0_4 : Int) (a0_5 : Int) (a1 : Int) (a2 : Int) (r1 : Bool) (r2 : Int) (r3 : Int) (r4 : Int) (r5 : Int) (r6 : Int) (w : World) (h : guide_Pause.f a0_0 a0_1 a0_2 a0_3 a0_4 a0_5 a1 a2 = some (r1, r2, r3, r4, r5, r6)) :
  Calls Tryd.prog 17 #[.agg #[.bool a0_0, .int .i64 a0_1, .int .i64 a0_2, .int .i64 a0_3, .int .i64 a0_4, .int .i64 a0_5], .int .i64 a1, .int .i64 a2] w fun e w' => e = .returned (.agg #[.bool r1, .int .i64 r2, .int .i64 r3, .int .i64 r4, .int .i64 r5, .int .i64 r6]) ∧ Below w.heap.size w w' := by
 have hu25 := Tryd.underlying25; have HB := Aside0.mk (Below.refl w.heap.size w); have H : ((safe_SubS.f a2 a1).bind fun t115 => ((epoch_ShiftS.f a0_0 a0_1 a0_2 a0_3 a0_4 a0_5 t115).bind fun bt116 => (some (bt116.1, bt116.2.1, bt116.2.2.1, bt116.2.2.2.1, bt116.2.2.2.2.1, bt116.2.2.2.2.2)))) = some (r1, r2, r3, r4, r5, r6) := h; clear h; replace H := Option.bind_eq_some_iff.mp H; obtain ⟨t115, A40, H⟩ := H; replace H : ((epoch_ShiftS.f a0_0 a0_1 a0_2 a0_3 a0_4 a0_5 t115).bind fun bt116 => (some (bt116.1, bt116.2.1, bt116.2.2.1, bt116.2.2.2.1, bt116.2.2.2.2.1, bt116.2.2.2.2.2))) = some (r1, r2, r3, r4, r5, r6) := H; have A4 := Aside0.mk A40; clear A40; replace H := Option.bind_eq_some_iff.mp H; obtain ⟨⟨t116, t117, t118, t119, t120, t121⟩, A50, H⟩ := H; replace H : (some (t116, t117, t118, t119, t120, t121)) = some (r1, r2, r3, r4, r5, r6) := H; have A5 := Aside0.mk A50; clear A50; simp only [Option.some.injEq, Prod.mk.injEq] at H; obtain ⟨rfl, rfl, rfl, rfl, rfl, rfl⟩ := H
 go_enter Tryd.func17, Tryd.ntmps17
 try go_wp2_with (first | ((with_reducible refine gate_dst (N := 3) rfl ?_); refine box_event ?hg (N := 3) ?hd (cs := #[.bool a0_0, .int .i64 a0_1, .int .i64 a0_2, .int .i64 a0_3, .int .i64 a0_4, .int .i64 a0_5]) (t := 25) ?hr ?_; (case hd => rfl); (case hg => rfl); (case hr => first | (go_simp; done) | (go_simp; rfl)); intro gb113 hg w6 hbox hb; have BK113 := Aside0.mk (hbox); obtain ⟨GW113, nHB⟩ := geA hg hb; have GE113 := GW113; replace HB := nHB; clear nHB; clear hb hbox hg) | ((with_reducible refine gate_dst (N := 6) rfl ?_); refine box_event ?hg (N := 6) ?hd (cs := #[.bool false, .int .i64 0, .int .i64 0, .int .i64 0, .int .i64 0, .int .i64 0]) (t := 25) ?hr ?_; (case hd => rfl); (case hg => rfl); (case hr => first | (go_simp; done) | (go_simp; rfl)); intro gb114 hg w7 hbox hb; have BK114 := Aside0.mk (hbox); obtain ⟨GW114, nHB⟩ := geA hg hb; have GE114 := GW114; obtain ⟨NB113_114, NB114_113, nBK⟩ := nbA BK113 hg hb; replace BK113 := nBK; clear nBK; replace HB := nHB; clear nHB; clear hb hbox hg))
 replace BK113 := Aside0.mk (blk_drew BK113.out); replace BK114 := Aside0.mk (blk_drew BK114.out); replace HB := Aside0.mk (below_drew1 HB.out); refine start_ (n := 6) (S := fun w' => w'.cell? ⟨gb113, 0, none⟩ = some (.bool a0_0) ∧ w'.cell? ⟨gb113, 1, none⟩ = some (.int .i64 a0_1) ∧ w'.cell? ⟨gb113, 2, none⟩ = some (.int .i64 a0_2) ∧ w'.cell? ⟨gb113, 3, none⟩ = some (.int .i64 a0_3) ∧ w'.cell? ⟨gb113, 4, none⟩ = some (.int .i64 a0_4) ∧ w'.cell? ⟨gb113, 5, none⟩ = some (.int .i64 a0_5)) (ds := []) #[N,N,N,N,N,N] (by kernel_rfl) rfl rfl ⟨(blk_cell BK113.out 0).trans rfl, (blk_cell BK113.out 1).trans rfl, (blk_cell BK113.out 2).trans rfl, (blk_cell BK113.out 3).trans rfl, (blk_cell BK113.out 4).trans rfl, (blk_cell BK113.out 5).trans rfl⟩ (fun hHeld => ?_)
 generalize w7.drew = w8 at BK113 BK114 HB hHeld ⊢
 refine pureA_ (i := 1) (N := some 8) #[N,Y,N,N,N,N] rfl rfl (by kernel_rfl) ?_
 refine pureA_ (i := 2) (N := some 9) #[N,Y,Y,N,N,N] rfl rfl (by kernel_rfl) ?_
 refine take_ (i := 0) (N := some 7) (v := ?_) (a' := ?_) #[Y,Y,Y,N,N,N] rfl rfl (by kernel_rfl) (fun _ _ _ h => h) (Or.inl ⟨by rfl, ?_⟩) hHeld ?_ ?_; rotate_left
 ·rintro w' ⟨s0, s1, s2, s3, s4, s5⟩; go_simp
  with_reducible rfl
 rotate_left
 ·simp only [Act.put, sA, sB, sC, i64_w, i32_w]
  rfl
 refine one_ (i := 3) (N := some 10) #[Y,Y,Y,Y,N,N] rfl rfl (by kernel_rfl) (by decide) (fun K hK => ?_); refine goesA_ Tryd.func28 rfl #[.int .i64 a2, .int .i64 a1] (by rfl) rfl rfl ?_
 with_reducible refine (safe_SubS.calls a2 a1 t115 _ A4.out).mono ?_
 rintro e w9 ⟨rfl, hb⟩; refine ⟨_, rfl, ?_⟩; replace BK113 := bbZ BK113 hb; replace BK114 := bbZ BK114 hb; replace HB := Aside0.mk (below_step HB.out hb); clear hb; refine hK.out _ _ ⟨(blk_cell BK113.out 0).trans rfl, (blk_cell BK113.out 1).trans rfl, (blk_cell BK113.out 2).trans rfl, (blk_cell BK113.out 3).trans rfl, (blk_cell BK113.out 4).trans rfl, (blk_cell BK113.out 5).trans rfl⟩ (fun hHeld => ?_); clear hK K; refine normA_ (some 10) ?_
 refine one_ (i := 4) (N := some 11) #[Y,Y,Y,Y,Y,N] rfl rfl (by kernel_rfl) (by decide) (fun K hK => ?_); refine goesA_ Tryd.func30 rfl #[.agg #[.bool a0_0, .int .i64 a0_1, .int .i64 a0_2, .int .i64 a0_3, .int .i64 a0_4, .int .i64 a0_5], .int .i64 t115] (by rfl) rfl rfl ?_
 with_reducible refine (epoch_ShiftS.calls a0_0 a0_1 a0_2 a0_3 a0_4 a0_5 t115 t116 t117 t118 t119 t120 t121 _ A5.out).mono ?_
 rintro e w10 ⟨rfl, hb⟩; refine ⟨_, rfl, ?_⟩; replace BK113 := bbZ BK113 hb; replace BK114 := bbZ BK114 hb; replace HB := Aside0.mk (below_step HB.out hb); clear hb; refine hK.out _ _ ⟨(blk_cell BK113.out 0).trans rfl, (blk_cell BK113.out 1).trans rfl, (blk_cell BK113.out 2).trans rfl, (blk_cell BK113.out 3).trans rfl, (blk_cell BK113.out 4).trans rfl, (blk_cell BK113.out 5).trans rfl⟩ (fun hHeld => ?_); clear hK K; refine normA_ (some 11) ?_
 refine one_ (i := 5) (N := none) #[Y,Y,Y,Y,Y,Y] rfl rfl (by kernel_rfl) (by decide) (fun K hK => ?_); have hs11 := czZ BK114 0 (.bool false); have hfs11 := blk_frozen BK114.out 0; have hns11_0 := NB113_114.out; have hms11_0 := NB114_113.out; have hs12 := czZ BK114 1 (.int .i64 0); have hfs12 := blk_frozen BK114.out 1; have hns12_0 := NB113_114.out; have hms12_0 := NB114_113.out; have hs13 := czZ BK114 2 (.int .i64 0); have hfs13 := blk_frozen BK114.out 2; have hns13_0 := NB113_114.out; have hms13_0 := NB114_113.out; have hs14 := czZ BK114 3 (.int .i64 0); have hfs14 := blk_frozen BK114.out 3; have hns14_0 := NB113_114.out; have hms14_0 := NB114_113.out; have hs15 := czZ BK114 4 (.int .i64 0); have hfs15 := blk_frozen BK114.out 4; have hns15_0 := NB113_114.out; have hms15_0 := NB114_113.out; have hs16 := czZ BK114 5 (.int .i64 0); have hfs16 := blk_frozen BK114.out 5; have hns16_0 := NB113_114.out; have hms16_0 := NB114_113.out; refine skip_ (w1 := ?_) (by rfl) rfl ?_ ?_; rotate_left
 ·go_simp
  rfl
 refine hK.out _ _ ⟨((cell_far (p := ⟨gb114, _, none⟩) NB113_114.out _).trans (((cell_far (p := ⟨gb114, _, none⟩) NB113_114.out _).trans (((cell_far (p := ⟨gb114, _, none⟩) NB113_114.out _).trans (((cell_far (p := ⟨gb114, _, none⟩) NB113_114.out _).trans (((cell_far (p := ⟨gb114, _, none⟩) NB113_114.out _).trans (((cell_far (p := ⟨gb114, _, none⟩) NB113_114.out _).trans (hHeld.1)))))))))))), ((cell_far (p := ⟨gb114, _, none⟩) NB113_114.out _).trans (((cell_far (p := ⟨gb114, _, none⟩) NB113_114.out _).trans (((cell_far (p := ⟨gb114, _, none⟩) NB113_114.out _).trans (((cell_far (p := ⟨gb114, _, none⟩) NB113_114.out _).trans (((cell_far (p := ⟨gb114, _, none⟩) NB113_114.out _).trans (((cell_far (p := ⟨gb114, _, none⟩) NB113_114.out _).trans (hHeld.2.1)))))))))))), ((cell_far (p := ⟨gb114, _, none⟩) NB113_114.out _).trans (((cell_far (p := ⟨gb114, _, none⟩) NB113_114.out _).trans (((cell_far (p := ⟨gb114, _, none⟩) NB113_114.out _).trans (((cell_far (p := ⟨gb114, _, none⟩) NB113_114.out _).trans (((cell_far (p := ⟨gb114, _, none⟩) NB113_114.out _).trans (((cell_far (p := ⟨gb114, _, none⟩) NB113_114.out _).trans (hHeld.2.2.1)))))))))))), ((cell_far (p := ⟨gb114, _, none⟩) NB113_114.out _).trans (((cell_far (p := ⟨gb114, _, none⟩) NB113_114.out _).trans (((cell_far (p := ⟨gb114, _, none⟩) NB113_114.out _).trans (((cell_far (p := ⟨gb114, _, none⟩) NB113_114.out _).trans (((cell_far (p := ⟨gb114, _, none⟩) NB113_114.out _).trans (((cell_far (p := ⟨gb114, _, none⟩) NB113_114.out _).trans (hHeld.2.2.2.1)))))))))))), ((cell_far (p := ⟨gb114, _, none⟩) NB113_114.out _).trans (((cell_far (p := ⟨gb114, _, none⟩) NB113_114.out _).trans (((cell_far (p := ⟨gb114, _, none⟩) NB113_114.out _).trans (((cell_far (p := ⟨gb114, _, none⟩) NB113_114.out _).trans (((cell_far (p := ⟨gb114, _, none⟩) NB113_114.out _).trans (((cell_far (p := ⟨gb114, _, none⟩) NB113_114.out _).trans (hHeld.2.2.2.2.1)))))))))))), ((cell_far (p := ⟨gb114, _, none⟩) NB113_114.out _).trans (((cell_far (p := ⟨gb114, _, none⟩) NB113_114.out _).trans (((cell_far (p := ⟨gb114, _, none⟩) NB113_114.out _).trans (((cell_far (p := ⟨gb114, _, none⟩) NB113_114.out _).trans (((cell_far (p := ⟨gb114, _, none⟩) NB113_114.out _).trans (((cell_far (p := ⟨gb114, _, none⟩) NB113_114.out _).trans (hHeld.2.2.2.2.2))))))))))))⟩ (fun hHeld => ?_); clear hK K; refine done_ (by kernel_rfl) ?_
 try go_wp2
 refine bodyPost_ret (results_cell_row rfl _ _ gb114 25 #[.bool t116, .int .i64 t117, .int .i64 t118, .int .i64 t119, .int .i64 t120, .int .i64 t121] (0, 0) _ rfl (by (with_reducible repeat first | apply blk_drewN | apply blk_drew | apply blk_alloc); refine blk_put (cs := #[.bool t116, .int .i64 t117, .int .i64 t118, .int .i64 t119, .int .i64 t120, .int .i64 0]) ?_ 5 _ rfl; (with_reducible repeat first | apply blk_drewN | apply blk_drew | apply blk_alloc); refine blk_put (cs := #[.bool t116, .int .i64 t117, .int .i64 t118, .int .i64 t119, .int .i64 0, .int .i64 0]) ?_ 4 _ rfl; (with_reducible repeat first | apply blk_drewN | apply blk_drew | apply blk_alloc); refine blk_put (cs := #[.bool t116, .int .i64 t117, .int .i64 t118, .int .i64 0, .int .i64 0, .int .i64 0]) ?_ 3 _ rfl; (with_reducible repeat first | apply blk_drewN | apply blk_drew | apply blk_alloc); refine blk_put (cs := #[.bool t116, .int .i64 t117, .int .i64 0, .int .i64 0, .int .i64 0, .int .i64 0]) ?_ 2 _ rfl; (with_reducible repeat first | apply blk_drewN | apply blk_drew | apply blk_alloc); refine blk_put (cs := #[.bool t116, .int .i64 0, .int .i64 0, .int .i64 0, .int .i64 0, .int .i64 0]) ?_ 1 _ rfl; (with_reducible repeat first | apply blk_drewN | apply blk_drew | apply blk_alloc); refine blk_put (cs := #[.bool false, .int .i64 0, .int .i64 0, .int .i64 0, .int .i64 0, .int .i64 0]) ?_ 0 _ rfl; (with_reducible repeat first | apply blk_drewN | apply blk_drew | apply blk_alloc); exact BK114.out) Tryd.underlying25 rfl (by kernel_rfl)) rfl ?_; exact ⟨by first | rfl | (simp [errW_none, errW_some] <;> rfl) | (simp [*, errW_none, errW_some] <;> rfl), by repeat (first | (with_reducible first | exact HB.out | apply below_alloc | apply pw_below_drewN | apply below_drew1 | refine below_set ?_ (Aside0.out (by assumption))) | exact HB.out)⟩

/-! ### big_of: function 44 -/
noncomputable def big_of.f (a0_0 : Bool) (a0_1 : Int) (a0_2 : Int) : Option (Int × Int) := some (a0_1, a0_2)
set_option maxHeartbeats 8000000 in
set_option maxRecDepth 100000 in
theorem big_of.calls (a0_0 : Bool) (a0_1 : Int) (a0_2 : Int) (r1 : Int) (r2 : Int) (w : World) (h : big_of.f a0_0 a0_1 a0_2 = some (r1, r2)) :
  Calls Tryd.prog 44 #[.agg #[.bool a0_0, .int .u64 a0_1, .int .u64 a0_2]] w fun e w' => e = .returned (.agg #[.int .u64 r1, .int .u64 r2]) ∧ Below w.heap.size w w' := by
 have hu59 := Tryd.underlying59; have hu69 := Tryd.underlying69; have HB := Aside0.mk (Below.refl w.heap.size w); have H : (some (a0_1, a0_2)) = some (r1, r2) := h; clear h; simp only [Option.some.injEq, Prod.mk.injEq] at H; obtain ⟨rfl, rfl⟩ := H
 go_enter Tryd.func44, Tryd.ntmps44
 go_wp2_with (first | ((with_reducible refine gate_dst (N := 1) rfl ?_); refine box_event ?hg (N := 1) ?hd (cs := #[.bool a0_0, .int .u64 a0_1, .int .u64 a0_2]) (t := 59) ?hr ?_; (case hd => rfl); (case hg => rfl); (case hr => first | (go_simp; done) | (go_simp; rfl)); intro gb122 hg w2 hbox hb; have BK122 := Aside0.mk (hbox); obtain ⟨GW122, nHB⟩ := geA hg hb; have GE122 := GW122; replace HB := nHB; clear nHB; clear hb hbox hg) | ((with_reducible refine gate_dst (N := 2) rfl ?_); refine box_event ?hg (N := 2) ?hd (cs := #[.int .u64 0, .int .u64 0]) (t := 69) ?hr ?_; (case hd => rfl); (case hg => rfl); (case hr => first | (go_simp; done) | (go_simp; rfl)); intro gb123 hg w3 hbox hb; have BK123 := Aside0.mk (hbox); obtain ⟨GW123, nHB⟩ := geA hg hb; have GE123 := GW123; obtain ⟨NB122_123, NB123_122, nBK⟩ := nbA BK122 hg hb; replace BK122 := nBK; clear nBK; replace HB := nHB; clear nHB; clear hb hbox hg; have hnb4 := NB122_123.out; have hnc4 := NB123_122.out; have hcz5_0 := czZ BK122 0 (.bool a0_0); have hcz5_1 := czZ BK122 1 (.int .u64 a0_1); have hcz5_2 := czZ BK122 2 (.int .u64 a0_2); have hfz5_0 := blk_frozen BK122.out 0; have hfz5_1 := blk_frozen BK122.out 1; have hfz5_2 := blk_frozen BK122.out 2; have hcz6_0 := czZ BK123 0 (.int .u64 0); have hcz6_1 := czZ BK123 1 (.int .u64 0); have hfz6_0 := blk_frozen BK123.out 0; have hfz6_1 := blk_frozen BK123.out 1))
 refine bodyPost_ret (results_cell_row rfl _ _ gb123 69 #[.int .u64 a0_1, .int .u64 a0_2] (0, 0) _ rfl (by (with_reducible repeat first | apply blk_drewN | apply blk_drew | apply blk_alloc); refine blk_put (cs := #[.int .u64 a0_1, .int .u64 0]) ?_ 1 _ rfl; (with_reducible repeat first | apply blk_drewN | apply blk_drew | apply blk_alloc); refine blk_put (cs := #[.int .u64 0, .int .u64 0]) ?_ 0 _ rfl; (with_reducible repeat first | apply blk_drewN | apply blk_drew | apply blk_alloc); exact BK123.out) Tryd.underlying69 rfl (by kernel_rfl)) rfl ?_; exact ⟨by first | rfl | (simp [errW_none, errW_some] <;> rfl) | (simp [*, errW_none, errW_some] <;> rfl), by repeat (first | (with_reducible first | exact HB.out | apply below_alloc | apply pw_below_drewN | apply below_drew1 | refine below_set ?_ (Aside0.out (by assumption))) | exact HB.out)⟩

/-! ### big_size_with: function 45 -/
noncomputable def big_size_with.f (a0_0 : Int) (a0_1 : Int) (a1 : Bool) : Option (Bool × Int × Int) := if a1 = true then (some ((!(a0_0 == 0) || (!(a0_1 == 0))), a0_0, a0_1)) else (some (false, a0_0, a0_1))
def big_size_with.T1 : Bool × List (List Nat × List Nat) := (true, [([], []), ([0], [0]), ([1], [1]), ([1], [1]), ([2, 3, 1], [1, 2, 3]), ([1, 4], [1, 4]), ([], []), ([6], [6]), ([], []), ([8], [8]), ([5, 7, 9], [5, 7, 9]), ([10, 1, 0, 1, 2, 3, 4, 5, 6, 7, 8, 9, 10], [10])])
def big_size_with.B1 : List Nat := [0, 1, 3, 3, 15, 31, 0, 64, 0, 256, 1023, 2047]
theorem big_size_with.tab1 : rtab .any (opsOf Tryd.f45 1) = big_size_with.T1 := by kernel_rfl
theorem big_size_with.bits1 : waitsOk big_size_with.T1.2 big_size_with.B1 = true := by kernel_rfl
set_option maxHeartbeats 8000000 in
set_option maxRecDepth 100000 in
theorem big_size_with.calls (a0_0 : Int) (a0_1 : Int) (a1 : Bool) (r1 : Bool) (r2 : Int) (r3 : Int) (w : World) (h : big_size_with.f a0_0 a0_1 a1 = some (r1, r2, r3)) :
  Calls Tryd.prog 45 #[.agg #[.int .u64 a0_0, .int .u64 a0_1], .bool a1] w fun e w' => e = .returned (.agg #[.bool r1, .int .u64 r2, .int .u64 r3]) ∧ Below w.heap.size w w' := by
 have hu69 := Tryd.underlying69; have hu59 := Tryd.underlying59; have HB := Aside0.mk (Below.refl w.heap.size w); have H : (if a1 = true then (some ((!(a0_0 == 0) || (!(a0_1 == 0))), a0_0, a0_1)) else (some (false, a0_0, a0_1))) = some (r1, r2, r3) := h; clear h
 by_cases c3 : a1 = true
 ·subst c3
  have H1 : (some ((!(a0_0 == 0) || (!(a0_1 == 0))), a0_0, a0_1)) = some (r1, r2, r3) := by rw [if_pos rfl] at H; exact H
  clear H; have H := H1; clear H1; simp only [Option.some.injEq, Prod.mk.injEq] at H; obtain ⟨rfl, rfl, rfl⟩ := H
  go_enter Tryd.func45, Tryd.ntmps45
  try go_wp2_with (first | ((with_reducible refine gate_dst (N := 2) rfl ?_); refine box_event ?hg (N := 2) ?hd (cs := #[.int .u64 a0_0, .int .u64 a0_1]) (t := 69) ?hr ?_; (case hd => rfl); (case hg => rfl); (case hr => first | (go_simp; done) | (go_simp; rfl)); intro gb124 hg w4 hbox hb; have BK124 := Aside0.mk (hbox); obtain ⟨GW124, nHB⟩ := geA hg hb; have GE124 := GW124; replace HB := nHB; clear nHB; clear hb hbox hg) | ((with_reducible refine gate_dst (N := 4) rfl ?_); refine box_event ?hg (N := 4) ?hd (cs := #[.bool false, .int .u64 0, .int .u64 0]) (t := 59) ?hr ?_; (case hd => rfl); (case hg => rfl); (case hr => first | (go_simp; done) | (go_simp; rfl)); intro gb125 hg w5 hbox hb; have BK125 := Aside0.mk (hbox); obtain ⟨GW125, nHB⟩ := geA hg hb; have GE125 := GW125; obtain ⟨NB124_125, NB125_124, nBK⟩ := nbA BK124 hg hb; replace BK124 := nBK; clear nBK; replace HB := nHB; clear nHB; clear hb hbox hg))
  replace BK124 := Aside0.mk (blk_drew BK124.out); replace BK125 := Aside0.mk (blk_drew BK125.out); replace HB := Aside0.mk (below_drew1 HB.out); refine start_ (n := 12) (S := fun w' => w'.cell? ⟨gb124, 0, none⟩ = some (.int .u64 a0_0) ∧ w'.cell? ⟨gb124, 1, none⟩ = some (.int .u64 a0_1)) (ds := []) #[N,N,N,N,N,N,N,N,N,N,N,N] (by kernel_rfl) rfl rfl ⟨(blk_cell BK124.out 0).trans rfl, (blk_cell BK124.out 1).trans rfl⟩ (fun hHeld => ?_); refine with_tabW big_size_with.tab1 big_size_with.bits1 (fun HT_ HW_ => ?_)
  generalize w5.drew = w6 at BK124 BK125 HB hHeld ⊢
  refine pureA_ (i := 0) (N := some 5) #[Y,N,N,N,N,N,N,N,N,N,N,N] rfl rfl (any_of HT_.out (by kernel_rfl)) ?_
  refine pureA_ (i := 1) (N := some 6) #[Y,Y,N,N,N,N,N,N,N,N,N,N] rfl rfl (any_of HT_.out (by kernel_rfl)) ?_
  refine pureA_ (i := 3) (N := some 8) #[Y,Y,N,Y,N,N,N,N,N,N,N,N] rfl rfl (any_of HT_.out (by kernel_rfl)) ?_
  refine pureA_ (i := 6) (N := some 11) #[Y,Y,N,Y,N,N,Y,N,N,N,N,N] rfl rfl (any_of HT_.out (by kernel_rfl)) ?_
  refine pureA_ (i := 8) (N := some 13) #[Y,Y,N,Y,N,N,Y,N,Y,N,N,N] rfl rfl (any_of HT_.out (by kernel_rfl)) ?_
  refine take_ (i := 2) (N := some 7) (v := ?_) (a' := ?_) #[Y,Y,Y,Y,N,N,Y,N,Y,N,N,N] rfl rfl (take_ofW HT_.out HW_.out (by kernel_rfl)) (fun _ _ _ h => h) (Or.inl ⟨by rfl, ?_⟩) hHeld ?_ ?_; rotate_left
  ·rintro w' ⟨s0, s1⟩; go_simp
   with_reducible rfl
  rotate_left
  ·simp only [Act.put, sA, sB, sC, i64_w, i32_w]
   rfl
  refine pureA_ (i := 4) (N := some 9) #[Y,Y,Y,Y,Y,N,Y,N,Y,N,N,N] rfl rfl (any_of HT_.out (by kernel_rfl)) ?_
  refine pureA_ (i := 5) (N := some 10) #[Y,Y,Y,Y,Y,Y,Y,N,Y,N,N,N] rfl rfl (any_of HT_.out (by kernel_rfl)) ?_
  refine take_ (i := 7) (N := some 12) (v := ?_) (a' := ?_) #[Y,Y,Y,Y,Y,Y,Y,Y,Y,N,N,N] rfl rfl (take_ofW HT_.out HW_.out (by kernel_rfl)) (fun _ _ _ h => h) (Or.inl ⟨by rfl, ?_⟩) hHeld ?_ ?_; rotate_left
  ·rintro w' ⟨s0, s1⟩; go_simp
   with_reducible rfl
  rotate_left
  ·simp only [Act.put, sA, sB, sC, i64_w, i32_w]
   rfl
  refine take_ (i := 9) (N := some 14) (v := ?_) (a' := ?_) #[Y,Y,Y,Y,Y,Y,Y,Y,Y,Y,N,N] rfl rfl (take_ofW HT_.out HW_.out (by kernel_rfl)) (fun _ _ _ h => h) (Or.inl ⟨by rfl, ?_⟩) hHeld ?_ ?_; rotate_left
  ·rintro w' ⟨s0, s1⟩; go_simp
   with_reducible rfl
  rotate_left
  ·simp only [Act.put, sA, sB, sC, i64_w, i32_w]
   rfl
  refine pureA_ (i := 10) (N := some 15) #[Y,Y,Y,Y,Y,Y,Y,Y,Y,Y,Y,N] rfl rfl (any_of HT_.out (by kernel_rfl)) ?_
  refine one_ (i := 11) (N := none) #[Y,Y,Y,Y,Y,Y,Y,Y,Y,Y,Y,Y] rfl rfl (one_of HT_.out (by kernel_rfl)) (by decide) (fun K hK => ?_); have hs7 := czZ BK125 0 (.bool false); have hfs7 := blk_frozen BK125.out 0; have hns7_0 := NB124_125.out; have hms7_0 := NB125_124.out; have hs8 := czZ BK125 1 (.int .u64 0); have hfs8 := blk_frozen BK125.out 1; have hns8_0 := NB124_125.out; have hms8_0 := NB125_124.out; have hs9 := czZ BK125 2 (.int .u64 0); have hfs9 := blk_frozen BK125.out 2; have hns9_0 := NB124_125.out; have hms9_0 := NB125_124.out; refine skip_ (w1 := ?_) (by rfl) rfl ?_ ?_; rotate_left
  ·go_simp
   rfl
  refine hK.out _ _ ⟨((cell_far (p := ⟨gb125, _, none⟩) NB124_125.out _).trans (((cell_far (p := ⟨gb125, _, none⟩) NB124_125.out _).trans (((cell_far (p := ⟨gb125, _, none⟩) NB124_125.out _).trans (hHeld.1)))))), ((cell_far (p := ⟨gb125, _, none⟩) NB124_125.out _).trans (((cell_far (p := ⟨gb125, _, none⟩) NB124_125.out _).trans (((cell_far (p := ⟨gb125, _, none⟩) NB124_125.out _).trans (hHeld.2))))))⟩ (fun hHeld => ?_); clear hK K; refine done_ (done_of HT_.out (by kernel_rfl)) ?_
  try go_wp2
  refine bodyPost_ret (results_cell_row rfl _ _ gb125 59 #[.bool (!(a0_0 == 0) || (!(a0_1 == 0))), .int .u64 a0_0, .int .u64 a0_1] (0, 0) _ rfl (by (with_reducible repeat first | apply blk_drewN | apply blk_drew | apply blk_alloc); refine blk_put (cs := #[.bool (!(a0_0 == 0) || (!(a0_1 == 0))), .int .u64 a0_0, .int .u64 0]) ?_ 2 _ rfl; (with_reducible repeat first | apply blk_drewN | apply blk_drew | apply blk_alloc); refine blk_put (cs := #[.bool (!(a0_0 == 0) || (!(a0_1 == 0))), .int .u64 0, .int .u64 0]) ?_ 1 _ rfl; (with_reducible repeat first | apply blk_drewN | apply blk_drew | apply blk_alloc); refine blk_put (cs := #[.bool false, .int .u64 0, .int .u64 0]) ?_ 0 _ rfl; (with_reducible repeat first | apply blk_drewN | apply blk_drew | apply blk_alloc); exact BK125.out) Tryd.underlying59 rfl (by kernel_rfl)) rfl ?_; exact ⟨by first | rfl | (simp [errW_none, errW_some] <;> rfl) | (simp [*, errW_none, errW_some] <;> rfl), by repeat (first | (with_reducible first | exact HB.out | apply below_alloc | apply pw_below_drewN | apply below_drew1 | refine below_set ?_ (Aside0.out (by assumption))) | exact HB.out)⟩
 ·replace c3 := Bool.eq_false_iff.mpr c3
  subst c3
  have H1 : (some (false, a0_0, a0_1)) = some (r1, r2, r3) := by rw [if_neg (show ¬ (false = true) by decide)] at H; exact H
  clear H; have H := H1; clear H1; simp only [Option.some.injEq, Prod.mk.injEq] at H; obtain ⟨rfl, rfl, rfl⟩ := H
  go_enter Tryd.func45, Tryd.ntmps45
  try go_wp2_with (first | ((with_reducible refine gate_dst (N := 2) rfl ?_); refine box_event ?hg (N := 2) ?hd (cs := #[.int .u64 a0_0, .int .u64 a0_1]) (t := 69) ?hr ?_; (case hd => rfl); (case hg => rfl); (case hr => first | (go_simp; done) | (go_simp; rfl)); intro gb124 hg w10 hbox hb; have BK124 := Aside0.mk (hbox); obtain ⟨GW124, nHB⟩ := geA hg hb; have GE124 := GW124; replace HB := nHB; clear nHB; clear hb hbox hg) | ((with_reducible refine gate_dst (N := 4) rfl ?_); refine box_event ?hg (N := 4) ?hd (cs := #[.bool false, .int .u64 0, .int .u64 0]) (t := 59) ?hr ?_; (case hd => rfl); (case hg => rfl); (case hr => first | (go_simp; done) | (go_simp; rfl)); intro gb125 hg w11 hbox hb; have BK125 := Aside0.mk (hbox); obtain ⟨GW125, nHB⟩ := geA hg hb; have GE125 := GW125; obtain ⟨NB124_125, NB125_124, nBK⟩ := nbA BK124 hg hb; replace BK124 := nBK; clear nBK; replace HB := nHB; clear nHB; clear hb hbox hg))
  replace BK124 := Aside0.mk (blk_drew BK124.out); replace BK125 := Aside0.mk (blk_drew BK125.out); replace HB := Aside0.mk (below_drew1 HB.out); refine start_ (n := 12) (S := fun w' => w'.cell? ⟨gb124, 0, none⟩ = some (.int .u64 a0_0) ∧ w'.cell? ⟨gb124, 1, none⟩ = some (.int .u64 a0_1)) (ds := []) #[N,N,N,N,N,N,N,N,N,N,N,N] (by kernel_rfl) rfl rfl ⟨(blk_cell BK124.out 0).trans rfl, (blk_cell BK124.out 1).trans rfl⟩ (fun hHeld => ?_); refine with_tabW big_size_with.tab1 big_size_with.bits1 (fun HT_ HW_ => ?_)
  generalize w11.drew = w12 at BK124 BK125 HB hHeld ⊢
  refine pureA_ (i := 0) (N := some 5) #[Y,N,N,N,N,N,N,N,N,N,N,N] rfl rfl (any_of HT_.out (by kernel_rfl)) ?_
  refine pureA_ (i := 1) (N := some 6) #[Y,Y,N,N,N,N,N,N,N,N,N,N] rfl rfl (any_of HT_.out (by kernel_rfl)) ?_
  refine pure_ (i := 2) (N := some 7) (v := undef) (a' := ?_) #[Y,Y,Y,N,N,N,N,N,N,N,N,N] rfl rfl (any_of HT_.out (by kernel_rfl)) (fun _ _ _ h => h) (Or.inr ⟨by rfl, rfl⟩) ?_ ?_; rotate_left
  ·simp only [Act.put, sA, sB, sC, i64_w, i32_w]
   rfl
  refine pure_ (i := 3) (N := some 8) (v := undef) (a' := ?_) #[Y,Y,Y,Y,N,N,N,N,N,N,N,N] rfl rfl (any_of HT_.out (by kernel_rfl)) (fun _ _ _ h => h) (Or.inr ⟨by rfl, rfl⟩) ?_ ?_; rotate_left
  ·simp only [Act.put, sA, sB, sC, i64_w, i32_w]
   rfl
  refine pure_ (i := 4) (N := some 9) (v := undef) (a' := ?_) #[Y,Y,Y,Y,Y,N,N,N,N,N,N,N] rfl rfl (any_of HT_.out (by kernel_rfl)) (fun _ _ _ h => h) (Or.inr ⟨by rfl, rfl⟩) ?_ ?_; rotate_left
  ·simp only [Act.put, sA, sB, sC, i64_w, i32_w]
   rfl
  refine pureA_ (i := 5) (N := some 10) #[Y,Y,Y,Y,Y,Y,N,N,N,N,N,N] rfl rfl (any_of HT_.out (by kernel_rfl)) ?_
  refine pureA_ (i := 6) (N := some 11) #[Y,Y,Y,Y,Y,Y,Y,N,N,N,N,N] rfl rfl (any_of HT_.out (by kernel_rfl)) ?_
  refine pureA_ (i := 8) (N := some 13) #[Y,Y,Y,Y,Y,Y,Y,N,Y,N,N,N] rfl rfl (any_of HT_.out (by kernel_rfl)) ?_
  refine take_ (i := 7) (N := some 12) (v := ?_) (a' := ?_) #[Y,Y,Y,Y,Y,Y,Y,Y,Y,N,N,N] rfl rfl (take_ofW HT_.out HW_.out (by kernel_rfl)) (fun _ _ _ h => h) (Or.inl ⟨by rfl, ?_⟩) hHeld ?_ ?_; rotate_left
  ·rintro w' ⟨s0, s1⟩; go_simp
   with_reducible rfl
  rotate_left
  ·simp only [Act.put, sA, sB, sC, i64_w, i32_w]
   rfl
  refine take_ (i := 9) (N := some 14) (v := ?_) (a' := ?_) #[Y,Y,Y,Y,Y,Y,Y,Y,Y,Y,N,N] rfl rfl (take_ofW HT_.out HW_.out (by kernel_rfl)) (fun _ _ _ h => h) (Or.inl ⟨by rfl, ?_⟩) hHeld ?_ ?_; rotate_left
  ·rintro w' ⟨s0, s1⟩; go_simp
   with_reducible rfl
  rotate_left
  ·simp only [Act.put, sA, sB, sC, i64_w, i32_w]
   rfl
  refine pureA_ (i := 10) (N := some 15) #[Y,Y,Y,Y,Y,Y,Y,Y,Y,Y,Y,N] rfl rfl (any_of HT_.out (by kernel_rfl)) ?_
  refine one_ (i := 11) (N := none) #[Y,Y,Y,Y,Y,Y,Y,Y,Y,Y,Y,Y] rfl rfl (one_of HT_.out (by kernel_rfl)) (by decide) (fun K hK => ?_); have hs13 := czZ BK125 0 (.bool false); have hfs13 := blk_frozen BK125.out 0; have hns13_0 := NB124_125.out; have hms13_0 := NB125_124.out; have hs14 := czZ BK125 1 (.int .u64 0); have hfs14 := blk_frozen BK125.out 1; have hns14_0 := NB124_125.out; have hms14_0 := NB125_124.out; have hs15 := czZ BK125 2 (.int .u64 0); have hfs15 := blk_frozen BK125.out 2; have hns15_0 := NB124_125.out; have hms15_0 := NB125_124.out; refine skip_ (w1 := ?_) (by rfl) rfl ?_ ?_; rotate_left
  ·go_simp
   rfl
  refine hK.out _ _ ⟨((cell_far (p := ⟨gb125, _, none⟩) NB124_125.out _).trans (((cell_far (p := ⟨gb125, _, none⟩) NB124_125.out _).trans (((cell_far (p := ⟨gb125, _, none⟩) NB124_125.out _).trans (hHeld.1)))))), ((cell_far (p := ⟨gb125, _, none⟩) NB124_125.out _).trans (((cell_far (p := ⟨gb125, _, none⟩) NB124_125.out _).trans (((cell_far (p := ⟨gb125, _, none⟩) NB124_125.out _).trans (hHeld.2))))))⟩ (fun hHeld => ?_); clear hK K; refine done_ (done_of HT_.out (by kernel_rfl)) ?_
  try go_wp2
  refine bodyPost_ret (results_cell_row rfl _ _ gb125 59 #[.bool false, .int .u64 a0_0, .int .u64 a0_1] (0, 0) _ rfl (by (with_reducible repeat first | apply blk_drewN | apply blk_drew | apply blk_alloc); refine blk_put (cs := #[.bool false, .int .u64 a0_0, .int .u64 0]) ?_ 2 _ rfl; (with_reducible repeat first | apply blk_drewN | apply blk_drew | apply blk_alloc); refine blk_put (cs := #[.bool false, .int .u64 0, .int .u64 0]) ?_ 1 _ rfl; (with_reducible repeat first | apply blk_drewN | apply blk_drew | apply blk_alloc); refine blk_put (cs := #[.bool false, .int .u64 0, .int .u64 0]) ?_ 0 _ rfl; (with_reducible repeat first | apply blk_drewN | apply blk_drew | apply blk_alloc); exact BK125.out) Tryd.underlying59 rfl (by kernel_rfl)) rfl ?_; exact ⟨by first | rfl | (simp [errW_none, errW_some] <;> rfl) | (simp [*, errW_none, errW_some] <;> rfl), by repeat (first | (with_reducible first | exact HB.out | apply below_alloc | apply pw_below_drewN | apply below_drew1 | refine below_set ?_ (Aside0.out (by assumption))) | exact HB.out)⟩

end Go.Proofs.YtbpcfamjidjhjaaDoor.Px
