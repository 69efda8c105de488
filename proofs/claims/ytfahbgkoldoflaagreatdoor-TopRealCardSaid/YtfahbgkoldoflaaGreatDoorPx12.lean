/- Printed by px.py, over the kit's print. Conditions: none beside the theorems' own. -/
import Derived.Test.YtfahbgkoldoflaaGreatDoorPx0
import Derived.Test.YtfahbgkoldoflaaGreatDoorPx10
import Derived.Test.YtfahbgkoldoflaaGreatDoorSpec
namespace Go.Proofs.YtfahbgkoldoflaaGreatDoor.Px
open Go.RowKit Go.Proofs.YtfahbgkoldoflaaGreatDoorW.PrintWords Go.Proofs.YtfahbgkoldoflaaGreatDoorW.PrintLast Go.Proofs.YtfahbgkoldoflaaGreatDoorW.PrintMore
attribute [local go_sem] max2_int min2_int max_two min_two max_three min_three max_four min_four
set_option linter.unusedVariables false
set_option linter.unusedSimpArgs false

/-! ### clock_Step: function 33 -/
noncomputable def clock_Step.f (a b : Int) : Option (Int × Int) := Sp.need (Sp.I a ∧ Sp.I b) (some (if 0 ≤ b ∧ b ≤ 1099511627776 then (if b < a then (a, 50) else (b, 0)) else (a, 51)))
theorem clock_Step.eq {a b : Int} (h1 : Sp.I a) (h2 : Sp.I b) : clock_Step.f a b = some (if 0 ≤ b ∧ b ≤ 1099511627776 then (if b < a then (a, 50) else (b, 0)) else (a, 51)) := Sp.need_pos ⟨h1, h2⟩
set_option maxHeartbeats 1000000 in
set_option maxRecDepth 100000 in
theorem clock_Step.walk (a b : Int) (c d : Bool) (HC : Aside0 (clock_Check.f b = some c)) (hd : decide (b < a) = d) (w : World) :
  Calls Tryz.prog 33 #[.int .i64 a, .int .i64 b] w fun e w' => e = .returned (.tuple #[.int .i64 (if c = true then (if d = true then a else b) else a), .int .i64 (if c = true then (if d = true then 50 else 0) else 51)]) ∧ Below w.heap.size w w' := by
 have hmf : ∀ (fn : Fn) (first cap : Array Value) (w : World), (Instr.makeFunc fn first cap).run Tryz.prog w = .ok (.func fn first cap) w := fun _ _ _ _ => rfl
 cases c
 ·go_enter Tryz.func33, Tryz.ntmps33
  go_wp2_with (first | (go_at_call 61; refine (clock_Check.calls b false _ HC.out).mono ?_; rintro e w' ⟨rfl, ⟨nd, rfl⟩⟩) | go_in)
  go_ret2
  exact ⟨rfl, by repeat (first | exact Below.refl _ _ | apply below_alloc | apply pw_below_drewN)⟩
 ·cases d
  ·go_enter Tryz.func33, Tryz.ntmps33
   go_wp2_with (first | (go_at_call 61; refine (clock_Check.calls b true _ HC.out).mono ?_; rintro e w' ⟨rfl, ⟨nd, rfl⟩⟩) | go_in)
   go_ret2
   exact ⟨rfl, by repeat (first | exact Below.refl _ _ | apply below_alloc | apply pw_below_drewN)⟩
  ·go_enter Tryz.func33, Tryz.ntmps33
   go_wp2_with (first | (go_at_call 61; refine (clock_Check.calls b true _ HC.out).mono ?_; rintro e w' ⟨rfl, ⟨nd, rfl⟩⟩) | go_in)
   go_ret2
   exact ⟨rfl, by repeat (first | exact Below.refl _ _ | apply below_alloc | apply pw_below_drewN)⟩
theorem clock_Step.calls (a b r1 r2 : Int) (w : World) (h : clock_Step.f a b = some (r1, r2)) :
  Calls Tryz.prog 33 #[.int .i64 a, .int .i64 b] w fun e w' => e = .returned (.tuple #[.int .i64 r1, .int .i64 r2]) ∧ Below w.heap.size w w' := by
 obtain ⟨hc, h⟩ := Sp.need_some h
 have HC : clock_Check.f b = some (decide (0 ≤ b ∧ b ≤ 1099511627776)) := by
  unfold clock_Check.f
  by_cases h0 : b ≥ 0
  ·simp [h0]
  ·have h1 : ¬ (0 ≤ b ∧ b ≤ 1099511627776) := by omega
   rw [if_neg h0, decide_eq_false h1]
 refine (clock_Step.walk a b _ _ ⟨HC⟩ rfl w).mono ?_; rintro e w' ⟨rfl, hb⟩; refine ⟨?_, hb⟩
 by_cases p : 0 ≤ b ∧ b ≤ 1099511627776 <;> by_cases q : b < a <;> simp [p, q] at h ⊢ <;> simp [h]

-- NOT PRINTED: function 56 (safe_held)

/-! ### safe_Plus: function 57 -/
noncomputable def safe_Plus.f (a0 : Int) (a1 : Int) : Option (Int × Int) := if ((decide (a0 ≥ 0)) == (decide (a1 ≥ 0))) = true then (if ((decide ((wrap64 (a0 + a1)) ≥ 0)) != (decide (a0 ≥ 0))) = true then (some (0, 10)) else (some (wrap64 (a0 + a1), 0))) else (some (wrap64 (a0 + a1), 0))
set_option maxHeartbeats 8000000 in
set_option maxRecDepth 100000 in
theorem safe_Plus.calls (a0 : Int) (a1 : Int) (r1 : Int) (r2 : Int) (w : World) (h : safe_Plus.f a0 a1 = some (r1, r2)) :
  Calls Tryz.prog 57 #[.int .i64 a0, .int .i64 a1] w fun e w' => e = .returned (.tuple #[.int .i64 r1, .int .i64 r2]) ∧ Drawn0 w w' := by
 have H : (if ((decide (a0 ≥ 0)) == (decide (a1 ≥ 0))) = true then (if ((decide ((wrap64 (a0 + a1)) ≥ 0)) != (decide (a0 ≥ 0))) = true then (some (0, 10)) else (some (wrap64 (a0 + a1), 0))) else (some (wrap64 (a0 + a1), 0))) = some (r1, r2) := h; clear h
 by_cases c3 : ((decide (a0 ≥ 0)) == (decide (a1 ≥ 0))) = true
 ·rw [if_pos c3] at H
  have c3b0 : ((decide (a0 ≥ 0)) == (decide (a1 ≥ 0))) = true := c3
  (try (have c3b1 : decide ((decide (a0 ≥ 0)) = (decide (a1 ≥ 0))) = true := by simpa using c3))
  (try (have c3b2 : ((decide (a0 ≥ 0)) == (decide (a1 ≥ 0))) = true := by simpa using c3))
  clear c3
  by_cases c4 : ((decide ((wrap64 (a0 + a1)) ≥ 0)) != (decide (a0 ≥ 0))) = true
  ·rw [if_pos c4] at H
   have c4b0 : ((decide ((wrap64 (a0 + a1)) ≥ 0)) != (decide (a0 ≥ 0))) = true := c4
   (try (have c4b1 : decide ((decide ((wrap64 (a0 + a1)) ≥ 0)) = (decide (a0 ≥ 0))) = false := by simpa using c4))
   (try (have c4b2 : ((decide ((wrap64 (a0 + a1)) ≥ 0)) == (decide (a0 ≥ 0))) = false := by simpa using c4))
   (try (have c4b3 : ¬ ((decide ((wrap64 (a0 + a1)) ≥ 0)) = (decide (a0 ≥ 0))) := by simpa using c4))
   clear c4; simp only [Option.some.injEq, Prod.mk.injEq] at H; obtain ⟨rfl, rfl⟩ := H
   go_enter Tryz.func57, Tryz.ntmps57
   go_wp2
   go_ret2
   exact ⟨by first | rfl | (simp; done) | (simp [*]; done), by repeat (first | exact Drawn0.refl _ | apply Drawn0.step)⟩
  ·rw [if_neg c4] at H
   have c4b0 : ((decide ((wrap64 (a0 + a1)) ≥ 0)) != (decide (a0 ≥ 0))) = false := by simpa using c4
   (try (have c4b1 : decide ((decide ((wrap64 (a0 + a1)) ≥ 0)) = (decide (a0 ≥ 0))) = true := by simpa using c4))
   (try (have c4b2 : ((decide ((wrap64 (a0 + a1)) ≥ 0)) == (decide (a0 ≥ 0))) = true := by simpa using c4))
   clear c4; simp only [Option.some.injEq, Prod.mk.injEq] at H; obtain ⟨rfl, rfl⟩ := H
   go_enter Tryz.func57, Tryz.ntmps57
   go_wp2
   go_ret2
   exact ⟨by first | rfl | (simp; done) | (simp [*]; done), by repeat (first | exact Drawn0.refl _ | apply Drawn0.step)⟩
 ·rw [if_neg c3] at H
  have c3b0 : ((decide (a0 ≥ 0)) == (decide (a1 ≥ 0))) = false := by simpa using c3
  (try (have c3b1 : decide ((decide (a0 ≥ 0)) = (decide (a1 ≥ 0))) = false := by simpa using c3))
  (try (have c3b2 : ((decide (a0 ≥ 0)) == (decide (a1 ≥ 0))) = false := by simpa using c3))
  (try (have c3b3 : ¬ ((decide (a0 ≥ 0)) = (decide (a1 ≥ 0))) := by simpa using c3))
  clear c3; simp only [Option.some.injEq, Prod.mk.injEq] at H; obtain ⟨rfl, rfl⟩ := H
  go_enter Tryz.func57, Tryz.ntmps57
  go_wp2
  go_ret2
  exact ⟨by first | rfl | (simp; done) | (simp [*]; done), by repeat (first | exact Drawn0.refl _ | apply Drawn0.step)⟩

/-! ### safe_PlusS: a sum, or its error: pure, behind function 57 -/
noncomputable def safe_PlusS.f (a b : Int) : Option (Int × Int) := Sp.need (Sp.I a ∧ Sp.I b) (Sp.fit (a + b))
section SafePlus
open Go.Proofs.YtfahbgkoldoflaaGreatDoor.Sp
theorem safe_Plus.main {a b : Int} (h1 : I a) (h2 : I b) : safe_Plus.f a b = fit (a + b) := by
 unfold safe_Plus.f fit
 by_cases c : I (a + b)
 ·rw [if_pos c, w64 c]
  by_cases ha : a ≥ 0 <;> by_cases hb : b ≥ 0
  ·have : a + b ≥ 0 := by omega
   simp [ha, hb, this]
  ·simp [ha, hb]
  ·simp [ha, hb]
  ·have : ¬ a + b ≥ 0 := by omega
   simp [ha, hb, this]
 ·rw [if_neg c]
  by_cases ha : a ≥ 0
  ·have hb : b ≥ 0 := by omega
   have hw : ¬ wrap64 (a + b) ≥ 0 := by unfold wrap64; omega
   simp [ha, hb, hw]
  ·have hb : ¬ b ≥ 0 := by omega
   have hw : wrap64 (a + b) ≥ 0 := by unfold wrap64; omega
   simp [ha, hb, hw]
end SafePlus
theorem safe_PlusS.calls (a0 a1 r1 r2 : Int) (w : World) (h : safe_PlusS.f a0 a1 = some (r1, r2)) :
  Calls Tryz.prog 57 #[.int .i64 a0, .int .i64 a1] w fun e w' => e = .returned (.tuple #[.int .i64 r1, .int .i64 r2]) ∧ Drawn0 w w' := by
 obtain ⟨hc, h⟩ := Sp.need_some h; exact safe_Plus.calls a0 a1 r1 r2 w (by rw [safe_Plus.main hc.1 hc.2]; exact h)

/-! ### safe_Add: function 24 -/
noncomputable def safe_Add.f (a b : Int) : Option Int := Sp.need (Sp.I a ∧ Sp.I b) (some (Sp.near (a + b)))
theorem safe_Add.eq {a b : Int} (h1 : Sp.I a) (h2 : Sp.I b) : safe_Add.f a b = some (Sp.near (a + b)) := Sp.need_pos ⟨h1, h2⟩
theorem safe_PlusS.as {a b x y : Int} (h1 : Sp.I a) (h2 : Sp.I b) (h : Sp.fit (a + b) = some (x, y)) : Aside0 (safe_PlusS.f a b = some (x, y)) := ⟨(Sp.need_pos ⟨h1, h2⟩).trans h⟩
set_option maxHeartbeats 1000000 in
set_option maxRecDepth 100000 in
theorem safe_Add.calls (a0 a1 r : Int) (w : World) (h : safe_Add.f a0 a1 = some r) :
  Calls Tryz.prog 24 #[.int .i64 a0, .int .i64 a1] w fun e w' => e = .returned (.int .i64 r) ∧ Below w.heap.size w w' := by
 obtain ⟨hc, h⟩ := Sp.need_some h; obtain rfl := Option.some.inj h
 have hmf : ∀ (fn : Fn) (first cap : Array Value) (w : World), (Instr.makeFunc fn first cap).run Tryz.prog w = .ok (.func fn first cap) w := fun _ _ _ _ => rfl
 by_cases c : Sp.I (a0 + a1)
 ·have HP := safe_PlusS.as hc.1 hc.2 (Sp.fit_in c)
  rw [Sp.near_in c]
  clear hc c
  go_enter Tryz.func24, Tryz.ntmps24
  go_wp2_with (first | (go_at_call 57; refine (safe_PlusS.calls a0 a1 _ _ _ HP.out).mono ?_; rintro e w' ⟨rfl, ⟨nd, rfl⟩⟩) | go_in)
  go_ret
  exact ⟨rfl, by repeat (first | exact Below.refl _ _ | apply below_alloc | apply pw_below_drewN)⟩
 ·have HP := safe_PlusS.as hc.1 hc.2 (Sp.fit_out c)
  by_cases hn : a0 < 0
  ·have e0 : Sp.near (a0 + a1) = -9223372036854775808 := Sp.near_lo (by omega)
   rw [e0]
   have hd : decide (a0 < 0) = true := decide_eq_true hn; clear hc c hn e0
   go_enter Tryz.func24, Tryz.ntmps24
   go_wp2_with (first | (go_at_call 57; refine (safe_PlusS.calls a0 a1 _ _ _ HP.out).mono ?_; rintro e w' ⟨rfl, ⟨nd, rfl⟩⟩) | go_in)
   go_ret
   exact ⟨rfl, by repeat (first | exact Below.refl _ _ | apply below_alloc | apply pw_below_drewN)⟩
  ·have e0 : Sp.near (a0 + a1) = 9223372036854775807 := Sp.near_hi (by omega)
   rw [e0]
   have hd : decide (a0 < 0) = false := decide_eq_false hn; clear hc c hn e0
   go_enter Tryz.func24, Tryz.ntmps24
   go_wp2_with (first | (go_at_call 57; refine (safe_PlusS.calls a0 a1 _ _ _ HP.out).mono ?_; rintro e w' ⟨rfl, ⟨nd, rfl⟩⟩) | go_in)
   go_ret
   exact ⟨rfl, by repeat (first | exact Below.refl _ _ | apply below_alloc | apply pw_below_drewN)⟩

/-! ### bucket_Check: function 71 -/
noncomputable def bucket_Check.f (a0_0 : Int) (a0_1 : Int) : Option (Bool) := (clock_Check.f a0_0).bind fun t104 => (if t104 = true then (if a0_1 ≥ 0 then (some (decide (a0_1 ≤ 1152921504606846976))) else (some false)) else (some false))
set_option maxHeartbeats 8000000 in
set_option maxRecDepth 100000 in
theorem bucket_Check.calls (a0_0 : Int) (a0_1 : Int) (r : Bool) (w : World) (h : bucket_Check.f a0_0 a0_1 = some r) :
  Calls Tryz.prog 71 #[.agg #[.int .i64 a0_0, .int .i64 a0_1]] w fun e w' => e = .returned (.bool r) ∧ Below w.heap.size w w' := by
 have hu46 := Tryz.underlying46; have HB := Aside0.mk (Below.refl w.heap.size w); have H : ((clock_Check.f a0_0).bind fun t104 => (if t104 = true then (if a0_1 ≥ 0 then (some (decide (a0_1 ≤ 1152921504606846976))) else (some false)) else (some false))) = some r := h; clear h; replace H := Option.bind_eq_some_iff.mp H; obtain ⟨t104, A20, H⟩ := H; replace H : (if t104 = true then (if a0_1 ≥ 0 then (some (decide (a0_1 ≤ 1152921504606846976))) else (some false)) else (some false)) = some r := H; have A2 := Aside0.mk A20; clear A20
 by_cases c3 : t104 = true
 ·subst c3
  have H1 : (if a0_1 ≥ 0 then (some (decide (a0_1 ≤ 1152921504606846976))) else (some false)) = some r := by rw [if_pos rfl] at H; exact H
  clear H; have H := H1; clear H1
  by_cases c4 : a0_1 ≥ 0
  ·rw [if_pos c4] at H
   have c4b0 : decide (0 ≤ a0_1) = true := decide_eq_true c4; clear c4; obtain rfl := Option.some.inj H
   go_enter Tryz.func71, Tryz.ntmps71
   go_wp2_with (first | ((with_reducible refine gate_dst (N := 1) rfl ?_); refine box_event ?hg (N := 1) ?hd (cs := #[.int .i64 a0_0, .int .i64 a0_1]) (t := 46) ?hr ?_; (case hd => rfl); (case hg => rfl); (case hr => first | (go_simp; done) | (go_simp; rfl)); intro gb103 hg w5 hbox hb; have BK103 := Aside0.mk (hbox); obtain ⟨GW103, nHB⟩ := geA hg hb; have GE103 := GW103; replace HB := nHB; clear nHB; clear hb hbox hg; have hcz6_0 := czZ BK103 0 (.int .i64 a0_0); have hcz6_1 := czZ BK103 1 (.int .i64 a0_1); have hfz6_0 := blk_frozen BK103.out 0; have hfz6_1 := blk_frozen BK103.out 1) | ((with_reducible refine gate_callee (f := 61) rfl ?_); refine goesLA_ (some 5) rfl rfl Tryz.func61 rfl #[.int .i64 a0_0] rfl ?_; (with_reducible refine (clock_Check.calls a0_0 true _ A2.out).mono ?_); rintro e w' ⟨rfl, ⟨nd, rfl⟩⟩; refine ⟨_, rfl, ?_⟩))
   go_ret
   exact ⟨by first | rfl | (simp [errW_none, errW_some] <;> rfl) | (simp [*, errW_none, errW_some] <;> rfl), by repeat (first | (with_reducible first | exact HB.out | apply below_alloc | apply pw_below_drewN | apply below_drew1 | refine below_set ?_ GE103.out) | exact HB.out)⟩
  ·rw [if_neg c4] at H
   have c4b0 : decide (0 ≤ a0_1) = false := decide_eq_false c4; clear c4; obtain rfl := Option.some.inj H
   go_enter Tryz.func71, Tryz.ntmps71
   go_wp2_with (first | ((with_reducible refine gate_dst (N := 1) rfl ?_); refine box_event ?hg (N := 1) ?hd (cs := #[.int .i64 a0_0, .int .i64 a0_1]) (t := 46) ?hr ?_; (case hd => rfl); (case hg => rfl); (case hr => first | (go_simp; done) | (go_simp; rfl)); intro gb103 hg w7 hbox hb; have BK103 := Aside0.mk (hbox); obtain ⟨GW103, nHB⟩ := geA hg hb; have GE103 := GW103; replace HB := nHB; clear nHB; clear hb hbox hg; have hcz8_0 := czZ BK103 0 (.int .i64 a0_0); have hcz8_1 := czZ BK103 1 (.int .i64 a0_1); have hfz8_0 := blk_frozen BK103.out 0; have hfz8_1 := blk_frozen BK103.out 1) | ((with_reducible refine gate_callee (f := 61) rfl ?_); refine goesLA_ (some 5) rfl rfl Tryz.func61 rfl #[.int .i64 a0_0] rfl ?_; (with_reducible refine (clock_Check.calls a0_0 true _ A2.out).mono ?_); rintro e w' ⟨rfl, ⟨nd, rfl⟩⟩; refine ⟨_, rfl, ?_⟩))
   go_ret
   exact ⟨by first | rfl | (simp [errW_none, errW_some] <;> rfl) | (simp [*, errW_none, errW_some] <;> rfl), by repeat (first | (with_reducible first | exact HB.out | apply below_alloc | apply pw_below_drewN | apply below_drew1 | refine below_set ?_ GE103.out) | exact HB.out)⟩
 ·replace c3 := Bool.eq_false_iff.mpr c3
  subst c3
  have H1 : (some false) = some r := by rw [if_neg (show ¬ (false = true) by decide)] at H; exact H
  clear H; have H := H1; clear H1; obtain rfl := Option.some.inj H
  go_enter Tryz.func71, Tryz.ntmps71
  go_wp2_with (first | ((with_reducible refine gate_dst (N := 1) rfl ?_); refine box_event ?hg (N := 1) ?hd (cs := #[.int .i64 a0_0, .int .i64 a0_1]) (t := 46) ?hr ?_; (case hd => rfl); (case hg => rfl); (case hr => first | (go_simp; done) | (go_simp; rfl)); intro gb103 hg w9 hbox hb; have BK103 := Aside0.mk (hbox); obtain ⟨GW103, nHB⟩ := geA hg hb; have GE103 := GW103; replace HB := nHB; clear nHB; clear hb hbox hg; have hcz10_0 := czZ BK103 0 (.int .i64 a0_0); have hcz10_1 := czZ BK103 1 (.int .i64 a0_1); have hfz10_0 := blk_frozen BK103.out 0; have hfz10_1 := blk_frozen BK103.out 1) | ((with_reducible refine gate_callee (f := 61) rfl ?_); refine goesLA_ (some 5) rfl rfl Tryz.func61 rfl #[.int .i64 a0_0] rfl ?_; (with_reducible refine (clock_Check.calls a0_0 false _ A2.out).mono ?_); rintro e w' ⟨rfl, ⟨nd, rfl⟩⟩; refine ⟨_, rfl, ?_⟩))
  go_ret
  exact ⟨by first | rfl | (simp [errW_none, errW_some] <;> rfl) | (simp [*, errW_none, errW_some] <;> rfl), by repeat (first | (with_reducible first | exact HB.out | apply below_alloc | apply pw_below_drewN | apply below_drew1 | refine below_set ?_ GE103.out) | exact HB.out)⟩

/-! ### bucket_CheckS: pure, behind function 71 -/
section
open Go.Proofs.YtfahbgkoldoflaaGreatDoor.Sp
noncomputable def bucket_CheckS.f (t : Int) (h : Int) : Option (Bool) := some (bOk t h)
theorem bucket_CheckS.eq {t : Int} {h : Int}  : bucket_CheckS.f t h = some (bOk t h) := rfl
theorem bucket_Check.main {t : Int} {h : Int}  : bucket_Check.f t h = some (bOk t h) := by
 unfold bucket_Check.f clock_Check.f bOk
 by_cases c1 : 0 ≤ t <;> by_cases c2 : t ≤ 1099511627776 <;> by_cases c3 : 0 ≤ h <;> simp [c1, c2, c3]
end
theorem bucket_CheckS.calls (a0_0 : Int) (a0_1 : Int) (r : Bool) (w : World) (h : bucket_CheckS.f a0_0 a0_1 = some r) :
  Calls Tryz.prog 71 #[.agg #[.int .i64 a0_0, .int .i64 a0_1]] w fun e w' => e = .returned (.bool r) ∧ Below w.heap.size w w' := by
 exact bucket_Check.calls a0_0 a0_1 r w (by rw [bucket_Check.main ]; exact h)

/-! ### safe_Clamp: function 22 -/
noncomputable def safe_Clamp.f (a0 : Int) (a1 : Int) (a2 : Int) : Option (Int) := if a0 < a1 then (some a1) else (some (mn a0 a2))
set_option maxHeartbeats 8000000 in
set_option maxRecDepth 100000 in
theorem safe_Clamp.calls (a0 : Int) (a1 : Int) (a2 : Int) (r : Int) (w : World) (h : safe_Clamp.f a0 a1 a2 = some r) :
  Calls Tryz.prog 22 #[.int .i64 a0, .int .i64 a1, .int .i64 a2] w fun e w' => e = .returned (.int .i64 r) ∧ Below w.heap.size w w' := by
 have HB := Aside0.mk (Below.refl w.heap.size w); have H : (if a0 < a1 then (some a1) else (some (mn a0 a2))) = some r := h; clear h
 by_cases c4 : a0 < a1
 ·rw [if_pos c4] at H
  have c4b0 : decide (a0 < a1) = true := decide_eq_true c4; clear c4; obtain rfl := Option.some.inj H
  go_enter Tryz.func22, Tryz.ntmps22
  go_wp2
  go_ret
  exact ⟨by first | rfl | (simp [errW_none, errW_some] <;> rfl) | (simp [*, errW_none, errW_some] <;> rfl), by repeat (first | (with_reducible first | exact HB.out | apply below_alloc | apply pw_below_drewN | apply below_drew1) | exact HB.out)⟩
 ·rw [if_neg c4] at H
  have c4b0 : decide (a0 < a1) = false := decide_eq_false c4; clear c4
  obtain ⟨ji5, hji5⟩ : ∃ j_ : Int, (mn a0 a2) = j_ := ⟨_, rfl⟩
  replace H : (some ji5) = some r := by first | (rw [hji5] at H; exact H) | (simp only [hji5] at H ⊢; exact H)
  have hji5_ : (if a2 < a0 then a2 else a0) = ji5 := hji5; obtain rfl := Option.some.inj H
  go_enter Tryz.func22, Tryz.ntmps22
  go_wp2
  go_ret
  exact ⟨by first | rfl | (simp [errW_none, errW_some] <;> rfl) | (simp only [← hji5]; first | rfl | (simp [errW_none, errW_some] <;> rfl)) | (simp [*, errW_none, errW_some] <;> rfl), by repeat (first | (with_reducible first | exact HB.out | apply below_alloc | apply pw_below_drewN | apply below_drew1) | exact HB.out)⟩

/-! ### safe_ClampS: pure, behind function 22 -/
noncomputable def safe_ClampS.f (a b c : Int) : Option Int := Sp.need (Sp.I a ∧ Sp.I b ∧ Sp.I c) (some (Sp.clamp a b c))
theorem safe_ClampS.eq {a b c : Int} (h1 : Sp.I a) (h2 : Sp.I b) (h3 : Sp.I c) : safe_ClampS.f a b c = some (Sp.clamp a b c) := Sp.need_pos ⟨h1, h2, h3⟩
section
open Go.Proofs.YtfahbgkoldoflaaGreatDoor.Sp
theorem safe_Clamp.main {a b c : Int} (h1 : Sp.I a) (h2 : Sp.I b) (h3 : Sp.I c) : safe_Clamp.f a b c = some (Sp.clamp a b c) := by
 unfold safe_Clamp.f clamp mn
 split
 ·rfl
 ·rfl
end
theorem safe_ClampS.calls (a b c r : Int) (w : World) (h : safe_ClampS.f a b c = some r) :
  Calls Tryz.prog 22 #[.int .i64 a, .int .i64 b, .int .i64 c] w fun e w' => e = .returned (.int .i64 r) ∧ Below w.heap.size w w' := by
 obtain ⟨hc, h⟩ := Sp.need_some h; obtain ⟨h1, h2, h3⟩ := hc; exact safe_Clamp.calls a b c r w (by rw [safe_Clamp.main h1 h2 h3]; exact h)

/-! ### bucket_taken: function 73 -/
noncomputable def bucket_taken.f (a0 : Int) : Option (Int) := (safe_ClampS.f a0 0 1099511627776).bind fun t105 => (some t105)
set_option maxHeartbeats 8000000 in
set_option maxRecDepth 100000 in
theorem bucket_taken.calls (a0 : Int) (r : Int) (w : World) (h : bucket_taken.f a0 = some r) :
  Calls Tryz.prog 73 #[.int .i64 a0] w fun e w' => e = .returned (.int .i64 r) ∧ Below w.heap.size w w' := by
 have HB := Aside0.mk (Below.refl w.heap.size w); have H : ((safe_ClampS.f a0 0 1099511627776).bind fun t105 => (some t105)) = some r := h; clear h; replace H := Option.bind_eq_some_iff.mp H; obtain ⟨t105, A20, H⟩ := H; replace H : (some t105) = some r := H; have A2 := Aside0.mk A20; clear A20; obtain rfl := Option.some.inj H
 go_enter Tryz.func73, Tryz.ntmps73
 go_wp2_with (first | ((with_reducible refine gate_callee (f := 22) rfl ?_); refine goesLA_ (some 4) rfl rfl Tryz.func22 rfl #[.int .i64 a0, .int .i64 0, .int .i64 1099511627776] rfl ?_; (with_reducible refine (safe_ClampS.calls a0 0 1099511627776 t105 _ A2.out).mono ?_); rintro e w3 ⟨rfl, hb⟩; refine ⟨_, rfl, ?_⟩; replace HB := stA hb; clear hb))
 go_ret
 exact ⟨by first | rfl | (simp [errW_none, errW_some] <;> rfl) | (simp [*, errW_none, errW_some] <;> rfl), by repeat (first | (with_reducible first | exact HB.out | apply below_alloc | apply pw_below_drewN | apply below_drew1) | exact HB.out)⟩

/-! ### safe_Times: function 123 -/
noncomputable def safe_Times.f (a0 : Int) (a1 : Int) : Option (Int × Int) := if a0 = (-1) then (if a1 = (-9223372036854775808) then (some (0, 10)) else (if a1 = (-1) then (if a0 = (-9223372036854775808) then (none) else (if a1 = 0 then (none) else (if (wrap64 (Int.tdiv (wrap64 (a0 * a1)) a1)) = a0 then (some (wrap64 (a0 * a1), 0)) else (some (0, 10))))) else (if a1 = 0 then (some (wrap64 (a0 * a1), 0)) else (if (wrap64 (Int.tdiv (wrap64 (a0 * a1)) a1)) = a0 then (some (wrap64 (a0 * a1), 0)) else (some (0, 10)))))) else (if a1 = (-1) then (if a0 = (-9223372036854775808) then (some (0, 10)) else (if a1 = 0 then (none) else (if (wrap64 (Int.tdiv (wrap64 (a0 * a1)) a1)) = a0 then (some (wrap64 (a0 * a1), 0)) else (some (0, 10))))) else (if a1 = 0 then (some (wrap64 (a0 * a1), 0)) else (if (wrap64 (Int.tdiv (wrap64 (a0 * a1)) a1)) = a0 then (some (wrap64 (a0 * a1), 0)) else (some (0, 10)))))
set_option maxHeartbeats 8000000 in
set_option maxRecDepth 100000 in
theorem safe_Times.calls (a0 : Int) (a1 : Int) (r1 : Int) (r2 : Int) (w : World) (h : safe_Times.f a0 a1 = some (r1, r2)) :
  Calls Tryz.prog 123 #[.int .i64 a0, .int .i64 a1] w fun e w' => e = .returned (.tuple #[.int .i64 r1, .int .i64 r2]) ∧ Drawn0 w w' := by
 have H : (if a0 = (-1) then (if a1 = (-9223372036854775808) then (some (0, 10)) else (if a1 = (-1) then (if a0 = (-9223372036854775808) then (none) else (if a1 = 0 then (none) else (if (wrap64 (Int.tdiv (wrap64 (a0 * a1)) a1)) = a0 then (some (wrap64 (a0 * a1), 0)) else (some (0, 10))))) else (if a1 = 0 then (some (wrap64 (a0 * a1), 0)) else (if (wrap64 (Int.tdiv (wrap64 (a0 * a1)) a1)) = a0 then (some (wrap64 (a0 * a1), 0)) else (some (0, 10)))))) else (if a1 = (-1) then (if a0 = (-9223372036854775808) then (some (0, 10)) else (if a1 = 0 then (none) else (if (wrap64 (Int.tdiv (wrap64 (a0 * a1)) a1)) = a0 then (some (wrap64 (a0 * a1), 0)) else (some (0, 10))))) else (if a1 = 0 then (some (wrap64 (a0 * a1), 0)) else (if (wrap64 (Int.tdiv (wrap64 (a0 * a1)) a1)) = a0 then (some (wrap64 (a0 * a1), 0)) else (some (0, 10)))))) = some (r1, r2) := h; clear h
 by_cases c3 : a0 = (-1)
 ·rw [if_pos c3] at H
  have c3b0 : (a0 == (-1)) = true := beq_iff_eq.mpr c3; have c3b1 : (a0 != (-1)) = false := bne_eq_false_iff_eq.mpr c3; clear c3
  by_cases c4 : a1 = (-9223372036854775808)
  ·rw [if_pos c4] at H
   have c4b0 : (a1 == (-9223372036854775808)) = true := beq_iff_eq.mpr c4; have c4b1 : (a1 != (-9223372036854775808)) = false := bne_eq_false_iff_eq.mpr c4; clear c4; simp only [Option.some.injEq, Prod.mk.injEq] at H; obtain ⟨rfl, rfl⟩ := H
   go_enter Tryz.func123, Tryz.ntmps123
   go_wp2
   go_ret2
   exact ⟨by first | rfl | (simp; done) | (simp [*]; done), by repeat (first | exact Drawn0.refl _ | apply Drawn0.step)⟩
  ·rw [if_neg c4] at H
   have c4b0 : (a1 == (-9223372036854775808)) = false := beq_eq_false_iff_ne.mpr c4; have c4b1 : (a1 != (-9223372036854775808)) = true := bne_iff_ne.mpr c4
   by_cases c5 : a1 = (-1)
   ·rw [if_pos c5] at H
    have c5b0 : (a1 == (-1)) = true := beq_iff_eq.mpr c5; have c5b1 : (a1 != (-1)) = false := bne_eq_false_iff_eq.mpr c5; clear c5
    by_cases c6 : a0 = (-9223372036854775808)
    ·rw [if_pos c6] at H
     exact absurd H (by simp)
    ·rw [if_neg c6] at H
     have c6b0 : (a0 == (-9223372036854775808)) = false := beq_eq_false_iff_ne.mpr c6; have c6b1 : (a0 != (-9223372036854775808)) = true := bne_iff_ne.mpr c6
     by_cases c7 : a1 = 0
     ·rw [if_pos c7] at H
      exact absurd H (by simp)
     ·rw [if_neg c7] at H
      have c7b0 : (a1 == 0) = false := beq_eq_false_iff_ne.mpr c7; have c7b1 : (a1 != 0) = true := bne_iff_ne.mpr c7
      by_cases c8 : (wrap64 (Int.tdiv (wrap64 (a0 * a1)) a1)) = a0
      ·rw [if_pos c8] at H
       have c8b0 : ((wrap64 (Int.tdiv (wrap64 (a0 * a1)) a1)) == a0) = true := beq_iff_eq.mpr c8; have c8b1 : ((wrap64 (Int.tdiv (wrap64 (a0 * a1)) a1)) != a0) = false := bne_eq_false_iff_eq.mpr c8; clear c8; simp only [Option.some.injEq, Prod.mk.injEq] at H; obtain ⟨rfl, rfl⟩ := H
       go_enter Tryz.func123, Tryz.ntmps123
       go_wp2
       go_ret2
       exact ⟨by first | rfl | (simp; done) | (simp [*]; done), by repeat (first | exact Drawn0.refl _ | apply Drawn0.step)⟩
      ·rw [if_neg c8] at H
       have c8b0 : ((wrap64 (Int.tdiv (wrap64 (a0 * a1)) a1)) == a0) = false := beq_eq_false_iff_ne.mpr c8; have c8b1 : ((wrap64 (Int.tdiv (wrap64 (a0 * a1)) a1)) != a0) = true := bne_iff_ne.mpr c8; simp only [Option.some.injEq, Prod.mk.injEq] at H; obtain ⟨rfl, rfl⟩ := H
       go_enter Tryz.func123, Tryz.ntmps123
       go_wp2
       go_ret2
       exact ⟨by first | rfl | (simp; done) | (simp [*]; done), by repeat (first | exact Drawn0.refl _ | apply Drawn0.step)⟩
   ·rw [if_neg c5] at H
    have c5b0 : (a1 == (-1)) = false := beq_eq_false_iff_ne.mpr c5; have c5b1 : (a1 != (-1)) = true := bne_iff_ne.mpr c5
    by_cases c9 : a1 = 0
    ·rw [if_pos c9] at H
     have c9b0 : (a1 == 0) = true := beq_iff_eq.mpr c9; have c9b1 : (a1 != 0) = false := bne_eq_false_iff_eq.mpr c9; clear c9; simp only [Option.some.injEq, Prod.mk.injEq] at H; obtain ⟨rfl, rfl⟩ := H
     go_enter Tryz.func123, Tryz.ntmps123
     go_wp2
     go_ret2
     exact ⟨by first | rfl | (simp; done) | (simp [*]; done), by repeat (first | exact Drawn0.refl _ | apply Drawn0.step)⟩
    ·rw [if_neg c9] at H
     have c9b0 : (a1 == 0) = false := beq_eq_false_iff_ne.mpr c9; have c9b1 : (a1 != 0) = true := bne_iff_ne.mpr c9
     by_cases c10 : (wrap64 (Int.tdiv (wrap64 (a0 * a1)) a1)) = a0
     ·rw [if_pos c10] at H
      have c10b0 : ((wrap64 (Int.tdiv (wrap64 (a0 * a1)) a1)) == a0) = true := beq_iff_eq.mpr c10; have c10b1 : ((wrap64 (Int.tdiv (wrap64 (a0 * a1)) a1)) != a0) = false := bne_eq_false_iff_eq.mpr c10; clear c10; simp only [Option.some.injEq, Prod.mk.injEq] at H; obtain ⟨rfl, rfl⟩ := H
      go_enter Tryz.func123, Tryz.ntmps123
      go_wp2
      go_ret2
      exact ⟨by first | rfl | (simp; done) | (simp [*]; done), by repeat (first | exact Drawn0.refl _ | apply Drawn0.step)⟩
     ·rw [if_neg c10] at H
      have c10b0 : ((wrap64 (Int.tdiv (wrap64 (a0 * a1)) a1)) == a0) = false := beq_eq_false_iff_ne.mpr c10; have c10b1 : ((wrap64 (Int.tdiv (wrap64 (a0 * a1)) a1)) != a0) = true := bne_iff_ne.mpr c10; simp only [Option.some.injEq, Prod.mk.injEq] at H; obtain ⟨rfl, rfl⟩ := H
      go_enter Tryz.func123, Tryz.ntmps123
      go_wp2
      go_ret2
      exact ⟨by first | rfl | (simp; done) | (simp [*]; done), by repeat (first | exact Drawn0.refl _ | apply Drawn0.step)⟩
 ·rw [if_neg c3] at H
  have c3b0 : (a0 == (-1)) = false := beq_eq_false_iff_ne.mpr c3; have c3b1 : (a0 != (-1)) = true := bne_iff_ne.mpr c3
  by_cases c11 : a1 = (-1)
  ·rw [if_pos c11] at H
   have c11b0 : (a1 == (-1)) = true := beq_iff_eq.mpr c11; have c11b1 : (a1 != (-1)) = false := bne_eq_false_iff_eq.mpr c11; clear c11
   by_cases c12 : a0 = (-9223372036854775808)
   ·rw [if_pos c12] at H
    have c12b0 : (a0 == (-9223372036854775808)) = true := beq_iff_eq.mpr c12; have c12b1 : (a0 != (-9223372036854775808)) = false := bne_eq_false_iff_eq.mpr c12; clear c12; simp only [Option.some.injEq, Prod.mk.injEq] at H; obtain ⟨rfl, rfl⟩ := H
    go_enter Tryz.func123, Tryz.ntmps123
    go_wp2
    go_ret2
    exact ⟨by first | rfl | (simp; done) | (simp [*]; done), by repeat (first | exact Drawn0.refl _ | apply Drawn0.step)⟩
   ·rw [if_neg c12] at H
    have c12b0 : (a0 == (-9223372036854775808)) = false := beq_eq_false_iff_ne.mpr c12; have c12b1 : (a0 != (-9223372036854775808)) = true := bne_iff_ne.mpr c12
    by_cases c13 : a1 = 0
    ·rw [if_pos c13] at H
     exact absurd H (by simp)
    ·rw [if_neg c13] at H
     have c13b0 : (a1 == 0) = false := beq_eq_false_iff_ne.mpr c13; have c13b1 : (a1 != 0) = true := bne_iff_ne.mpr c13
     by_cases c14 : (wrap64 (Int.tdiv (wrap64 (a0 * a1)) a1)) = a0
     ·rw [if_pos c14] at H
      have c14b0 : ((wrap64 (Int.tdiv (wrap64 (a0 * a1)) a1)) == a0) = true := beq_iff_eq.mpr c14; have c14b1 : ((wrap64 (Int.tdiv (wrap64 (a0 * a1)) a1)) != a0) = false := bne_eq_false_iff_eq.mpr c14; clear c14; simp only [Option.some.injEq, Prod.mk.injEq] at H; obtain ⟨rfl, rfl⟩ := H
      go_enter Tryz.func123, Tryz.ntmps123
      go_wp2
      go_ret2
      exact ⟨by first | rfl | (simp; done) | (simp [*]; done), by repeat (first | exact Drawn0.refl _ | apply Drawn0.step)⟩
     ·rw [if_neg c14] at H
      have c14b0 : ((wrap64 (Int.tdiv (wrap64 (a0 * a1)) a1)) == a0) = false := beq_eq_false_iff_ne.mpr c14; have c14b1 : ((wrap64 (Int.tdiv (wrap64 (a0 * a1)) a1)) != a0) = true := bne_iff_ne.mpr c14; simp only [Option.some.injEq, Prod.mk.injEq] at H; obtain ⟨rfl, rfl⟩ := H
      go_enter Tryz.func123, Tryz.ntmps123
      go_wp2
      go_ret2
      exact ⟨by first | rfl | (simp; done) | (simp [*]; done), by repeat (first | exact Drawn0.refl _ | apply Drawn0.step)⟩
  ·rw [if_neg c11] at H
   have c11b0 : (a1 == (-1)) = false := beq_eq_false_iff_ne.mpr c11; have c11b1 : (a1 != (-1)) = true := bne_iff_ne.mpr c11
   by_cases c15 : a1 = 0
   ·rw [if_pos c15] at H
    have c15b0 : (a1 == 0) = true := beq_iff_eq.mpr c15; have c15b1 : (a1 != 0) = false := bne_eq_false_iff_eq.mpr c15; clear c15; simp only [Option.some.injEq, Prod.mk.injEq] at H; obtain ⟨rfl, rfl⟩ := H
    go_enter Tryz.func123, Tryz.ntmps123
    go_wp2
    go_ret2
    exact ⟨by first | rfl | (simp; done) | (simp [*]; done), by repeat (first | exact Drawn0.refl _ | apply Drawn0.step)⟩
   ·rw [if_neg c15] at H
    have c15b0 : (a1 == 0) = false := beq_eq_false_iff_ne.mpr c15; have c15b1 : (a1 != 0) = true := bne_iff_ne.mpr c15
    by_cases c16 : (wrap64 (Int.tdiv (wrap64 (a0 * a1)) a1)) = a0
    ·rw [if_pos c16] at H
     have c16b0 : ((wrap64 (Int.tdiv (wrap64 (a0 * a1)) a1)) == a0) = true := beq_iff_eq.mpr c16; have c16b1 : ((wrap64 (Int.tdiv (wrap64 (a0 * a1)) a1)) != a0) = false := bne_eq_false_iff_eq.mpr c16; clear c16; simp only [Option.some.injEq, Prod.mk.injEq] at H; obtain ⟨rfl, rfl⟩ := H
     go_enter Tryz.func123, Tryz.ntmps123
     go_wp2
     go_ret2
     exact ⟨by first | rfl | (simp; done) | (simp [*]; done), by repeat (first | exact Drawn0.refl _ | apply Drawn0.step)⟩
    ·rw [if_neg c16] at H
     have c16b0 : ((wrap64 (Int.tdiv (wrap64 (a0 * a1)) a1)) == a0) = false := beq_eq_false_iff_ne.mpr c16; have c16b1 : ((wrap64 (Int.tdiv (wrap64 (a0 * a1)) a1)) != a0) = true := bne_iff_ne.mpr c16; simp only [Option.some.injEq, Prod.mk.injEq] at H; obtain ⟨rfl, rfl⟩ := H
     go_enter Tryz.func123, Tryz.ntmps123
     go_wp2
     go_ret2
     exact ⟨by first | rfl | (simp; done) | (simp [*]; done), by repeat (first | exact Drawn0.refl _ | apply Drawn0.step)⟩

/-! ### safe_TimesS: a product, or its error: pure, behind function 123 -/
noncomputable def safe_TimesS.f (a b : Int) : Option (Int × Int) := Sp.need (Sp.I a ∧ Sp.I b) (Sp.fit (a * b))
section SafeTimes
open Go.Proofs.YtfahbgkoldoflaaGreatDoor.Sp
theorem safe_Times.main {a b : Int} (h1 : I a) (h2 : I b) : safe_Times.f a b = fit (a * b) := by
 unfold safe_Times.f fit
 by_cases c : I (a * b)
 ·obtain ⟨k1, k2, k3⟩ := times_fits h1 h2 c
  rw [if_pos c]
  rw [w64 c] at *
  have k4 : b = 0 ∨ wrap64 (Int.tdiv (a * b) b) = a := by
   by_cases hb : b = 0
   ·exact Or.inl hb
   ·exact Or.inr (k3 hb)
  clear k3
  generalize wrap64 (Int.tdiv (a * b) b) = q at *
  (repeat' split) <;> first | rfl | (exfalso; omega)
 ·rw [if_neg c]
  have k : (a = -1 ∧ b = -9223372036854775808) ∨ (b = -1 ∧ a = -9223372036854775808) ∨ (b ≠ 0 ∧ wrap64 (Int.tdiv (wrap64 (a * b)) b) ≠ a) := by
   by_cases k1 : a = -1 ∧ b = -9223372036854775808
   ·exact Or.inl k1
   by_cases k2 : b = -1 ∧ a = -9223372036854775808
   ·exact Or.inr (Or.inl k2)
   exact Or.inr (Or.inr (times_over h1 h2 c k1 k2))
  generalize wrap64 (Int.tdiv (wrap64 (a * b)) b) = q at *
  generalize wrap64 (a * b) = p at *
  (repeat' split) <;> first | rfl | (exfalso; omega)
end SafeTimes
theorem safe_TimesS.calls (a0 a1 r1 r2 : Int) (w : World) (h : safe_TimesS.f a0 a1 = some (r1, r2)) :
  Calls Tryz.prog 123 #[.int .i64 a0, .int .i64 a1] w fun e w' => e = .returned (.tuple #[.int .i64 r1, .int .i64 r2]) ∧ Drawn0 w w' := by
 obtain ⟨hc, h⟩ := Sp.need_some h; exact safe_Times.calls a0 a1 r1 r2 w (by rw [safe_Times.main hc.1 hc.2]; exact h)

/-! ### safe_Mul: function 74 -/
noncomputable def safe_Mul.f (a b : Int) : Option Int := Sp.need (Sp.I a ∧ Sp.I b) (some (Sp.near (a * b)))
theorem safe_Mul.eq {a b : Int} (h1 : Sp.I a) (h2 : Sp.I b) : safe_Mul.f a b = some (Sp.near (a * b)) := Sp.need_pos ⟨h1, h2⟩
theorem safe_TimesS.as {a b x y : Int} (h1 : Sp.I a) (h2 : Sp.I b) (h : Sp.fit (a * b) = some (x, y)) : Aside0 (safe_TimesS.f a b = some (x, y)) := ⟨(Sp.need_pos ⟨h1, h2⟩).trans h⟩
set_option maxHeartbeats 1000000 in
set_option maxRecDepth 100000 in
theorem safe_Mul.in_ (a0 a1 v : Int) (w : World) (HP : Aside0 (safe_TimesS.f a0 a1 = some (v, 0))) :
  Calls Tryz.prog 74 #[.int .i64 a0, .int .i64 a1] w fun e w' => e = .returned (.int .i64 v) ∧ Below w.heap.size w w' := by
 have hmf : ∀ (fn : Fn) (first cap : Array Value) (w : World), (Instr.makeFunc fn first cap).run Tryz.prog w = .ok (.func fn first cap) w := fun _ _ _ _ => rfl
 go_enter Tryz.func74, Tryz.ntmps74
 go_wp2_with (first | (go_at_call 123; refine (safe_TimesS.calls a0 a1 _ _ _ HP.out).mono ?_; rintro e w' ⟨rfl, ⟨nd, rfl⟩⟩) | go_in)
 go_ret
 exact ⟨rfl, by repeat (first | exact Below.refl _ _ | apply below_alloc | apply pw_below_drewN)⟩
set_option maxHeartbeats 2000000 in
set_option maxRecDepth 100000 in
theorem safe_Mul.out_ (a0 a1 v : Int) (x y : Bool) (w : World) (HP : Aside0 (safe_TimesS.f a0 a1 = some (0, 10))) (h1 : decide (a0 < 0) = x) (h2 : decide (a1 < 0) = y) (hv : v = if (x != y) = true then -9223372036854775808 else 9223372036854775807) :
  Calls Tryz.prog 74 #[.int .i64 a0, .int .i64 a1] w fun e w' => e = .returned (.int .i64 v) ∧ Below w.heap.size w w' := by
 have hmf : ∀ (fn : Fn) (first cap : Array Value) (w : World), (Instr.makeFunc fn first cap).run Tryz.prog w = .ok (.func fn first cap) w := fun _ _ _ _ => rfl
 cases x <;> cases y
 ·obtain rfl : v = 9223372036854775807 := by rw [hv]; rfl
  clear hv
  go_enter Tryz.func74, Tryz.ntmps74
  go_wp2_with (first | (go_at_call 123; refine (safe_TimesS.calls a0 a1 _ _ _ HP.out).mono ?_; rintro e w' ⟨rfl, ⟨nd, rfl⟩⟩) | go_in)
  go_ret
  exact ⟨rfl, by repeat (first | exact Below.refl _ _ | apply below_alloc | apply pw_below_drewN)⟩
 ·obtain rfl : v = -9223372036854775808 := by rw [hv]; rfl
  clear hv
  go_enter Tryz.func74, Tryz.ntmps74
  go_wp2_with (first | (go_at_call 123; refine (safe_TimesS.calls a0 a1 _ _ _ HP.out).mono ?_; rintro e w' ⟨rfl, ⟨nd, rfl⟩⟩) | go_in)
  go_ret
  exact ⟨rfl, by repeat (first | exact Below.refl _ _ | apply below_alloc | apply pw_below_drewN)⟩
 ·obtain rfl : v = -9223372036854775808 := by rw [hv]; rfl
  clear hv
  go_enter Tryz.func74, Tryz.ntmps74
  go_wp2_with (first | (go_at_call 123; refine (safe_TimesS.calls a0 a1 _ _ _ HP.out).mono ?_; rintro e w' ⟨rfl, ⟨nd, rfl⟩⟩) | go_in)
  go_ret
  exact ⟨rfl, by repeat (first | exact Below.refl _ _ | apply below_alloc | apply pw_below_drewN)⟩
 ·obtain rfl : v = 9223372036854775807 := by rw [hv]; rfl
  clear hv
  go_enter Tryz.func74, Tryz.ntmps74
  go_wp2_with (first | (go_at_call 123; refine (safe_TimesS.calls a0 a1 _ _ _ HP.out).mono ?_; rintro e w' ⟨rfl, ⟨nd, rfl⟩⟩) | go_in)
  go_ret
  exact ⟨rfl, by repeat (first | exact Below.refl _ _ | apply below_alloc | apply pw_below_drewN)⟩
theorem safe_Mul.calls (a0 a1 r : Int) (w : World) (h : safe_Mul.f a0 a1 = some r) :
  Calls Tryz.prog 74 #[.int .i64 a0, .int .i64 a1] w fun e w' => e = .returned (.int .i64 r) ∧ Below w.heap.size w w' := by
 obtain ⟨hc, h⟩ := Sp.need_some h; obtain rfl := Option.some.inj h
 by_cases c : Sp.I (a0 * a1)
 ·rw [Sp.near_in c]
  exact safe_Mul.in_ a0 a1 _ w (safe_TimesS.as hc.1 hc.2 (Sp.fit_in c))
 ·refine safe_Mul.out_ a0 a1 _ _ _ w (safe_TimesS.as hc.1 hc.2 (Sp.fit_out c)) rfl rfl ?_; have m := Sp.mul_sign a0 a1
  by_cases s : (decide (a0 < 0) != decide (a1 < 0)) = true
  ·rw [if_pos s, Sp.near_lo (by have := m.1 s; omega)]
  ·rw [if_neg s, Sp.near_hi (by have := m.2 (by simpa using s); omega)]

end Go.Proofs.YtfahbgkoldoflaaGreatDoor.Px
