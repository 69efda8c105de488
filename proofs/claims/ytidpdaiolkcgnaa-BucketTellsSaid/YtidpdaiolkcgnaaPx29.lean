/- Printed by a program of this session (wip/tool/px.py), over the kit's print: for each Go function a Lean function, and the proof that the machine's call answers as that function says. Conditions: none beside what the theorems state. -/
import Derived.Test.YtidpdaiolkcgnaaPx0
import Derived.Test.YtidpdaiolkcgnaaSpec
namespace Go.Proofs.Ytidpdaiolkcgnaa.Px
open Go.RowKit Go.Proofs.YtidpdaiolkcgnaaW.PrintWords Go.Proofs.YtidpdaiolkcgnaaW.PrintLast Go.Proofs.YtidpdaiolkcgnaaW.PrintMore
attribute [local go_sem] max2_int min2_int max_two min_two max_three min_three max_four min_four   -- for this text's walks alone
set_option linter.unusedVariables false
set_option linter.unusedSimpArgs false

/-! ### sawtoothref01_Times: function 42 -/
noncomputable def sawtoothref01_Times.f (a b : Int) : Option (Int × Int) := Go.Proofs.Ytidpdaiolkcgnaa.Sp.need (Go.Proofs.Ytidpdaiolkcgnaa.Sp.I a ∧ Go.Proofs.Ytidpdaiolkcgnaa.Sp.I b) (Go.Proofs.Ytidpdaiolkcgnaa.Sp.fit (a * b))
theorem sawtoothref01_Times.eq {a b : Int} (h1 : Go.Proofs.Ytidpdaiolkcgnaa.Sp.I a) (h2 : Go.Proofs.Ytidpdaiolkcgnaa.Sp.I b) : sawtoothref01_Times.f a b = Go.Proofs.Ytidpdaiolkcgnaa.Sp.fit (a * b) := Go.Proofs.Ytidpdaiolkcgnaa.Sp.need_pos ⟨h1, h2⟩
set_option maxHeartbeats 2000000 in
set_option maxRecDepth 100000 in
theorem sawtoothref01_Times.pp (a0 a1 : Int) (over : Bool) (A1 : decide (0 < a0) = true) (A2 : decide (a0 < 0) = false) (A3 : ¬ a0 = 0) (A4 : (a0 == 0) = false) (B1 : decide (0 < a1) = true) (B2 : decide (a1 < 0) = false) (B3 : ¬ a1 = 0) (B4 : (a1 == 0) = false) (D : decide (wrap64 (Int.tdiv 9223372036854775807 a1) < a0) = over) (w : World) :
  Calls Try.prog 42 #[.int .i64 a0, .int .i64 a1] w fun e w' => e = .returned (.tuple #[.int .i64 (if over = true then 0 else wrap64 (a0 * a1)), .int .i64 (if over = true then 10 else 0)]) ∧ Drawn0 w w' := by
 cases over
 ·go_enter Try.func42, Try.ntmps42
  go_wp2
  go_ret2
  exact ⟨by first | rfl | (simp; done) | (simp [*]; done), by repeat (first | exact Drawn0.refl _ | apply Drawn0.step)⟩
 ·go_enter Try.func42, Try.ntmps42
  go_wp2
  go_ret2
  exact ⟨by first | rfl | (simp; done) | (simp [*]; done), by repeat (first | exact Drawn0.refl _ | apply Drawn0.step)⟩
set_option maxHeartbeats 2000000 in
set_option maxRecDepth 100000 in
theorem sawtoothref01_Times.pn (a0 a1 : Int) (over : Bool) (A1 : decide (0 < a0) = true) (A2 : decide (a0 < 0) = false) (A3 : ¬ a0 = 0) (A4 : (a0 == 0) = false) (B1 : decide (0 < a1) = false) (B2 : decide (a1 < 0) = true) (B3 : ¬ a1 = 0) (B4 : (a1 == 0) = false) (D : decide (a1 < wrap64 (-Int.tdiv 9223372036854775808 a0)) = over) (w : World) :
  Calls Try.prog 42 #[.int .i64 a0, .int .i64 a1] w fun e w' => e = .returned (.tuple #[.int .i64 (if over = true then 0 else wrap64 (a0 * a1)), .int .i64 (if over = true then 10 else 0)]) ∧ Drawn0 w w' := by
 cases over
 ·go_enter Try.func42, Try.ntmps42
  go_wp2
  go_ret2
  exact ⟨by first | rfl | (simp; done) | (simp [*]; done), by repeat (first | exact Drawn0.refl _ | apply Drawn0.step)⟩
 ·go_enter Try.func42, Try.ntmps42
  go_wp2
  go_ret2
  exact ⟨by first | rfl | (simp; done) | (simp [*]; done), by repeat (first | exact Drawn0.refl _ | apply Drawn0.step)⟩
set_option maxHeartbeats 2000000 in
set_option maxRecDepth 100000 in
theorem sawtoothref01_Times.np (a0 a1 : Int) (over : Bool) (A1 : decide (0 < a0) = false) (A2 : decide (a0 < 0) = true) (A3 : ¬ a0 = 0) (A4 : (a0 == 0) = false) (B1 : decide (0 < a1) = true) (B2 : decide (a1 < 0) = false) (B3 : ¬ a1 = 0) (B4 : (a1 == 0) = false) (D : decide (a0 < wrap64 (-Int.tdiv 9223372036854775808 a1)) = over) (w : World) :
  Calls Try.prog 42 #[.int .i64 a0, .int .i64 a1] w fun e w' => e = .returned (.tuple #[.int .i64 (if over = true then 0 else wrap64 (a0 * a1)), .int .i64 (if over = true then 10 else 0)]) ∧ Drawn0 w w' := by
 cases over
 ·go_enter Try.func42, Try.ntmps42
  go_wp2
  go_ret2
  exact ⟨by first | rfl | (simp; done) | (simp [*]; done), by repeat (first | exact Drawn0.refl _ | apply Drawn0.step)⟩
 ·go_enter Try.func42, Try.ntmps42
  go_wp2
  go_ret2
  exact ⟨by first | rfl | (simp; done) | (simp [*]; done), by repeat (first | exact Drawn0.refl _ | apply Drawn0.step)⟩
set_option maxHeartbeats 2000000 in
set_option maxRecDepth 100000 in
theorem sawtoothref01_Times.nn (a0 a1 : Int) (over : Bool) (A1 : decide (0 < a0) = false) (A2 : decide (a0 < 0) = true) (A3 : ¬ a0 = 0) (A4 : (a0 == 0) = false) (B1 : decide (0 < a1) = false) (B2 : decide (a1 < 0) = true) (B3 : ¬ a1 = 0) (B4 : (a1 == 0) = false) (D : decide (a1 < wrap64 (Int.tdiv 9223372036854775807 a0)) = over) (w : World) :
  Calls Try.prog 42 #[.int .i64 a0, .int .i64 a1] w fun e w' => e = .returned (.tuple #[.int .i64 (if over = true then 0 else wrap64 (a0 * a1)), .int .i64 (if over = true then 10 else 0)]) ∧ Drawn0 w w' := by
 cases over
 ·go_enter Try.func42, Try.ntmps42
  go_wp2
  go_ret2
  exact ⟨by first | rfl | (simp; done) | (simp [*]; done), by repeat (first | exact Drawn0.refl _ | apply Drawn0.step)⟩
 ·go_enter Try.func42, Try.ntmps42
  go_wp2
  go_ret2
  exact ⟨by first | rfl | (simp; done) | (simp [*]; done), by repeat (first | exact Drawn0.refl _ | apply Drawn0.step)⟩
set_option maxHeartbeats 2000000 in
set_option maxRecDepth 100000 in
theorem sawtoothref01_Times.pz (a0 a1 : Int) (A1 : decide (0 < a0) = true) (A2 : decide (a0 < 0) = false) (A3 : ¬ a0 = 0) (A4 : (a0 == 0) = false) (B1 : decide (0 < a1) = false) (B2 : decide (a1 < 0) = false) (w : World) :
  Calls Try.prog 42 #[.int .i64 a0, .int .i64 a1] w fun e w' => e = .returned (.tuple #[.int .i64 (wrap64 (a0 * a1)), .int .i64 0]) ∧ Drawn0 w w' := by
 go_enter Try.func42, Try.ntmps42
 go_wp2
 go_ret2
 exact ⟨by first | rfl | (simp; done) | (simp [*]; done), by repeat (first | exact Drawn0.refl _ | apply Drawn0.step)⟩
set_option maxHeartbeats 2000000 in
set_option maxRecDepth 100000 in
theorem sawtoothref01_Times.nz (a0 a1 : Int) (A1 : decide (0 < a0) = false) (A2 : decide (a0 < 0) = true) (A3 : ¬ a0 = 0) (A4 : (a0 == 0) = false) (B1 : decide (0 < a1) = false) (B2 : decide (a1 < 0) = false) (w : World) :
  Calls Try.prog 42 #[.int .i64 a0, .int .i64 a1] w fun e w' => e = .returned (.tuple #[.int .i64 (wrap64 (a0 * a1)), .int .i64 0]) ∧ Drawn0 w w' := by
 go_enter Try.func42, Try.ntmps42
 go_wp2
 go_ret2
 exact ⟨by first | rfl | (simp; done) | (simp [*]; done), by repeat (first | exact Drawn0.refl _ | apply Drawn0.step)⟩
set_option maxHeartbeats 2000000 in
set_option maxRecDepth 100000 in
theorem sawtoothref01_Times.z (a0 a1 : Int) (A1 : decide (0 < a0) = false) (A2 : decide (a0 < 0) = false)  (w : World) :
  Calls Try.prog 42 #[.int .i64 a0, .int .i64 a1] w fun e w' => e = .returned (.tuple #[.int .i64 (wrap64 (a0 * a1)), .int .i64 0]) ∧ Drawn0 w w' := by
 go_enter Try.func42, Try.ntmps42
 go_wp2
 go_ret2
 exact ⟨by first | rfl | (simp; done) | (simp [*]; done), by repeat (first | exact Drawn0.refl _ | apply Drawn0.step)⟩
section
open Go.Proofs.Ytidpdaiolkcgnaa.Sp
theorem sawtoothref01_Times.told {a b r1 r2 : Int} {over : Bool} (k : over = true ↔ ¬ I (a * b)) (h : fit (a * b) = some (r1, r2)) : r1 = (if over = true then 0 else wrap64 (a * b)) ∧ r2 = (if over = true then 10 else 0) := by
 by_cases c : I (a * b)
 ·rw [fit_in c] at h
  have e : ¬ over = true := fun x => k.1 x c
  rw [if_neg e, if_neg e, w64 c]
  cases h; exact ⟨rfl, rfl⟩
 ·rw [fit_out c] at h
  rw [if_pos (k.2 c), if_pos (k.2 c)]
  cases h; exact ⟨rfl, rfl⟩
theorem sawtoothref01_Times.calls (a0 a1 r1 r2 : Int) (w : World) (h : sawtoothref01_Times.f a0 a1 = some (r1, r2)) :
  Calls Try.prog 42 #[.int .i64 a0, .int .i64 a1] w fun e w' => e = .returned (.tuple #[.int .i64 r1, .int .i64 r2]) ∧ Drawn0 w w' := by
 obtain ⟨⟨h1, h2⟩, h⟩ := need_some h
 have d1 : ∀ x : Int, 0 < x → wrap64 (Int.tdiv 9223372036854775807 x) = 9223372036854775807 / x := by
  intro x hx; have := Int.ediv_nonneg (show (0 : Int) ≤ 9223372036854775807 by omega) (show 0 ≤ x by omega); have := Int.ediv_le_self x (show (0 : Int) ≤ 9223372036854775807 by omega)
  rw [Int.tdiv_eq_ediv_of_nonneg (by omega)]
  exact w64 (by omega)
 have d2 : ∀ x : Int, 0 < x → wrap64 (-Int.tdiv 9223372036854775808 x) = -(9223372036854775808 / x) := by
  intro x hx; have := Int.ediv_nonneg (show (0 : Int) ≤ 9223372036854775808 by omega) (show 0 ≤ x by omega); have := Int.ediv_le_self x (show (0 : Int) ≤ 9223372036854775808 by omega)
  rw [Int.tdiv_eq_ediv_of_nonneg (by omega)]
  exact w64 (by omega)
 have d3 : ∀ x : Int, x < 0 → wrap64 (Int.tdiv 9223372036854775807 x) = -(9223372036854775807 / -x) := by
  intro x hx
  have e : (9223372036854775807 : Int) / x = -(9223372036854775807 / -x) := by
   conv => lhs; rw [show x = -(-x) by omega]
   rw [Int.ediv_neg]
  have := Int.ediv_nonneg (show (0 : Int) ≤ 9223372036854775807 by omega) (show 0 ≤ -x by omega); have := Int.ediv_le_self (-x) (show (0 : Int) ≤ 9223372036854775807 by omega)
  rw [Int.tdiv_eq_ediv_of_nonneg (by omega), e]; exact w64 (by omega)
 have z : a0 = 0 ∨ a1 = 0 → r1 = wrap64 (a0 * a1) ∧ r2 = 0 := by
  intro z
  have e : a0 * a1 = 0 := by rcases z with z | z <;> simp [z]
  rw [e] at h ⊢
  rw [fit_in (by omega)] at h
  rw [w64 (by omega)]
  cases h; exact ⟨rfl, rfl⟩
 rcases Int.lt_trichotomy a0 0 with x | x | x
 ·rcases Int.lt_trichotomy a1 0 with y | y | y
  ·have e : a0 * a1 = (-a0) * (-a1) := by rw [Int.neg_mul_neg]
   have m := Int.mul_pos (show 0 < -a0 by omega) (show 0 < -a1 by omega); have k := Int.le_ediv_iff_mul_le (b := 9223372036854775807) (a := -a1) (show 0 < -a0 by omega)
   rw [Int.mul_comm (-a1), ← e] at k
   rw [← e] at m
   obtain ⟨rfl, rfl⟩ := sawtoothref01_Times.told (over := decide (a1 < wrap64 (Int.tdiv 9223372036854775807 a0))) (by rw [decide_eq_true_iff, d3 a0 x]; omega) h; exact sawtoothref01_Times.nn a0 a1 _ (decide_eq_false (by omega)) (decide_eq_true x) (by omega) (beq_eq_false_iff_ne.mpr (by omega)) (decide_eq_false (by omega)) (decide_eq_true y) (by omega) (beq_eq_false_iff_ne.mpr (by omega)) rfl w
  ·obtain ⟨rfl, rfl⟩ := z (Or.inr y); exact sawtoothref01_Times.nz a0 a1 (decide_eq_false (by omega)) (decide_eq_true x) (by omega) (beq_eq_false_iff_ne.mpr (by omega)) (decide_eq_false (by omega)) (decide_eq_false (by omega)) w
  ·have e : a0 * a1 = -(-a0 * a1) := by rw [Int.neg_mul]; omega
   have m := Int.mul_pos (show 0 < -a0 by omega) y; have k := Int.le_ediv_iff_mul_le (b := 9223372036854775808) (a := -a0) y; obtain ⟨rfl, rfl⟩ := sawtoothref01_Times.told (over := decide (a0 < wrap64 (-Int.tdiv 9223372036854775808 a1))) (by rw [decide_eq_true_iff, d2 a1 y]; omega) h; exact sawtoothref01_Times.np a0 a1 _ (decide_eq_false (by omega)) (decide_eq_true x) (by omega) (beq_eq_false_iff_ne.mpr (by omega)) (decide_eq_true y) (decide_eq_false (by omega)) (by omega) (beq_eq_false_iff_ne.mpr (by omega)) rfl w
 ·obtain ⟨rfl, rfl⟩ := z (Or.inl x); exact sawtoothref01_Times.z a0 a1 (decide_eq_false (by omega)) (decide_eq_false (by omega)) w
 ·rcases Int.lt_trichotomy a1 0 with y | y | y
  ·have e : a0 * a1 = -(a0 * -a1) := by rw [Int.mul_neg]; omega
   have m := Int.mul_pos x (show 0 < -a1 by omega); have k := Int.le_ediv_iff_mul_le (b := 9223372036854775808) (a := -a1) x
   rw [Int.mul_comm (-a1)] at k
   obtain ⟨rfl, rfl⟩ := sawtoothref01_Times.told (over := decide (a1 < wrap64 (-Int.tdiv 9223372036854775808 a0))) (by rw [decide_eq_true_iff, d2 a0 x]; omega) h; exact sawtoothref01_Times.pn a0 a1 _ (decide_eq_true x) (decide_eq_false (by omega)) (by omega) (beq_eq_false_iff_ne.mpr (by omega)) (decide_eq_false (by omega)) (decide_eq_true y) (by omega) (beq_eq_false_iff_ne.mpr (by omega)) rfl w
  ·obtain ⟨rfl, rfl⟩ := z (Or.inr y); exact sawtoothref01_Times.pz a0 a1 (decide_eq_true x) (decide_eq_false (by omega)) (by omega) (beq_eq_false_iff_ne.mpr (by omega)) (decide_eq_false (by omega)) (decide_eq_false (by omega)) w
  ·have m := Int.mul_pos x y; have k := Int.le_ediv_iff_mul_le (b := 9223372036854775807) (a := a0) y; obtain ⟨rfl, rfl⟩ := sawtoothref01_Times.told (over := decide (wrap64 (Int.tdiv 9223372036854775807 a1) < a0)) (by rw [decide_eq_true_iff, d1 a1 y]; omega) h; exact sawtoothref01_Times.pp a0 a1 _ (decide_eq_true x) (decide_eq_false (by omega)) (by omega) (beq_eq_false_iff_ne.mpr (by omega)) (decide_eq_true y) (decide_eq_false (by omega)) (by omega) (beq_eq_false_iff_ne.mpr (by omega)) rfl w
end

end Go.Proofs.Ytidpdaiolkcgnaa.Px
