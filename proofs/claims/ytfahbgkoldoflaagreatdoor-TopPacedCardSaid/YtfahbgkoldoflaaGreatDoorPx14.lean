/- Printed by px.py, over the kit's print. Conditions: none beside the theorems' own. -/
import Derived.Test.YtfahbgkoldoflaaGreatDoorPx0
import Derived.Test.YtfahbgkoldoflaaGreatDoorSpec
namespace Go.Proofs.YtfahbgkoldoflaaGreatDoor.Px
open Go.RowKit Go.Proofs.YtfahbgkoldoflaaGreatDoorW.PrintWords Go.Proofs.YtfahbgkoldoflaaGreatDoorW.PrintLast Go.Proofs.YtfahbgkoldoflaaGreatDoorW.PrintMore
attribute [local go_sem] max2_int min2_int max_two min_two max_three min_three max_four min_four
set_option linter.unusedVariables false
set_option linter.unusedSimpArgs false

/-! ### safe_Times: function 123 -/
noncomputable def safe_Times.f (a0 : Int) (a1 : Int) : Option (Int × Int) := if a0 = (-1) then (if a1 = (-9223372036854775808) then (some (0, 10)) else (if a1 = (-1) then (if a0 = (-9223372036854775808) then (none) else (if a1 = 0 then (none) else (if (wrap64 (Int.tdiv (wrap64 (a0 * a1)) a1)) = a0 then (some (wrap64 (a0 * a1), 0)) else (some (0, 10))))) else (if a1 = 0 then (some (wrap64 (a0 * a1), 0)) else (if (wrap64 (Int.tdiv (wrap64 (a0 * a1)) a1)) = a0 then (some (wrap64 (a0 * a1), 0)) else (some (0, 10)))))) else (if a1 = (-1) then (if a0 = (-9223372036854775808) then (some (0, 10)) else (if a1 = 0 then (none) else (if (wrap64 (Int.tdiv (wrap64 (a0 * a1)) a1)) = a0 then (some (wrap64 (a0 * a1), 0)) else (some (0, 10))))) else (if a1 = 0 then (some (wrap64 (a0 * a1), 0)) else (if (wrap64 (Int.tdiv (wrap64 (a0 * a1)) a1)) = a0 then (some (wrap64 (a0 * a1), 0)) else (some (0, 10)))))
set_option maxHeartbeats 8000000 in
set_option maxRecDepth 100000 in
theorem safe_Times.calls (a0 : Int) (a1 : Int) (r1 : Int) (r2 : Int) (w : World) (h : safe_Times.f a0 a1 = some (r1, r2)) :
  Calls Tryz.prog 123 #[.int .i64 a0, .int .i64 a1] w fun e w' => e = .returned (.tuple #[.int .i64 r1, .int .i64 r2]) ∧ Drawn0 w w' := by
 have H : (if a0 = (-1) then (if a1 = (-9223372036854775808) then (some (0, 10)) else (if a1 = (-1) then (if a0 = (-9223372036854775808) then (none) else (if a1 = 0 then (none) else (if (wrap64 (Int.tdiv (wrap64 (a0 * a1)) a1)) = a0 then (some (wrap64 (a0 * a1), 0)) else (some (0, 10))))) else (if a1 = 0 then (some (wrap64 (a0 * a1), 0)) else (if (wrap64 (Int.tdiv (wrap64 (a0 * a1)) a1)) = a0 then (some (wrap64 (a0 * a1), 0)) else (some (0, 10)))))) else (if a1 = (-1) then (if a0 = (-9223372036854775808) then (some (0, 10)) else (if a1 = 0 then (none) else (if (wrap64 (Int.tdiv (wrap64 (a0 * a1)) a1)) = a0 then (some (wrap64 (a0 * a1), 0)) else (some (0, 10))))) else (if a1 = 0 then (some (wrap64 (a0 * a1), 0)) else (if (wrap64 (Int.tdiv (wrap64 (a0 * a1)) a1)) = a0 then (some (wrap64 (a0 * a1), 0)) else (some (0, 10)))))) = some (r1, r2) := h; clear h
 by_cases c3 : a0 = (-1)
 ·rw [if_pos c3] at H
  have c3b0 : (a0 == (-1)) = true := beq_iff_eq.mpr c3; have c3b1 : (a0 != (-1)) = false := bne_eq_false_iff_eq.mpr c3; clear c3
  by_cases c4 : a1 = (-9223372036854775808)
  ·rw [if_pos c4] at H
   have c4b0 : (a1 == (-9223372036854775808)) = true := beq_iff_eq.mpr c4; have c4b1 : (a1 != (-9223372036854775808)) = false := bne_eq_false_iff_eq.mpr c4; clear c4; simp only [Option.some.injEq, Prod.mk.injEq] at H; obtain ⟨rfl, rfl⟩ := H
   go_enter Tryz.func123, Tryz.ntmps123
   go_wp2
   go_ret2
   exact ⟨by first | rfl | (simp; done) | (simp [*]; done), by repeat (first | exact Drawn0.refl _ | apply Drawn0.step)⟩
  ·rw [if_neg c4] at H
   have c4b0 : (a1 == (-9223372036854775808)) = false := beq_eq_false_iff_ne.mpr c4; have c4b1 : (a1 != (-9223372036854775808)) = true := bne_iff_ne.mpr c4
   by_cases c5 : a1 = (-1)
   ·rw [if_pos c5] at H
    have c5b0 : (a1 == (-1)) = true := beq_iff_eq.mpr c5; have c5b1 : (a1 != (-1)) = false := bne_eq_false_iff_eq.mpr c5; clear c5
    by_cases c6 : a0 = (-9223372036854775808)
    ·rw [if_pos c6] at H
     exact absurd H (by simp)
    ·rw [if_neg c6] at H
     have c6b0 : (a0 == (-9223372036854775808)) = false := beq_eq_false_iff_ne.mpr c6; have c6b1 : (a0 != (-9223372036854775808)) = true := bne_iff_ne.mpr c6
     by_cases c7 : a1 = 0
     ·rw [if_pos c7] at H
      exact absurd H (by simp)
     ·rw [if_neg c7] at H
      have c7b0 : (a1 == 0) = false := beq_eq_false_iff_ne.mpr c7; have c7b1 : (a1 != 0) = true := bne_iff_ne.mpr c7
      by_cases c8 : (wrap64 (Int.tdiv (wrap64 (a0 * a1)) a1)) = a0
      ·rw [if_pos c8] at H
       have c8b0 : ((wrap64 (Int.tdiv (wrap64 (a0 * a1)) a1)) == a0) = true := beq_iff_eq.mpr c8; have c8b1 : ((wrap64 (Int.tdiv (wrap64 (a0 * a1)) a1)) != a0) = false := bne_eq_false_iff_eq.mpr c8; clear c8; simp only [Option.some.injEq, Prod.mk.injEq] at H; obtain ⟨rfl, rfl⟩ := H
       go_enter Tryz.func123, Tryz.ntmps123
       go_wp2
       go_ret2
       exact ⟨by first | rfl | (simp; done) | (simp [*]; done), by repeat (first | exact Drawn0.refl _ | apply Drawn0.step)⟩
      ·rw [if_neg c8] at H
       have c8b0 : ((wrap64 (Int.tdiv (wrap64 (a0 * a1)) a1)) == a0) = false := beq_eq_false_iff_ne.mpr c8; have c8b1 : ((wrap64 (Int.tdiv (wrap64 (a0 * a1)) a1)) != a0) = true := bne_iff_ne.mpr c8; simp only [Option.some.injEq, Prod.mk.injEq] at H; obtain ⟨rfl, rfl⟩ := H
       go_enter Tryz.func123, Tryz.ntmps123
       go_wp2
       go_ret2
       exact ⟨by first | rfl | (simp; done) | (simp [*]; done), by repeat (first | exact Drawn0.refl _ | apply Drawn0.step)⟩
   ·rw [if_neg c5] at H
    have c5b0 : (a1 == (-1)) = false := beq_eq_false_iff_ne.mpr c5; have c5b1 : (a1 != (-1)) = true := bne_iff_ne.mpr c5
    by_cases c9 : a1 = 0
    ·rw [if_pos c9] at H
     have c9b0 : (a1 == 0) = true := beq_iff_eq.mpr c9; have c9b1 : (a1 != 0) = false := bne_eq_false_iff_eq.mpr c9; clear c9; simp only [Option.some.injEq, Prod.mk.injEq] at H; obtain ⟨rfl, rfl⟩ := H
     go_enter Tryz.func123, Tryz.ntmps123
     go_wp2
     go_ret2
     exact ⟨by first | rfl | (simp; done) | (simp [*]; done), by repeat (first | exact Drawn0.refl _ | apply Drawn0.step)⟩
    ·rw [if_neg c9] at H
     have c9b0 : (a1 == 0) = false := beq_eq_false_iff_ne.mpr c9; have c9b1 : (a1 != 0) = true := bne_iff_ne.mpr c9
     by_cases c10 : (wrap64 (Int.tdiv (wrap64 (a0 * a1)) a1)) = a0
     ·rw [if_pos c10] at H
      have c10b0 : ((wrap64 (Int.tdiv (wrap64 (a0 * a1)) a1)) == a0) = true := beq_iff_eq.mpr c10; have c10b1 : ((wrap64 (Int.tdiv (wrap64 (a0 * a1)) a1)) != a0) = false := bne_eq_false_iff_eq.mpr c10; clear c10; simp only [Option.some.injEq, Prod.mk.injEq] at H; obtain ⟨rfl, rfl⟩ := H
      go_enter Tryz.func123, Tryz.ntmps123
      go_wp2
      go_ret2
      exact ⟨by first | rfl | (simp; done) | (simp [*]; done), by repeat (first | exact Drawn0.refl _ | apply Drawn0.step)⟩
     ·rw [if_neg c10] at H
      have c10b0 : ((wrap64 (Int.tdiv (wrap64 (a0 * a1)) a1)) == a0) = false := beq_eq_false_iff_ne.mpr c10; have c10b1 : ((wrap64 (Int.tdiv (wrap64 (a0 * a1)) a1)) != a0) = true := bne_iff_ne.mpr c10; simp only [Option.some.injEq, Prod.mk.injEq] at H; obtain ⟨rfl, rfl⟩ := H
      go_enter Tryz.func123, Tryz.ntmps123
      go_wp2
      go_ret2
      exact ⟨by first | rfl | (simp; done) | (simp [*]; done), by repeat (first | exact Drawn0.refl _ | apply Drawn0.step)⟩
 ·rw [if_neg c3] at H
  have c3b0 : (a0 == (-1)) = false := beq_eq_false_iff_ne.mpr c3; have c3b1 : (a0 != (-1)) = true := bne_iff_ne.mpr c3
  by_cases c11 : a1 = (-1)
  ·rw [if_pos c11] at H
   have c11b0 : (a1 == (-1)) = true := beq_iff_eq.mpr c11; have c11b1 : (a1 != (-1)) = false := bne_eq_false_iff_eq.mpr c11; clear c11
   by_cases c12 : a0 = (-9223372036854775808)
   ·rw [if_pos c12] at H
    have c12b0 : (a0 == (-9223372036854775808)) = true := beq_iff_eq.mpr c12; have c12b1 : (a0 != (-9223372036854775808)) = false := bne_eq_false_iff_eq.mpr c12; clear c12; simp only [Option.some.injEq, Prod.mk.injEq] at H; obtain ⟨rfl, rfl⟩ := H
    go_enter Tryz.func123, Tryz.ntmps123
    go_wp2
    go_ret2
    exact ⟨by first | rfl | (simp; done) | (simp [*]; done), by repeat (first | exact Drawn0.refl _ | apply Drawn0.step)⟩
   ·rw [if_neg c12] at H
    have c12b0 : (a0 == (-9223372036854775808)) = false := beq_eq_false_iff_ne.mpr c12; have c12b1 : (a0 != (-9223372036854775808)) = true := bne_iff_ne.mpr c12
    by_cases c13 : a1 = 0
    ·rw [if_pos c13] at H
     exact absurd H (by simp)
    ·rw [if_neg c13] at H
     have c13b0 : (a1 == 0) = false := beq_eq_false_iff_ne.mpr c13; have c13b1 : (a1 != 0) = true := bne_iff_ne.mpr c13
     by_cases c14 : (wrap64 (Int.tdiv (wrap64 (a0 * a1)) a1)) = a0
     ·rw [if_pos c14] at H
      have c14b0 : ((wrap64 (Int.tdiv (wrap64 (a0 * a1)) a1)) == a0) = true := beq_iff_eq.mpr c14; have c14b1 : ((wrap64 (Int.tdiv (wrap64 (a0 * a1)) a1)) != a0) = false := bne_eq_false_iff_eq.mpr c14; clear c14; simp only [Option.some.injEq, Prod.mk.injEq] at H; obtain ⟨rfl, rfl⟩ := H
      go_enter Tryz.func123, Tryz.ntmps123
      go_wp2
      go_ret2
      exact ⟨by first | rfl | (simp; done) | (simp [*]; done), by repeat (first | exact Drawn0.refl _ | apply Drawn0.step)⟩
     ·rw [if_neg c14] at H
      have c14b0 : ((wrap64 (Int.tdiv (wrap64 (a0 * a1)) a1)) == a0) = false := beq_eq_false_iff_ne.mpr c14; have c14b1 : ((wrap64 (Int.tdiv (wrap64 (a0 * a1)) a1)) != a0) = true := bne_iff_ne.mpr c14; simp only [Option.some.injEq, Prod.mk.injEq] at H; obtain ⟨rfl, rfl⟩ := H
      go_enter Tryz.func123, Tryz.ntmps123
      go_wp2
      go_ret2
      exact ⟨by first | rfl | (simp; done) | (simp [*]; done), by repeat (first | exact Drawn0.refl _ | apply Drawn0.step)⟩
  ·rw [if_neg c11] at H
   have c11b0 : (a1 == (-1)) = false := beq_eq_false_iff_ne.mpr c11; have c11b1 : (a1 != (-1)) = true := bne_iff_ne.mpr c11
   by_cases c15 : a1 = 0
   ·rw [if_pos c15] at H
    have c15b0 : (a1 == 0) = true := beq_iff_eq.mpr c15; have c15b1 : (a1 != 0) = false := bne_eq_false_iff_eq.mpr c15; clear c15; simp only [Option.some.injEq, Prod.mk.injEq] at H; obtain ⟨rfl, rfl⟩ := H
    go_enter Tryz.func123, Tryz.ntmps123
    go_wp2
    go_ret2
    exact ⟨by first | rfl | (simp; done) | (simp [*]; done), by repeat (first | exact Drawn0.refl _ | apply Drawn0.step)⟩
   ·rw [if_neg c15] at H
    have c15b0 : (a1 == 0) = false := beq_eq_false_iff_ne.mpr c15; have c15b1 : (a1 != 0) = true := bne_iff_ne.mpr c15
    by_cases c16 : (wrap64 (Int.tdiv (wrap64 (a0 * a1)) a1)) = a0
    ·rw [if_pos c16] at H
     have c16b0 : ((wrap64 (Int.tdiv (wrap64 (a0 * a1)) a1)) == a0) = true := beq_iff_eq.mpr c16; have c16b1 : ((wrap64 (Int.tdiv (wrap64 (a0 * a1)) a1)) != a0) = false := bne_eq_false_iff_eq.mpr c16; clear c16; simp only [Option.some.injEq, Prod.mk.injEq] at H; obtain ⟨rfl, rfl⟩ := H
     go_enter Tryz.func123, Tryz.ntmps123
     go_wp2
     go_ret2
     exact ⟨by first | rfl | (simp; done) | (simp [*]; done), by repeat (first | exact Drawn0.refl _ | apply Drawn0.step)⟩
    ·rw [if_neg c16] at H
     have c16b0 : ((wrap64 (Int.tdiv (wrap64 (a0 * a1)) a1)) == a0) = false := beq_eq_false_iff_ne.mpr c16; have c16b1 : ((wrap64 (Int.tdiv (wrap64 (a0 * a1)) a1)) != a0) = true := bne_iff_ne.mpr c16; simp only [Option.some.injEq, Prod.mk.injEq] at H; obtain ⟨rfl, rfl⟩ := H
     go_enter Tryz.func123, Tryz.ntmps123
     go_wp2
     go_ret2
     exact ⟨by first | rfl | (simp; done) | (simp [*]; done), by repeat (first | exact Drawn0.refl _ | apply Drawn0.step)⟩

/-! ### safe_TimesS: a product, or its error: pure, behind function 123 -/
noncomputable def safe_TimesS.f (a b : Int) : Option (Int × Int) := Sp.need (Sp.I a ∧ Sp.I b) (Sp.fit (a * b))
section SafeTimes
open Go.Proofs.YtfahbgkoldoflaaGreatDoor.Sp
theorem safe_Times.main {a b : Int} (h1 : I a) (h2 : I b) : safe_Times.f a b = fit (a * b) := by
 unfold safe_Times.f fit
 by_cases c : I (a * b)
 ·obtain ⟨k1, k2, k3⟩ := times_fits h1 h2 c
  rw [if_pos c]
  rw [w64 c] at *
  have k4 : b = 0 ∨ wrap64 (Int.tdiv (a * b) b) = a := by
   by_cases hb : b = 0
   ·exact Or.inl hb
   ·exact Or.inr (k3 hb)
  clear k3
  generalize wrap64 (Int.tdiv (a * b) b) = q at *
  (repeat' split) <;> first | rfl | (exfalso; omega)
 ·rw [if_neg c]
  have k : (a = -1 ∧ b = -9223372036854775808) ∨ (b = -1 ∧ a = -9223372036854775808) ∨ (b ≠ 0 ∧ wrap64 (Int.tdiv (wrap64 (a * b)) b) ≠ a) := by
   by_cases k1 : a = -1 ∧ b = -9223372036854775808
   ·exact Or.inl k1
   by_cases k2 : b = -1 ∧ a = -9223372036854775808
   ·exact Or.inr (Or.inl k2)
   exact Or.inr (Or.inr (times_over h1 h2 c k1 k2))
  generalize wrap64 (Int.tdiv (wrap64 (a * b)) b) = q at *
  generalize wrap64 (a * b) = p at *
  (repeat' split) <;> first | rfl | (exfalso; omega)
end SafeTimes
theorem safe_TimesS.calls (a0 a1 r1 r2 : Int) (w : World) (h : safe_TimesS.f a0 a1 = some (r1, r2)) :
  Calls Tryz.prog 123 #[.int .i64 a0, .int .i64 a1] w fun e w' => e = .returned (.tuple #[.int .i64 r1, .int .i64 r2]) ∧ Drawn0 w w' := by
 obtain ⟨hc, h⟩ := Sp.need_some h; exact safe_Times.calls a0 a1 r1 r2 w (by rw [safe_Times.main hc.1 hc.2]; exact h)

/-! ### safe_Mul: function 74 -/
noncomputable def safe_Mul.f (a b : Int) : Option Int := Sp.need (Sp.I a ∧ Sp.I b) (some (Sp.near (a * b)))
theorem safe_Mul.eq {a b : Int} (h1 : Sp.I a) (h2 : Sp.I b) : safe_Mul.f a b = some (Sp.near (a * b)) := Sp.need_pos ⟨h1, h2⟩
theorem safe_TimesS.as {a b x y : Int} (h1 : Sp.I a) (h2 : Sp.I b) (h : Sp.fit (a * b) = some (x, y)) : Aside0 (safe_TimesS.f a b = some (x, y)) := ⟨(Sp.need_pos ⟨h1, h2⟩).trans h⟩
set_option maxHeartbeats 1000000 in
set_option maxRecDepth 100000 in
theorem safe_Mul.in_ (a0 a1 v : Int) (w : World) (HP : Aside0 (safe_TimesS.f a0 a1 = some (v, 0))) :
  Calls Tryz.prog 74 #[.int .i64 a0, .int .i64 a1] w fun e w' => e = .returned (.int .i64 v) ∧ Below w.heap.size w w' := by
 have hmf : ∀ (fn : Fn) (first cap : Array Value) (w : World), (Instr.makeFunc fn first cap).run Tryz.prog w = .ok (.func fn first cap) w := fun _ _ _ _ => rfl
 go_enter Tryz.func74, Tryz.ntmps74
 go_wp2_with (first | (go_at_call 123; refine (safe_TimesS.calls a0 a1 _ _ _ HP.out).mono ?_; rintro e w' ⟨rfl, ⟨nd, rfl⟩⟩) | go_in)
 go_ret
 exact ⟨rfl, by repeat (first | exact Below.refl _ _ | apply below_alloc | apply pw_below_drewN)⟩
set_option maxHeartbeats 2000000 in
set_option maxRecDepth 100000 in
theorem safe_Mul.out_ (a0 a1 v : Int) (x y : Bool) (w : World) (HP : Aside0 (safe_TimesS.f a0 a1 = some (0, 10))) (h1 : decide (a0 < 0) = x) (h2 : decide (a1 < 0) = y) (hv : v = if (x != y) = true then -9223372036854775808 else 9223372036854775807) :
  Calls Tryz.prog 74 #[.int .i64 a0, .int .i64 a1] w fun e w' => e = .returned (.int .i64 v) ∧ Below w.heap.size w w' := by
 have hmf : ∀ (fn : Fn) (first cap : Array Value) (w : World), (Instr.makeFunc fn first cap).run Tryz.prog w = .ok (.func fn first cap) w := fun _ _ _ _ => rfl
 cases x <;> cases y
 ·obtain rfl : v = 9223372036854775807 := by rw [hv]; rfl
  clear hv
  go_enter Tryz.func74, Tryz.ntmps74
  go_wp2_with (first | (go_at_call 123; refine (safe_TimesS.calls a0 a1 _ _ _ HP.out).mono ?_; rintro e w' ⟨rfl, ⟨nd, rfl⟩⟩) | go_in)
  go_ret
  exact ⟨rfl, by repeat (first | exact Below.refl _ _ | apply below_alloc | apply pw_below_drewN)⟩
 ·obtain rfl : v = -9223372036854775808 := by rw [hv]; rfl
  clear hv
  go_enter Tryz.func74, Tryz.ntmps74
  go_wp2_with (first | (go_at_call 123; refine (safe_TimesS.calls a0 a1 _ _ _ HP.out).mono ?_; rintro e w' ⟨rfl, ⟨nd, rfl⟩⟩) | go_in)
  go_ret
  exact ⟨rfl, by repeat (first | exact Below.refl _ _ | apply below_alloc | apply pw_below_drewN)⟩
 ·obtain rfl : v = -9223372036854775808 := by rw [hv]; rfl
  clear hv
  go_enter Tryz.func74, Tryz.ntmps74
  go_wp2_with (first | (go_at_call 123; refine (safe_TimesS.calls a0 a1 _ _ _ HP.out).mono ?_; rintro e w' ⟨rfl, ⟨nd, rfl⟩⟩) | go_in)
  go_ret
  exact ⟨rfl, by repeat (first | exact Below.refl _ _ | apply below_alloc | apply pw_below_drewN)⟩
 ·obtain rfl : v = 9223372036854775807 := by rw [hv]; rfl
  clear hv
  go_enter Tryz.func74, Tryz.ntmps74
  go_wp2_with (first | (go_at_call 123; refine (safe_TimesS.calls a0 a1 _ _ _ HP.out).mono ?_; rintro e w' ⟨rfl, ⟨nd, rfl⟩⟩) | go_in)
  go_ret
  exact ⟨rfl, by repeat (first | exact Below.refl _ _ | apply below_alloc | apply pw_below_drewN)⟩
theorem safe_Mul.calls (a0 a1 r : Int) (w : World) (h : safe_Mul.f a0 a1 = some r) :
  Calls Tryz.prog 74 #[.int .i64 a0, .int .i64 a1] w fun e w' => e = .returned (.int .i64 r) ∧ Below w.heap.size w w' := by
 obtain ⟨hc, h⟩ := Sp.need_some h; obtain rfl := Option.some.inj h
 by_cases c : Sp.I (a0 * a1)
 ·rw [Sp.near_in c]
  exact safe_Mul.in_ a0 a1 _ w (safe_TimesS.as hc.1 hc.2 (Sp.fit_in c))
 ·refine safe_Mul.out_ a0 a1 _ _ _ w (safe_TimesS.as hc.1 hc.2 (Sp.fit_out c)) rfl rfl ?_; have m := Sp.mul_sign a0 a1
  by_cases s : (decide (a0 < 0) != decide (a1 < 0)) = true
  ·rw [if_pos s, Sp.near_lo (by have := m.1 s; omega)]
  ·rw [if_neg s, Sp.near_hi (by have := m.2 (by simpa using s); omega)]

end Go.Proofs.YtfahbgkoldoflaaGreatDoor.Px
