/- Printed by px.py, over the kit's print. Conditions: none beside the theorems' own. -/
import Derived.Test.YtceiakiihkaamaaDoorPx0
import Derived.Test.YtceiakiihkaamaaDoorPx34
import Derived.Test.YtceiakiihkaamaaDoorPx39
import Derived.Test.YtceiakiihkaamaaDoorSpec
namespace Go.Proofs.YtceiakiihkaamaaDoor.Px
open Go.RowKit Go.Proofs.YtceiakiihkaamaaDoorW.PrintWords Go.Proofs.YtceiakiihkaamaaDoorW.PrintLast Go.Proofs.YtceiakiihkaamaaDoorW.PrintMore
attribute [local go_sem] max2_int min2_int max_two min_two max_three min_three max_four min_four
set_option linter.unusedVariables false
set_option linter.unusedSimpArgs false

/-! ### sawtoothref11_CheckS: pure, behind function 18 -/
section
open Go.Proofs.YtceiakiihkaamaaDoor.Sp
noncomputable def sawtoothref11_CheckS.f (on : Bool) (s : Int) (f : Int) (m : Int) (k : Int) (e : Int) : Option (Bool) := need ((I s) ∧ (I f) ∧ (I m)) (some (eOk on s f m k e))
theorem sawtoothref11_CheckS.eq {on : Bool} {s : Int} {f : Int} {m : Int} {k : Int} {e : Int} (h1 : I s) (h2 : I f) (h3 : I m) : sawtoothref11_CheckS.f on s f m k e = some (eOk on s f m k e) := need_pos ⟨h1, h2, h3⟩
theorem sawtoothref11_Check.main {on : Bool} {s : Int} {f : Int} {m : Int} {k : Int} {e : Int} (h1 : I s) (h2 : I f) (h3 : I m) : sawtoothref11_Check.f on s f m k e = some (eOk on s f m k e) := by
 unfold sawtoothref11_Check.f sawtoothref11_window.f
 cases on
 ·rw [if_neg (by simp)]
  have q : eOk false s f m k e = decide (s = 0 ∧ f = 0 ∧ m = 0 ∧ k = 0 ∧ e = 0) := by unfold eOk; simp
  rw [q]
  by_cases c1 : s = 0 <;> by_cases c2 : f = 0 <;> by_cases c3 : m = 0 <;> by_cases c4 : k = 0 <;> simp [c1, c2, c3, c4]
  by_cases c5 : e = 0 <;> simp [c5]
 ·rw [if_pos rfl]
  have no : ¬ eOn s f m k e → some false = some (eOk true s f m k e) := by
   intro h
   have : eOk true s f m k e = false := by
    cases x : eOk true s f m k e
    ·rfl
    ·exact absurd (eOk_on.1 x) h
   rw [this]
  by_cases c1 : s ≥ 0
  ·by_cases c2 : s ≤ 1099511627776
   ·rw [if_pos c1, if_pos c2]
    by_cases c3 : f ≥ 0 ∧ f ≤ 68719476736
    ·rw [if_pos c3.1]
     simp only [Option.bind_some, decide_eq_true c3.2, if_true]
     by_cases c4 : m ≥ 0 ∧ m ≤ 68719476736
     ·rw [if_pos c4.1]
      simp only [Option.bind_some, decide_eq_true c4.2, if_true]
      by_cases c5 : e ≥ 0 ∧ e ≤ 68719476736
      ·rw [if_pos c5.1]
       simp only [Option.bind_some, decide_eq_true c5.2, if_true]
       by_cases c6 : m ≥ f
       ·rw [if_pos c6, w64 (by omega), sawtoothref11_KS.eq (by omega)]
        simp only [Option.bind_some]
        congr 1
        refine eOk_of (fun _ => ?_) (fun x => by cases x)
        unfold eOn
        simp; omega
       ·rw [if_neg c6]; exact no (fun h => by unfold eOn at h; omega)
      ·have : ((if e ≥ 0 then some (decide (e ≤ 68719476736)) else some false) : Option Bool) = some false := by
        by_cases x : e ≥ 0
        ·rw [if_pos x, decide_eq_false (by omega)]
        ·rw [if_neg x]
       rw [this]; exact no (fun h => by unfold eOn at h; omega)
     ·have : ((if m ≥ 0 then some (decide (m ≤ 68719476736)) else some false) : Option Bool) = some false := by
       by_cases x : m ≥ 0
       ·rw [if_pos x, decide_eq_false (by omega)]
       ·rw [if_neg x]
      rw [this]; exact no (fun h => by unfold eOn at h; omega)
    ·have : ((if f ≥ 0 then some (decide (f ≤ 68719476736)) else some false) : Option Bool) = some false := by
      by_cases x : f ≥ 0
      ·rw [if_pos x, decide_eq_false (by omega)]
      ·rw [if_neg x]
     rw [this]; exact no (fun h => by unfold eOn at h; omega)
   ·rw [if_pos c1, if_neg c2]; exact no (fun h => by unfold eOn at h; omega)
  ·rw [if_neg c1]; exact no (fun h => by unfold eOn at h; omega)
end
theorem sawtoothref11_CheckS.calls (a0_0 : Bool) (a0_1 : Int) (a0_2 : Int) (a0_3 : Int) (a0_4 : Int) (a0_5 : Int) (r : Bool) (w : World) (h : sawtoothref11_CheckS.f a0_0 a0_1 a0_2 a0_3 a0_4 a0_5 = some r) :
  Calls Tryd.prog 18 #[.agg #[.bool a0_0, .int .i64 a0_1, .int .i64 a0_2, .int .i64 a0_3, .int .i64 a0_4, .int .i64 a0_5]] w fun e w' => e = .returned (.bool r) ∧ Below w.heap.size w w' := by
 obtain ⟨hc, h⟩ := Sp.need_some h; obtain ⟨h1, h2, h3⟩ := hc; exact sawtoothref11_Check.calls a0_0 a0_1 a0_2 a0_3 a0_4 a0_5 r w (by rw [sawtoothref11_Check.main h1 h2 h3]; exact h)

/-! ### sawtoothref01_Plus: function 59 -/
noncomputable def sawtoothref01_Plus.f (a0 : Int) (a1 : Int) : Option (Int × Int) := if a1 > 0 then (if a0 > (wrap64 (9223372036854775807 - a1)) then (some (0, 10)) else (if a1 < 0 then (if a0 < (wrap64 ((-9223372036854775808) - a1)) then (some (0, 10)) else (some (wrap64 (a0 + a1), 0))) else (some (wrap64 (a0 + a1), 0)))) else (if a1 < 0 then (if a0 < (wrap64 ((-9223372036854775808) - a1)) then (some (0, 10)) else (some (wrap64 (a0 + a1), 0))) else (some (wrap64 (a0 + a1), 0)))
set_option maxHeartbeats 8000000 in
set_option maxRecDepth 100000 in
theorem sawtoothref01_Plus.calls (a0 : Int) (a1 : Int) (r1 : Int) (r2 : Int) (w : World) (h : sawtoothref01_Plus.f a0 a1 = some (r1, r2)) :
  Calls Tryd.prog 59 #[.int .i64 a0, .int .i64 a1] w fun e w' => e = .returned (.tuple #[.int .i64 r1, .int .i64 r2]) ∧ Drawn0 w w' := by
 have H : (if a1 > 0 then (if a0 > (wrap64 (9223372036854775807 - a1)) then (some (0, 10)) else (if a1 < 0 then (if a0 < (wrap64 ((-9223372036854775808) - a1)) then (some (0, 10)) else (some (wrap64 (a0 + a1), 0))) else (some (wrap64 (a0 + a1), 0)))) else (if a1 < 0 then (if a0 < (wrap64 ((-9223372036854775808) - a1)) then (some (0, 10)) else (some (wrap64 (a0 + a1), 0))) else (some (wrap64 (a0 + a1), 0)))) = some (r1, r2) := h; clear h
 by_cases c3 : a1 > 0
 ·rw [if_pos c3] at H
  have c3b0 : decide (0 < a1) = true := decide_eq_true c3; clear c3
  by_cases c4 : a0 > (wrap64 (9223372036854775807 - a1))
  ·rw [if_pos c4] at H
   have c4b0 : decide ((wrap64 (9223372036854775807 - a1)) < a0) = true := decide_eq_true c4; clear c4; simp only [Option.some.injEq, Prod.mk.injEq] at H; obtain ⟨rfl, rfl⟩ := H
   go_enter Tryd.func59, Tryd.ntmps59
   go_wp2
   go_ret2
   exact ⟨by first | rfl | (simp; done) | (simp [*]; done), by repeat (first | exact Drawn0.refl _ | apply Drawn0.step)⟩
  ·rw [if_neg c4] at H
   have c4b0 : decide ((wrap64 (9223372036854775807 - a1)) < a0) = false := decide_eq_false c4; clear c4
   by_cases c5 : a1 < 0
   ·rw [if_pos c5] at H
    have c5b0 : decide (a1 < 0) = true := decide_eq_true c5; clear c5
    by_cases c6 : a0 < (wrap64 ((-9223372036854775808) - a1))
    ·rw [if_pos c6] at H
     have c6b0 : decide (a0 < (wrap64 ((-9223372036854775808) - a1))) = true := decide_eq_true c6; clear c6; simp only [Option.some.injEq, Prod.mk.injEq] at H; obtain ⟨rfl, rfl⟩ := H
     go_enter Tryd.func59, Tryd.ntmps59
     go_wp2
     go_ret2
     exact ⟨by first | rfl | (simp; done) | (simp [*]; done), by repeat (first | exact Drawn0.refl _ | apply Drawn0.step)⟩
    ·rw [if_neg c6] at H
     have c6b0 : decide (a0 < (wrap64 ((-9223372036854775808) - a1))) = false := decide_eq_false c6; clear c6; simp only [Option.some.injEq, Prod.mk.injEq] at H; obtain ⟨rfl, rfl⟩ := H
     go_enter Tryd.func59, Tryd.ntmps59
     go_wp2
     go_ret2
     exact ⟨by first | rfl | (simp; done) | (simp [*]; done), by repeat (first | exact Drawn0.refl _ | apply Drawn0.step)⟩
   ·rw [if_neg c5] at H
    have c5b0 : decide (a1 < 0) = false := decide_eq_false c5; clear c5; simp only [Option.some.injEq, Prod.mk.injEq] at H; obtain ⟨rfl, rfl⟩ := H
    go_enter Tryd.func59, Tryd.ntmps59
    go_wp2
    go_ret2
    exact ⟨by first | rfl | (simp; done) | (simp [*]; done), by repeat (first | exact Drawn0.refl _ | apply Drawn0.step)⟩
 ·rw [if_neg c3] at H
  have c3b0 : decide (0 < a1) = false := decide_eq_false c3; clear c3
  by_cases c7 : a1 < 0
  ·rw [if_pos c7] at H
   have c7b0 : decide (a1 < 0) = true := decide_eq_true c7; clear c7
   by_cases c8 : a0 < (wrap64 ((-9223372036854775808) - a1))
   ·rw [if_pos c8] at H
    have c8b0 : decide (a0 < (wrap64 ((-9223372036854775808) - a1))) = true := decide_eq_true c8; clear c8; simp only [Option.some.injEq, Prod.mk.injEq] at H; obtain ⟨rfl, rfl⟩ := H
    go_enter Tryd.func59, Tryd.ntmps59
    go_wp2
    go_ret2
    exact ⟨by first | rfl | (simp; done) | (simp [*]; done), by repeat (first | exact Drawn0.refl _ | apply Drawn0.step)⟩
   ·rw [if_neg c8] at H
    have c8b0 : decide (a0 < (wrap64 ((-9223372036854775808) - a1))) = false := decide_eq_false c8; clear c8; simp only [Option.some.injEq, Prod.mk.injEq] at H; obtain ⟨rfl, rfl⟩ := H
    go_enter Tryd.func59, Tryd.ntmps59
    go_wp2
    go_ret2
    exact ⟨by first | rfl | (simp; done) | (simp [*]; done), by repeat (first | exact Drawn0.refl _ | apply Drawn0.step)⟩
  ·rw [if_neg c7] at H
   have c7b0 : decide (a1 < 0) = false := decide_eq_false c7; clear c7; simp only [Option.some.injEq, Prod.mk.injEq] at H; obtain ⟨rfl, rfl⟩ := H
   go_enter Tryd.func59, Tryd.ntmps59
   go_wp2
   go_ret2
   exact ⟨by first | rfl | (simp; done) | (simp [*]; done), by repeat (first | exact Drawn0.refl _ | apply Drawn0.step)⟩

/-! ### sawtoothref01_PlusS: pure, behind function 59 -/
section
open Go.Proofs.YtceiakiihkaamaaDoor.Sp
noncomputable def sawtoothref01_PlusS.f (a : Int) (b : Int) : Option (Int × Int) := need (I a ∧ I b) (fit (a + b))
theorem sawtoothref01_PlusS.eq {a : Int} {b : Int} (h1 : I a) (h2 : I b) : sawtoothref01_PlusS.f a b = fit (a + b) := need_pos ⟨h1, h2⟩
theorem sawtoothref01_Plus.main {a : Int} {b : Int} (h1 : I a) (h2 : I b) : sawtoothref01_Plus.f a b = fit (a + b) := by
 unfold sawtoothref01_Plus.f fit
 by_cases p : b > 0
 ·have q : ¬ b < 0 := by omega
  simp only [if_pos p, if_neg q]
  rw [w64 (x := 9223372036854775807 - b) (by omega)]
  by_cases c : I (a + b)
  ·rw [if_neg (by omega), if_pos c, w64 c]
  ·rw [if_pos (by omega), if_neg c]
 ·simp only [if_neg p]
  by_cases q : b < 0
  ·rw [if_pos q, w64 (x := -9223372036854775808 - b) (by omega)]
   by_cases c : I (a + b)
   ·rw [if_neg (by omega), if_pos c, w64 c]
   ·rw [if_pos (by omega), if_neg c]
  ·rw [if_neg q, if_pos (by omega), w64 (by omega)]
end
theorem sawtoothref01_PlusS.calls (a0 : Int) (a1 : Int) (r1 : Int) (r2 : Int) (w : World) (h : sawtoothref01_PlusS.f a0 a1 = some (r1, r2)) :
  Calls Tryd.prog 59 #[.int .i64 a0, .int .i64 a1] w fun e w' => e = .returned (.tuple #[.int .i64 r1, .int .i64 r2]) ∧ Drawn0 w w' := by
 obtain ⟨hc, h⟩ := Sp.need_some h; obtain ⟨h1, h2⟩ := hc; exact sawtoothref01_Plus.calls a0 a1 r1 r2 w (by rw [sawtoothref01_Plus.main h1 h2]; exact h)

/-! ### sawtoothref01_Add: function 36 -/
noncomputable def sawtoothref01_Add.j0 : Nat → Int → Int → Bool → Option (Int)
 | 0, _, _, _ => none
 | k + 1, x5, x6, x18 => if x18 = true then (some (-9223372036854775808)) else (if x6 = 0 then (some x5) else (some 9223372036854775807))
noncomputable def sawtoothref01_Add.f (k : Nat) (a0 : Int) (a1 : Int) : Option (Int) := (sawtoothref01_PlusS.f a0 a1).bind fun bt525 => (if bt525.2 = 0 then (sawtoothref01_Add.j0 k bt525.1 bt525.2 false) else (sawtoothref01_Add.j0 k bt525.1 bt525.2 (decide (a0 < 0))))
theorem sawtoothref01_Add.mono_l : ∀ k, (∀ y0 y1 y2, LeO (sawtoothref01_Add.j0 k y0 y1 y2) (sawtoothref01_Add.j0 (k + 1) y0 y1 y2))
 | 0 => fun _ _ _ r h => by simp [sawtoothref01_Add.j0] at h
 | k + 1 => by
  have ih0 := sawtoothref01_Add.mono_l k
  ·intro y0 y1 y2
   unfold sawtoothref01_Add.j0
   repeat' first
   | (with_reducible exact ih0 _ _ _)
   | (with_reducible exact LeO.refl _)
   | (with_reducible exact LeO.none _)
   | (with_reducible refine LeO.ite ?_ ?_)
   | (with_reducible refine LeO.bind ?_ (fun _ => ?_))
   | exact ih0 _ _ _
   | exact LeO.none _
   | refine LeO.ite ?_ ?_
   | refine LeO.bind ?_ (fun _ => ?_)
theorem sawtoothref01_Add.mono : ∀ a0 a1 k, LeO (sawtoothref01_Add.f k a0 a1) (sawtoothref01_Add.f (k + 1) a0 a1) := by
 intro a0 a1 k; have ih0 := sawtoothref01_Add.mono_l k
 unfold sawtoothref01_Add.f
 repeat' first
   | (with_reducible exact ih0 _ _ _)
   | (with_reducible exact LeO.refl _)
   | (with_reducible exact LeO.none _)
   | (with_reducible refine LeO.ite ?_ ?_)
   | (with_reducible refine LeO.bind ?_ (fun _ => ?_))
   | exact ih0 _ _ _
   | exact LeO.none _
   | refine LeO.ite ?_ ?_
   | refine LeO.bind ?_ (fun _ => ?_)
set_option maxHeartbeats 8000000 in
set_option maxRecDepth 100000 in
theorem sawtoothref01_Add.calls (k : Nat) (a0 : Int) (a1 : Int) (r : Int) (w : World) (h : sawtoothref01_Add.f k a0 a1 = some r) :
  Calls Tryd.prog 36 #[.int .i64 a0, .int .i64 a1] w fun e w' => e = .returned (.int .i64 r) ∧ Drawn0 w w' := by
 have H : ((sawtoothref01_PlusS.f a0 a1).bind fun bt525 => (if bt525.2 = 0 then (sawtoothref01_Add.j0 k bt525.1 bt525.2 false) else (sawtoothref01_Add.j0 k bt525.1 bt525.2 (decide (a0 < 0))))) = some r := h; clear h; replace H := Option.bind_eq_some_iff.mp H; obtain ⟨⟨t525, t526⟩, A30, H⟩ := H; replace H : (if t526 = 0 then (sawtoothref01_Add.j0 k t525 t526 false) else (sawtoothref01_Add.j0 k t525 t526 (decide (a0 < 0)))) = some r := H; have A3 := Aside0.mk A30; clear A30; have HC4 := Aside0.mk H; clear H
 go_enter Tryd.func36, Tryd.ntmps36
 go_upto_region 2 with (first | ((with_reducible refine gate_callee (f := 59) rfl ?_); refine goesLA_ (some 10) rfl rfl Tryd.func59 rfl #[.int .i64 a0, .int .i64 a1] rfl ?_; (with_reducible refine (sawtoothref01_PlusS.calls a0 a1 t525 t526 _ A3.out).mono ?_); rintro e w' ⟨rfl, ⟨nd, rfl⟩⟩; refine ⟨_, rfl, ?_⟩))
 (try simp only [Act.put, sA, sB, sC])
 go_cut [18] (fun v18 wc => ∃ (kq : Nat) (x18_3 : Bool), v18 = .bool x18_3 ∧ Aside0 (sawtoothref01_Add.j0 kq t525 t526 x18_3 = some r) ∧ Aside0 (kq ≤ k) ∧ Drawn0 w wc)
 case first =>
  have H := HC4.out; clear HC4
  by_cases c5 : t526 = 0
  ·rw [if_pos c5] at H
   have c5b0 : (t526 == 0) = true := beq_iff_eq.mpr c5; have c5b1 : (t526 != 0) = false := bne_eq_false_iff_eq.mpr c5; clear c5
   (first | rw [c5b0] | (simp only [i64_w, i32_w]; rw [c5b0]) | skip)
   have H' := Aside0.mk H; clear H
   go_wp2
   go_meet
   case rel => exact ⟨_, (false), (by first | rfl | (simp; done) | (simp [*]; done)), H', ⟨by first | omega | exact Nat.le_refl _⟩, by repeat (first | exact Drawn0.refl _ | apply Drawn0.step)⟩
  ·rw [if_neg c5] at H
   have c5b0 : (t526 == 0) = false := beq_eq_false_iff_ne.mpr c5; have c5b1 : (t526 != 0) = true := bne_iff_ne.mpr c5
   (first | rw [c5b0] | (simp only [i64_w, i32_w]; rw [c5b0]) | skip)
   have H' := Aside0.mk H; clear H
   go_wp2
   go_meet
   case rel => exact ⟨_, (decide (a0 < 0)), (by first | rfl | (simp; done) | (simp [*]; done)), H', ⟨by first | omega | exact Nat.le_refl _⟩, by repeat (first | exact Drawn0.refl _ | apply Drawn0.step)⟩
 case rest =>
  clear HC4
  try clear p2
  try clear c3
  try clear c5
  try clear c5b0
  try clear c5b1
  obtain ⟨kq, x18_3, rfl, HA, HJ3, ⟨mc3, rfl⟩⟩ := hcut
  cases kq with
  | zero => exact absurd HA.out (by simp [sawtoothref01_Add.j0])
  | succ kj3 =>
   have H := HA.out; clear HA; simp only [sawtoothref01_Add.j0] at H
   by_cases c6 : x18_3 = true
   ·subst c6
    have H1 : (some (-9223372036854775808)) = some r := by rw [if_pos rfl] at H; exact H
    clear H; have H := H1; clear H1; obtain rfl := Option.some.inj H
    go_wp2
    go_ret
    exact ⟨by first | rfl | (simp; done) | (simp [*]; done), by repeat (first | exact Drawn0.refl _ | apply Drawn0.step)⟩
   ·replace c6 := Bool.eq_false_iff.mpr c6
    subst c6
    have H1 : (if t526 = 0 then (some t525) else (some 9223372036854775807)) = some r := by rw [if_neg (show ¬ (false = true) by decide)] at H; exact H
    clear H; have H := H1; clear H1
    by_cases c7 : t526 = 0
    ·rw [if_pos c7] at H
     have c7b0 : (t526 == 0) = true := beq_iff_eq.mpr c7; have c7b1 : (t526 != 0) = false := bne_eq_false_iff_eq.mpr c7; clear c7; obtain rfl := Option.some.inj H
     go_wp2
     go_ret
     exact ⟨by first | rfl | (simp; done) | (simp [*]; done), by repeat (first | exact Drawn0.refl _ | apply Drawn0.step)⟩
    ·rw [if_neg c7] at H
     have c7b0 : (t526 == 0) = false := beq_eq_false_iff_ne.mpr c7; have c7b1 : (t526 != 0) = true := bne_iff_ne.mpr c7; obtain rfl := Option.some.inj H
     go_wp2
     go_ret
     exact ⟨by first | rfl | (simp; done) | (simp [*]; done), by repeat (first | exact Drawn0.refl _ | apply Drawn0.step)⟩

/-! ### sawtoothref01_AddS: pure, behind function 36 -/
section
open Go.Proofs.YtceiakiihkaamaaDoor.Sp
noncomputable def sawtoothref01_AddS.f (a : Int) (b : Int) : Option (Int) := need (I a ∧ I b) (some (near (a + b)))
theorem sawtoothref01_AddS.eq {a : Int} {b : Int} (h1 : I a) (h2 : I b) : sawtoothref01_AddS.f a b = some (near (a + b)) := need_pos ⟨h1, h2⟩
theorem sawtoothref01_Add.main {a : Int} {b : Int} (h1 : I a) (h2 : I b) : sawtoothref01_Add.f 1 a b = some (near (a + b)) := by
 unfold sawtoothref01_Add.f
 simp only [sawtoothref01_Add.j0]
 rw [sawtoothref01_PlusS.eq h1 h2]
 by_cases c : I (a + b)
 ·rw [fit_in c, near_in c]; simp
 ·rw [fit_out c]
  by_cases n : a < 0
  ·rw [near_lo (by omega)]; simp [n]
  ·rw [near_hi (by omega)]; simp [n]
end
theorem sawtoothref01_AddS.calls (a0 : Int) (a1 : Int) (r : Int) (w : World) (h : sawtoothref01_AddS.f a0 a1 = some r) :
  Calls Tryd.prog 36 #[.int .i64 a0, .int .i64 a1] w fun e w' => e = .returned (.int .i64 r) ∧ Below w.heap.size w w' := by
 obtain ⟨hc, h⟩ := Sp.need_some h; obtain ⟨h1, h2⟩ := hc; refine (sawtoothref01_Add.calls 1 a0 a1 r w (by rw [sawtoothref01_Add.main h1 h2]; exact h)).mono (fun e w' hq => ⟨hq.1, ?_⟩); obtain ⟨nd, rfl⟩ := hq.2; exact pw_below_drewN (Below.refl _ _) nd

/-! ### sawtoothref11_Shift: function 20 -/
noncomputable def sawtoothref11_Shift.j0 : Nat → Int → Bool → Bool → Int → Int → Int → Int → Int → Option (Bool × Int × Int × Int × Int × Int)
 | 0, _, _, _, _, _, _, _, _ => none
 | k + 1, x1, x11, x528000, x528001, x528002, x528003, x528004, x528005 => if x11 = true then (some (x528000, x528001, x528002, x528003, x528004, x528005)) else ((sawtoothref01_AddS.f x528001 x1).bind fun t529 => (if t529 > 1099511627776 then (some (x528000, 1099511627776, x528002, x528003, x528004, x528005)) else (some (x528000, t529, x528002, x528003, x528004, x528005))))
noncomputable def sawtoothref11_Shift.f (k : Nat) (a0_0 : Bool) (a0_1 : Int) (a0_2 : Int) (a0_3 : Int) (a0_4 : Int) (a0_5 : Int) (a1 : Int) : Option (Bool × Int × Int × Int × Int × Int) := if a0_0 = true then (sawtoothref11_Shift.j0 k a1 (decide (a1 < 1)) a0_0 a0_1 a0_2 a0_3 a0_4 a0_5) else (sawtoothref11_Shift.j0 k a1 true a0_0 a0_1 a0_2 a0_3 a0_4 a0_5)
theorem sawtoothref11_Shift.mono_l : ∀ k, (∀ y0 y1 y2 y3 y4 y5 y6 y7, LeO (sawtoothref11_Shift.j0 k y0 y1 y2 y3 y4 y5 y6 y7) (sawtoothref11_Shift.j0 (k + 1) y0 y1 y2 y3 y4 y5 y6 y7))
 | 0 => fun _ _ _ _ _ _ _ _ r h => by simp [sawtoothref11_Shift.j0] at h
 | k + 1 => by
  have ih0 := sawtoothref11_Shift.mono_l k
  ·intro y0 y1 y2 y3 y4 y5 y6 y7
   unfold sawtoothref11_Shift.j0
   repeat' first
   | (with_reducible exact ih0 _ _ _ _ _ _ _ _)
   | (with_reducible exact LeO.refl _)
   | (with_reducible exact LeO.none _)
   | (with_reducible refine LeO.ite ?_ ?_)
   | (with_reducible refine LeO.bind ?_ (fun _ => ?_))
   | exact ih0 _ _ _ _ _ _ _ _
   | exact LeO.none _
   | refine LeO.ite ?_ ?_
   | refine LeO.bind ?_ (fun _ => ?_)
theorem sawtoothref11_Shift.mono : ∀ a0 a1 a2 a3 a4 a5 a6 k, LeO (sawtoothref11_Shift.f k a0 a1 a2 a3 a4 a5 a6) (sawtoothref11_Shift.f (k + 1) a0 a1 a2 a3 a4 a5 a6) := by
 intro a0 a1 a2 a3 a4 a5 a6 k; have ih0 := sawtoothref11_Shift.mono_l k
 unfold sawtoothref11_Shift.f
 repeat' first
   | (with_reducible exact ih0 _ _ _ _ _ _ _ _)
   | (with_reducible exact LeO.refl _)
   | (with_reducible exact LeO.none _)
   | (with_reducible refine LeO.ite ?_ ?_)
   | (with_reducible refine LeO.bind ?_ (fun _ => ?_))
   | exact ih0 _ _ _ _ _ _ _ _
   | exact LeO.none _
   | refine LeO.ite ?_ ?_
   | refine LeO.bind ?_ (fun _ => ?_)
set_option maxHeartbeats 8000000 in
set_option maxRecDepth 100000 in
theorem sawtoothref11_Shift.calls (k : Nat) (a0_0 : Bool) (a0_1 : Int) (a0_2 : Int) (a0_3 : Int) (a0_4 : Int) (a0_5 : Int) (a1 : Int) (r1 : Bool) (r2 : Int) (r3 : Int) (r4 : Int) (r5 : Int) (r6 : Int) (w : World) (h : sawtoothref11_Shift.f k a0_0 a0_1 a0_2 a0_3 a0_4 a0_5 a1 = some (r1, r2, r3, r4, r5, r6)) :
  Calls Tryd.prog 20 #[.agg #[.bool a0_0, .int .i64 a0_1, .int .i64 a0_2, .int .i64 a0_3, .int .i64 a0_4, .int .i64 a0_5], .int .i64 a1] w fun e w' => e = .returned (.agg #[.bool r1, .int .i64 r2, .int .i64 r3, .int .i64 r4, .int .i64 r5, .int .i64 r6]) ∧ Below w.heap.size w w' := by
 have hu23 := Tryd.underlying23; have HB := Aside0.mk (Below.refl w.heap.size w); have H : (if a0_0 = true then (sawtoothref11_Shift.j0 k a1 (decide (a1 < 1)) a0_0 a0_1 a0_2 a0_3 a0_4 a0_5) else (sawtoothref11_Shift.j0 k a1 true a0_0 a0_1 a0_2 a0_3 a0_4 a0_5)) = some (r1, r2, r3, r4, r5, r6) := h; clear h; have HC3 := Aside0.mk H; clear H
 go_enter Tryd.func20, Tryd.ntmps20
 go_upto_region 1 with (first | ((with_reducible refine gate_dst (N := 2) rfl ?_); refine box_event ?hg (N := 2) ?hd (cs := #[.bool a0_0, .int .i64 a0_1, .int .i64 a0_2, .int .i64 a0_3, .int .i64 a0_4, .int .i64 a0_5]) (t := 23) ?hr ?_; (case hd => rfl); (case hg => rfl); (case hr => first | (go_simp; done) | (go_simp; rfl)); intro gb527 hg w4 hbox hb; have BK527 := Aside0.mk (hbox); obtain ⟨GW527, nHB⟩ := geA hg hb; have GE527 := GW527; replace HB := nHB; clear nHB; clear hb hbox hg) | ((with_reducible refine gate_dst (N := 4) rfl ?_); refine box_event ?hg (N := 4) ?hd (cs := #[.bool false, .int .i64 0, .int .i64 0, .int .i64 0, .int .i64 0, .int .i64 0]) (t := 23) ?hr ?_; (case hd => rfl); (case hg => rfl); (case hr => first | (go_simp; done) | (go_simp; rfl)); intro gb528 hg w5 hbox hb; have BK528 := Aside0.mk (hbox); obtain ⟨GW528, nHB⟩ := geA hg hb; have GE528 := GW528; obtain ⟨NB527_528, NB528_527, nBK⟩ := nbA BK527 hg hb; replace BK527 := nBK; clear nBK; replace HB := nHB; clear nHB; clear hb hbox hg))
 (try simp only [Act.put, sA, sB, sC])
 go_cut [11] (fun v11 wc => ∃ (kq : Nat) (x11_2 : Bool), v11 = .bool x11_2 ∧ Aside0 (sawtoothref11_Shift.j0 kq a1 x11_2 a0_0 a0_1 a0_2 a0_3 a0_4 a0_5 = some (r1, r2, r3, r4, r5, r6)) ∧ Aside0 (kq ≤ k) ∧ Aside0 (wc.heap[gb527]? = some (.cells #[.bool a0_0, .int .i64 a0_1, .int .i64 a0_2, .int .i64 a0_3, .int .i64 a0_4, .int .i64 a0_5] 23 (0, 0))) ∧ Aside0 (wc.heap[gb528]? = some (.cells #[.bool false, .int .i64 0, .int .i64 0, .int .i64 0, .int .i64 0, .int .i64 0] 23 (0, 0))) ∧ Aside0 (Below w.heap.size w wc))
 case first =>
  have H := HC3.out; clear HC3
  by_cases c6 : a0_0 = true
  ·subst c6
   have H1 : (sawtoothref11_Shift.j0 k a1 (decide (a1 < 1)) true a0_1 a0_2 a0_3 a0_4 a0_5) = some (r1, r2, r3, r4, r5, r6) := by rw [if_pos rfl] at H; exact H
   clear H; have H := H1; clear H1; have H' := Aside0.mk H; clear H; have hnb7 := NB527_528.out; have hnc7 := NB528_527.out; have hcz8_0 := czZ BK527 0 (.bool true); have hcz8_1 := czZ BK527 1 (.int .i64 a0_1); have hcz8_2 := czZ BK527 2 (.int .i64 a0_2); have hcz8_3 := czZ BK527 3 (.int .i64 a0_3); have hcz8_4 := czZ BK527 4 (.int .i64 a0_4); have hcz8_5 := czZ BK527 5 (.int .i64 a0_5); have hfz8_0 := blk_frozen BK527.out 0; have hfz8_1 := blk_frozen BK527.out 1; have hfz8_2 := blk_frozen BK527.out 2; have hfz8_3 := blk_frozen BK527.out 3; have hfz8_4 := blk_frozen BK527.out 4; have hfz8_5 := blk_frozen BK527.out 5
   go_wp2
   go_meet
   case rel => exact ⟨_, (decide (a1 < 1)), (by first | rfl | (simp; done) | (simp [*]; done)), H', ⟨by first | omega | exact Nat.le_refl _⟩, ⟨by (with_reducible repeat first | apply blk_drewN | apply blk_drew | apply blk_alloc); exact BK527.out⟩, ⟨by (with_reducible repeat first | apply blk_drewN | apply blk_drew | apply blk_alloc); exact BK528.out⟩, ⟨by repeat (first | (with_reducible first | exact HB.out | apply below_alloc | apply pw_below_drewN | apply below_drew1 | refine below_set ?_ (Aside0.out (by assumption))) | exact HB.out)⟩⟩
  ·replace c6 := Bool.eq_false_iff.mpr c6
   subst c6
   have H1 : (sawtoothref11_Shift.j0 k a1 true false a0_1 a0_2 a0_3 a0_4 a0_5) = some (r1, r2, r3, r4, r5, r6) := by rw [if_neg (show ¬ (false = true) by decide)] at H; exact H
   clear H; have H := H1; clear H1; have H' := Aside0.mk H; clear H; have hnb9 := NB527_528.out; have hnc9 := NB528_527.out; have hcz10_0 := czZ BK527 0 (.bool false); have hcz10_1 := czZ BK527 1 (.int .i64 a0_1); have hcz10_2 := czZ BK527 2 (.int .i64 a0_2); have hcz10_3 := czZ BK527 3 (.int .i64 a0_3); have hcz10_4 := czZ BK527 4 (.int .i64 a0_4); have hcz10_5 := czZ BK527 5 (.int .i64 a0_5); have hfz10_0 := blk_frozen BK527.out 0; have hfz10_1 := blk_frozen BK527.out 1; have hfz10_2 := blk_frozen BK527.out 2; have hfz10_3 := blk_frozen BK527.out 3; have hfz10_4 := blk_frozen BK527.out 4; have hfz10_5 := blk_frozen BK527.out 5
   go_wp2
   go_meet
   case rel => exact ⟨_, (true), (by first | rfl | (simp; done) | (simp [*]; done)), H', ⟨by first | omega | exact Nat.le_refl _⟩, ⟨by (with_reducible repeat first | apply blk_drewN | apply blk_drew | apply blk_alloc); exact BK527.out⟩, ⟨by (with_reducible repeat first | apply blk_drewN | apply blk_drew | apply blk_alloc); exact BK528.out⟩, ⟨by repeat (first | (with_reducible first | exact HB.out | apply below_alloc | apply pw_below_drewN | apply below_drew1 | refine below_set ?_ (Aside0.out (by assumption))) | exact HB.out)⟩⟩
 case rest =>
  clear HC3
  try clear c2
  try clear p2
  try clear c6
  try clear c7
  try clear c9
  try clear hcz10_0
  try clear hcz10_1
  try clear hcz10_2
  try clear hcz10_3
  try clear hcz10_4
  try clear hcz10_5
  try clear hcz8_0
  try clear hcz8_1
  try clear hcz8_2
  try clear hcz8_3
  try clear hcz8_4
  try clear hcz8_5
  try clear hfz10_0
  try clear hfz10_1
  try clear hfz10_2
  try clear hfz10_3
  try clear hfz10_4
  try clear hfz10_5
  try clear hfz8_0
  try clear hfz8_1
  try clear hfz8_2
  try clear hfz8_3
  try clear hfz8_4
  try clear hfz8_5
  obtain ⟨kq, x11_2, rfl, HA, HJ2, BK527, BK528, HB⟩ := hcut
  cases kq with
  | zero => exact absurd HA.out (by simp [sawtoothref11_Shift.j0])
  | succ kj2 =>
   have H := HA.out; clear HA; simp only [sawtoothref11_Shift.j0] at H
   by_cases c11 : x11_2 = true
   ·subst c11
    have H1 : (some (a0_0, a0_1, a0_2, a0_3, a0_4, a0_5)) = some (r1, r2, r3, r4, r5, r6) := by rw [if_pos rfl] at H; exact H
    clear H; have H := H1; clear H1; simp only [Option.some.injEq, Prod.mk.injEq] at H; obtain ⟨rfl, rfl, rfl, rfl, rfl, rfl⟩ := H; have hnb12 := NB527_528.out; have hnc12 := NB528_527.out; have hcz13_0 : wc.cell? ⟨gb527, 0, none⟩ = some (.bool a0_0) := (blk_cell BK527.out 0).trans rfl; have hcz13_1 : wc.cell? ⟨gb527, 1, none⟩ = some (.int .i64 a0_1) := (blk_cell BK527.out 1).trans rfl; have hcz13_2 : wc.cell? ⟨gb527, 2, none⟩ = some (.int .i64 a0_2) := (blk_cell BK527.out 2).trans rfl; have hcz13_3 : wc.cell? ⟨gb527, 3, none⟩ = some (.int .i64 a0_3) := (blk_cell BK527.out 3).trans rfl; have hcz13_4 : wc.cell? ⟨gb527, 4, none⟩ = some (.int .i64 a0_4) := (blk_cell BK527.out 4).trans rfl; have hcz13_5 : wc.cell? ⟨gb527, 5, none⟩ = some (.int .i64 a0_5) := (blk_cell BK527.out 5).trans rfl; have hfz13_0 := blk_frozen BK527.out 0; have hfz13_1 := blk_frozen BK527.out 1; have hfz13_2 := blk_frozen BK527.out 2; have hfz13_3 := blk_frozen BK527.out 3; have hfz13_4 := blk_frozen BK527.out 4; have hfz13_5 := blk_frozen BK527.out 5; have hcz14_0 : wc.cell? ⟨gb528, 0, none⟩ = some (.bool false) := (blk_cell BK528.out 0).trans rfl; have hcz14_1 : wc.cell? ⟨gb528, 1, none⟩ = some (.int .i64 0) := (blk_cell BK528.out 1).trans rfl; have hcz14_2 : wc.cell? ⟨gb528, 2, none⟩ = some (.int .i64 0) := (blk_cell BK528.out 2).trans rfl; have hcz14_3 : wc.cell? ⟨gb528, 3, none⟩ = some (.int .i64 0) := (blk_cell BK528.out 3).trans rfl; have hcz14_4 : wc.cell? ⟨gb528, 4, none⟩ = some (.int .i64 0) := (blk_cell BK528.out 4).trans rfl; have hcz14_5 : wc.cell? ⟨gb528, 5, none⟩ = some (.int .i64 0) := (blk_cell BK528.out 5).trans rfl; have hfz14_0 := blk_frozen BK528.out 0; have hfz14_1 := blk_frozen BK528.out 1; have hfz14_2 := blk_frozen BK528.out 2; have hfz14_3 := blk_frozen BK528.out 3; have hfz14_4 := blk_frozen BK528.out 4; have hfz14_5 := blk_frozen BK528.out 5
    go_wp2
    refine bodyPost_ret (results_cell_row rfl _ _ gb528 23 #[.bool a0_0, .int .i64 a0_1, .int .i64 a0_2, .int .i64 a0_3, .int .i64 a0_4, .int .i64 a0_5] (0, 0) _ rfl (by (with_reducible repeat first | apply blk_drewN | apply blk_drew | apply blk_alloc); refine blk_put (cs := #[.bool a0_0, .int .i64 a0_1, .int .i64 a0_2, .int .i64 a0_3, .int .i64 a0_4, .int .i64 0]) ?_ 5 _ rfl; (with_reducible repeat first | apply blk_drewN | apply blk_drew | apply blk_alloc); refine blk_put (cs := #[.bool a0_0, .int .i64 a0_1, .int .i64 a0_2, .int .i64 a0_3, .int .i64 0, .int .i64 0]) ?_ 4 _ rfl; (with_reducible repeat first | apply blk_drewN | apply blk_drew | apply blk_alloc); refine blk_put (cs := #[.bool a0_0, .int .i64 a0_1, .int .i64 a0_2, .int .i64 0, .int .i64 0, .int .i64 0]) ?_ 3 _ rfl; (with_reducible repeat first | apply blk_drewN | apply blk_drew | apply blk_alloc); refine blk_put (cs := #[.bool a0_0, .int .i64 a0_1, .int .i64 0, .int .i64 0, .int .i64 0, .int .i64 0]) ?_ 2 _ rfl; (with_reducible repeat first | apply blk_drewN | apply blk_drew | apply blk_alloc); refine blk_put (cs := #[.bool a0_0, .int .i64 0, .int .i64 0, .int .i64 0, .int .i64 0, .int .i64 0]) ?_ 1 _ rfl; (with_reducible repeat first | apply blk_drewN | apply blk_drew | apply blk_alloc); refine blk_put (cs := #[.bool false, .int .i64 0, .int .i64 0, .int .i64 0, .int .i64 0, .int .i64 0]) ?_ 0 _ rfl; (with_reducible repeat first | apply blk_drewN | apply blk_drew | apply blk_alloc); exact BK528.out) Tryd.underlying23 rfl (by kernel_rfl)) rfl ?_; exact ⟨by first | rfl | (simp [errW_none, errW_some] <;> rfl) | (simp [*, errW_none, errW_some] <;> rfl), by repeat (first | (with_reducible first | exact HB.out | apply below_alloc | apply pw_below_drewN | apply below_drew1 | refine below_set ?_ (Aside0.out (by assumption))) | exact HB.out)⟩
   ·replace c11 := Bool.eq_false_iff.mpr c11
    subst c11
    have H1 : ((sawtoothref01_AddS.f a0_1 a1).bind fun t529 => (if t529 > 1099511627776 then (some (a0_0, 1099511627776, a0_2, a0_3, a0_4, a0_5)) else (some (a0_0, t529, a0_2, a0_3, a0_4, a0_5)))) = some (r1, r2, r3, r4, r5, r6) := by rw [if_neg (show ¬ (false = true) by decide)] at H; exact H
    clear H; have H := H1; clear H1; replace H := Option.bind_eq_some_iff.mp H; obtain ⟨t529, A150, H⟩ := H; replace H : (if t529 > 1099511627776 then (some (a0_0, 1099511627776, a0_2, a0_3, a0_4, a0_5)) else (some (a0_0, t529, a0_2, a0_3, a0_4, a0_5))) = some (r1, r2, r3, r4, r5, r6) := H; have A15 := Aside0.mk A150; clear A150
    by_cases c16 : t529 > 1099511627776
    ·rw [if_pos c16] at H
     have c16b0 : decide (1099511627776 < t529) = true := decide_eq_true c16; clear c16; simp only [Option.some.injEq, Prod.mk.injEq] at H; obtain ⟨rfl, rfl, rfl, rfl, rfl, rfl⟩ := H; have hnb17 := NB527_528.out; have hnc17 := NB528_527.out; have hcz18_0 : wc.cell? ⟨gb527, 0, none⟩ = some (.bool a0_0) := (blk_cell BK527.out 0).trans rfl; have hcz18_1 : wc.cell? ⟨gb527, 1, none⟩ = some (.int .i64 a0_1) := (blk_cell BK527.out 1).trans rfl; have hcz18_2 : wc.cell? ⟨gb527, 2, none⟩ = some (.int .i64 a0_2) := (blk_cell BK527.out 2).trans rfl; have hcz18_3 : wc.cell? ⟨gb527, 3, none⟩ = some (.int .i64 a0_3) := (blk_cell BK527.out 3).trans rfl; have hcz18_4 : wc.cell? ⟨gb527, 4, none⟩ = some (.int .i64 a0_4) := (blk_cell BK527.out 4).trans rfl; have hcz18_5 : wc.cell? ⟨gb527, 5, none⟩ = some (.int .i64 a0_5) := (blk_cell BK527.out 5).trans rfl; have hfz18_0 := blk_frozen BK527.out 0; have hfz18_1 := blk_frozen BK527.out 1; have hfz18_2 := blk_frozen BK527.out 2; have hfz18_3 := blk_frozen BK527.out 3; have hfz18_4 := blk_frozen BK527.out 4; have hfz18_5 := blk_frozen BK527.out 5
     go_wp2_with (first | ((with_reducible refine gate_callee (f := 36) rfl ?_); refine goesLA_ (some 16) rfl rfl Tryd.func36 rfl #[.int .i64 a0_1, .int .i64 a1] rfl ?_; (with_reducible refine (sawtoothref01_AddS.calls a0_1 a1 t529 _ A15.out).mono ?_); rintro e w19 ⟨rfl, hb⟩; refine ⟨_, rfl, ?_⟩; replace BK527 := bdZ BK527 hb; replace BK528 := bdZ BK528 hb; replace HB := stA hb; clear hb; have hcz20_0 := czZ BK527 0 (.bool a0_0); have hcz20_1 := czZ BK527 1 (.int .i64 a0_1); have hcz20_2 := czZ BK527 2 (.int .i64 a0_2); have hcz20_3 := czZ BK527 3 (.int .i64 a0_3); have hcz20_4 := czZ BK527 4 (.int .i64 a0_4); have hcz20_5 := czZ BK527 5 (.int .i64 a0_5); have hfz20_0 := blk_frozen BK527.out 0; have hfz20_1 := blk_frozen BK527.out 1; have hfz20_2 := blk_frozen BK527.out 2; have hfz20_3 := blk_frozen BK527.out 3; have hfz20_4 := blk_frozen BK527.out 4; have hfz20_5 := blk_frozen BK527.out 5; have hcz21_0 := czZ BK528 0 (.bool false); have hcz21_1 := czZ BK528 1 (.int .i64 0); have hcz21_2 := czZ BK528 2 (.int .i64 0); have hcz21_3 := czZ BK528 3 (.int .i64 0); have hcz21_4 := czZ BK528 4 (.int .i64 0); have hcz21_5 := czZ BK528 5 (.int .i64 0); have hfz21_0 := blk_frozen BK528.out 0; have hfz21_1 := blk_frozen BK528.out 1; have hfz21_2 := blk_frozen BK528.out 2; have hfz21_3 := blk_frozen BK528.out 3; have hfz21_4 := blk_frozen BK528.out 4; have hfz21_5 := blk_frozen BK528.out 5))
     refine bodyPost_ret (results_cell_row rfl _ _ gb528 23 #[.bool a0_0, .int .i64 1099511627776, .int .i64 a0_2, .int .i64 a0_3, .int .i64 a0_4, .int .i64 a0_5] (0, 0) _ rfl (by (with_reducible repeat first | apply blk_drewN | apply blk_drew | apply blk_alloc); refine blk_put (cs := #[.bool a0_0, .int .i64 1099511627776, .int .i64 a0_2, .int .i64 a0_3, .int .i64 a0_4, .int .i64 0]) ?_ 5 _ rfl; (with_reducible repeat first | apply blk_drewN | apply blk_drew | apply blk_alloc); refine blk_put (cs := #[.bool a0_0, .int .i64 1099511627776, .int .i64 a0_2, .int .i64 a0_3, .int .i64 0, .int .i64 0]) ?_ 4 _ rfl; (with_reducible repeat first | apply blk_drewN | apply blk_drew | apply blk_alloc); refine blk_put (cs := #[.bool a0_0, .int .i64 1099511627776, .int .i64 a0_2, .int .i64 0, .int .i64 0, .int .i64 0]) ?_ 3 _ rfl; (with_reducible repeat first | apply blk_drewN | apply blk_drew | apply blk_alloc); refine blk_put (cs := #[.bool a0_0, .int .i64 1099511627776, .int .i64 0, .int .i64 0, .int .i64 0, .int .i64 0]) ?_ 2 _ rfl; (with_reducible repeat first | apply blk_drewN | apply blk_drew | apply blk_alloc); refine blk_put (cs := #[.bool a0_0, .int .i64 0, .int .i64 0, .int .i64 0, .int .i64 0, .int .i64 0]) ?_ 1 _ rfl; (with_reducible repeat first | apply blk_drewN | apply blk_drew | apply blk_alloc); refine blk_put (cs := #[.bool false, .int .i64 0, .int .i64 0, .int .i64 0, .int .i64 0, .int .i64 0]) ?_ 0 _ rfl; (with_reducible repeat first | apply blk_drewN | apply blk_drew | apply blk_alloc); refine blk_far ?_ NB528_527.out _; (with_reducible repeat first | apply blk_drewN | apply blk_drew | apply blk_alloc); refine blk_far ?_ NB528_527.out _; (with_reducible repeat first | apply blk_drewN | apply blk_drew | apply blk_alloc); exact BK528.out) Tryd.underlying23 rfl (by kernel_rfl)) rfl ?_; exact ⟨by first | rfl | (simp [errW_none, errW_some] <;> rfl) | (simp [*, errW_none, errW_some] <;> rfl), by repeat (first | (with_reducible first | exact HB.out | apply below_alloc | apply pw_below_drewN | apply below_drew1 | refine below_set ?_ (Aside0.out (by assumption))) | exact HB.out)⟩
    ·rw [if_neg c16] at H
     have c16b0 : decide (1099511627776 < t529) = false := decide_eq_false c16; clear c16; simp only [Option.some.injEq, Prod.mk.injEq] at H; obtain ⟨rfl, rfl, rfl, rfl, rfl, rfl⟩ := H; have hnb22 := NB527_528.out; have hnc22 := NB528_527.out; have hcz23_0 : wc.cell? ⟨gb527, 0, none⟩ = some (.bool a0_0) := (blk_cell BK527.out 0).trans rfl; have hcz23_1 : wc.cell? ⟨gb527, 1, none⟩ = some (.int .i64 a0_1) := (blk_cell BK527.out 1).trans rfl; have hcz23_2 : wc.cell? ⟨gb527, 2, none⟩ = some (.int .i64 a0_2) := (blk_cell BK527.out 2).trans rfl; have hcz23_3 : wc.cell? ⟨gb527, 3, none⟩ = some (.int .i64 a0_3) := (blk_cell BK527.out 3).trans rfl; have hcz23_4 : wc.cell? ⟨gb527, 4, none⟩ = some (.int .i64 a0_4) := (blk_cell BK527.out 4).trans rfl; have hcz23_5 : wc.cell? ⟨gb527, 5, none⟩ = some (.int .i64 a0_5) := (blk_cell BK527.out 5).trans rfl; have hfz23_0 := blk_frozen BK527.out 0; have hfz23_1 := blk_frozen BK527.out 1; have hfz23_2 := blk_frozen BK527.out 2; have hfz23_3 := blk_frozen BK527.out 3; have hfz23_4 := blk_frozen BK527.out 4; have hfz23_5 := blk_frozen BK527.out 5
     go_wp2_with (first | ((with_reducible refine gate_callee (f := 36) rfl ?_); refine goesLA_ (some 16) rfl rfl Tryd.func36 rfl #[.int .i64 a0_1, .int .i64 a1] rfl ?_; (with_reducible refine (sawtoothref01_AddS.calls a0_1 a1 t529 _ A15.out).mono ?_); rintro e w24 ⟨rfl, hb⟩; refine ⟨_, rfl, ?_⟩; replace BK527 := bdZ BK527 hb; replace BK528 := bdZ BK528 hb; replace HB := stA hb; clear hb; have hcz25_0 := czZ BK527 0 (.bool a0_0); have hcz25_1 := czZ BK527 1 (.int .i64 a0_1); have hcz25_2 := czZ BK527 2 (.int .i64 a0_2); have hcz25_3 := czZ BK527 3 (.int .i64 a0_3); have hcz25_4 := czZ BK527 4 (.int .i64 a0_4); have hcz25_5 := czZ BK527 5 (.int .i64 a0_5); have hfz25_0 := blk_frozen BK527.out 0; have hfz25_1 := blk_frozen BK527.out 1; have hfz25_2 := blk_frozen BK527.out 2; have hfz25_3 := blk_frozen BK527.out 3; have hfz25_4 := blk_frozen BK527.out 4; have hfz25_5 := blk_frozen BK527.out 5; have hcz26_0 := czZ BK528 0 (.bool false); have hcz26_1 := czZ BK528 1 (.int .i64 0); have hcz26_2 := czZ BK528 2 (.int .i64 0); have hcz26_3 := czZ BK528 3 (.int .i64 0); have hcz26_4 := czZ BK528 4 (.int .i64 0); have hcz26_5 := czZ BK528 5 (.int .i64 0); have hfz26_0 := blk_frozen BK528.out 0; have hfz26_1 := blk_frozen BK528.out 1; have hfz26_2 := blk_frozen BK528.out 2; have hfz26_3 := blk_frozen BK528.out 3; have hfz26_4 := blk_frozen BK528.out 4; have hfz26_5 := blk_frozen BK528.out 5))
     refine bodyPost_ret (results_cell_row rfl _ _ gb528 23 #[.bool a0_0, .int .i64 t529, .int .i64 a0_2, .int .i64 a0_3, .int .i64 a0_4, .int .i64 a0_5] (0, 0) _ rfl (by (with_reducible repeat first | apply blk_drewN | apply blk_drew | apply blk_alloc); refine blk_put (cs := #[.bool a0_0, .int .i64 t529, .int .i64 a0_2, .int .i64 a0_3, .int .i64 a0_4, .int .i64 0]) ?_ 5 _ rfl; (with_reducible repeat first | apply blk_drewN | apply blk_drew | apply blk_alloc); refine blk_put (cs := #[.bool a0_0, .int .i64 t529, .int .i64 a0_2, .int .i64 a0_3, .int .i64 0, .int .i64 0]) ?_ 4 _ rfl; (with_reducible repeat first | apply blk_drewN | apply blk_drew | apply blk_alloc); refine blk_put (cs := #[.bool a0_0, .int .i64 t529, .int .i64 a0_2, .int .i64 0, .int .i64 0, .int .i64 0]) ?_ 3 _ rfl; (with_reducible repeat first | apply blk_drewN | apply blk_drew | apply blk_alloc); refine blk_put (cs := #[.bool a0_0, .int .i64 t529, .int .i64 0, .int .i64 0, .int .i64 0, .int .i64 0]) ?_ 2 _ rfl; (with_reducible repeat first | apply blk_drewN | apply blk_drew | apply blk_alloc); refine blk_put (cs := #[.bool a0_0, .int .i64 0, .int .i64 0, .int .i64 0, .int .i64 0, .int .i64 0]) ?_ 1 _ rfl; (with_reducible repeat first | apply blk_drewN | apply blk_drew | apply blk_alloc); refine blk_put (cs := #[.bool false, .int .i64 0, .int .i64 0, .int .i64 0, .int .i64 0, .int .i64 0]) ?_ 0 _ rfl; (with_reducible repeat first | apply blk_drewN | apply blk_drew | apply blk_alloc); refine blk_far ?_ NB528_527.out _; (with_reducible repeat first | apply blk_drewN | apply blk_drew | apply blk_alloc); exact BK528.out) Tryd.underlying23 rfl (by kernel_rfl)) rfl ?_; exact ⟨by first | rfl | (simp [errW_none, errW_some] <;> rfl) | (simp [*, errW_none, errW_some] <;> rfl), by repeat (first | (with_reducible first | exact HB.out | apply below_alloc | apply pw_below_drewN | apply below_drew1 | refine below_set ?_ (Aside0.out (by assumption))) | exact HB.out)⟩

/-! ### sawtoothref11_ShiftS: pure, behind function 20 -/
section
open Go.Proofs.YtceiakiihkaamaaDoor.Sp
noncomputable def sawtoothref11_ShiftS.f (on : Bool) (s : Int) (f : Int) (m : Int) (k : Int) (e : Int) (d : Int) : Option (Bool × Int × Int × Int × Int × Int) := need ((I s) ∧ (I d)) (some (on, laterQ on s d, f, m, k, e))
theorem sawtoothref11_ShiftS.eq {on : Bool} {s : Int} {f : Int} {m : Int} {k : Int} {e : Int} {d : Int} (h1 : I s) (h2 : I d) : sawtoothref11_ShiftS.f on s f m k e d = some (on, laterQ on s d, f, m, k, e) := need_pos ⟨h1, h2⟩
theorem sawtoothref11_Shift.main {on : Bool} {s : Int} {f : Int} {m : Int} {k : Int} {e : Int} {d : Int} (h1 : I s) (h2 : I d) : sawtoothref11_Shift.f 1 on s f m k e d = some (on, laterQ on s d, f, m, k, e) := by
 unfold sawtoothref11_Shift.f laterQ
 simp only [sawtoothref11_Shift.j0]
 by_cases c1 : on = true
 ·rw [if_pos c1]
  by_cases c2 : d < 1
  ·rw [if_pos (decide_eq_true c2), if_neg (show ¬ (on = true ∧ 0 < d) from fun x => by omega)]
  ·rw [if_neg (show ¬ decide (d < 1) = true by simpa using c2), if_pos (show on = true ∧ 0 < d from ⟨c1, by omega⟩), sawtoothref01_AddS.eq h1 h2]
   simp only [Option.bind_some]
   unfold near
   (repeat' split) <;> first | rfl | (exfalso; omega)
 ·rw [if_neg c1, if_neg (show ¬ (on = true ∧ 0 < d) from fun x => c1 x.1)]
  rfl
end
theorem sawtoothref11_ShiftS.calls (a0_0 : Bool) (a0_1 : Int) (a0_2 : Int) (a0_3 : Int) (a0_4 : Int) (a0_5 : Int) (a1 : Int) (r1 : Bool) (r2 : Int) (r3 : Int) (r4 : Int) (r5 : Int) (r6 : Int) (w : World) (h : sawtoothref11_ShiftS.f a0_0 a0_1 a0_2 a0_3 a0_4 a0_5 a1 = some (r1, r2, r3, r4, r5, r6)) :
  Calls Tryd.prog 20 #[.agg #[.bool a0_0, .int .i64 a0_1, .int .i64 a0_2, .int .i64 a0_3, .int .i64 a0_4, .int .i64 a0_5], .int .i64 a1] w fun e w' => e = .returned (.agg #[.bool r1, .int .i64 r2, .int .i64 r3, .int .i64 r4, .int .i64 r5, .int .i64 r6]) ∧ Below w.heap.size w w' := by
 obtain ⟨hc, h⟩ := Sp.need_some h; obtain ⟨h1, h2⟩ := hc; exact sawtoothref11_Shift.calls 1 a0_0 a0_1 a0_2 a0_3 a0_4 a0_5 a1 r1 r2 r3 r4 r5 r6 w (by rw [sawtoothref11_Shift.main h1 h2]; exact h)

end Go.Proofs.YtceiakiihkaamaaDoor.Px
