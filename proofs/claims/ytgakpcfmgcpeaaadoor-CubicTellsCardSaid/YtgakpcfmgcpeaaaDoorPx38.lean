/- Printed by px.py, over the kit's print. Conditions: none beside the theorems' own. -/
import Derived.Test.YtgakpcfmgcpeaaaDoorPx0
import Derived.Test.YtgakpcfmgcpeaaaDoorPx30
import Derived.Test.YtgakpcfmgcpeaaaDoorPx34
import Derived.Test.YtgakpcfmgcpeaaaDoorPx36
import Derived.Test.YtgakpcfmgcpeaaaDoorPx37
import Derived.Test.YtgakpcfmgcpeaaaDoorSpec
namespace Go.Proofs.YtgakpcfmgcpeaaaDoor.Px
open Go.RowKit Go.Proofs.YtgakpcfmgcpeaaaDoorW.PrintWords Go.Proofs.YtgakpcfmgcpeaaaDoorW.PrintLast Go.Proofs.YtgakpcfmgcpeaaaDoorW.PrintMore
attribute [local go_sem] max2_int min2_int max_two min_two max_three min_three max_four min_four
set_option linter.unusedVariables false
set_option linter.unusedSimpArgs false

/-! ### sawtoothref11_CheckS: pure, behind function 29 -/
section
open Go.Proofs.YtgakpcfmgcpeaaaDoor.Sp
noncomputable def sawtoothref11_CheckS.f (on : Bool) (s : Int) (f : Int) (m : Int) (k : Int) (e : Int) : Option (Bool) := need ((I s) ∧ (I f) ∧ (I m)) (some (eOk on s f m k e))
theorem sawtoothref11_CheckS.eq {on : Bool} {s : Int} {f : Int} {m : Int} {k : Int} {e : Int} (h1 : I s) (h2 : I f) (h3 : I m) : sawtoothref11_CheckS.f on s f m k e = some (eOk on s f m k e) := need_pos ⟨h1, h2, h3⟩
theorem sawtoothref11_Check.main {on : Bool} {s : Int} {f : Int} {m : Int} {k : Int} {e : Int} (h1 : I s) (h2 : I f) (h3 : I m) : sawtoothref11_Check.f on s f m k e = some (eOk on s f m k e) := by
 unfold sawtoothref11_Check.f sawtoothref11_window.f
 cases on
 ·rw [if_neg (by simp)]
  have q : eOk false s f m k e = decide (s = 0 ∧ f = 0 ∧ m = 0 ∧ k = 0 ∧ e = 0) := by unfold eOk; simp
  rw [q]
  by_cases c1 : s = 0 <;> by_cases c2 : f = 0 <;> by_cases c3 : m = 0 <;> by_cases c4 : k = 0 <;> simp [c1, c2, c3, c4]
  by_cases c5 : e = 0 <;> simp [c5]
 ·rw [if_pos rfl]
  have no : ¬ eOn s f m k e → some false = some (eOk true s f m k e) := by
   intro h
   have : eOk true s f m k e = false := by
    cases x : eOk true s f m k e
    ·rfl
    ·exact absurd (eOk_on.1 x) h
   rw [this]
  by_cases c1 : s ≥ 0
  ·by_cases c2 : s ≤ 1099511627776
   ·rw [if_pos c1, if_pos c2]
    by_cases c3 : f ≥ 0 ∧ f ≤ 68719476736
    ·rw [if_pos c3.1]
     simp only [Option.bind_some, decide_eq_true c3.2, if_true]
     by_cases c4 : m ≥ 0 ∧ m ≤ 68719476736
     ·rw [if_pos c4.1]
      simp only [Option.bind_some, decide_eq_true c4.2, if_true]
      by_cases c5 : e ≥ 0 ∧ e ≤ 68719476736
      ·rw [if_pos c5.1]
       simp only [Option.bind_some, decide_eq_true c5.2, if_true]
       by_cases c6 : m ≥ f
       ·rw [if_pos c6, w64 (by omega), sawtoothref11_KS.eq (by omega)]
        simp only [Option.bind_some]
        congr 1
        refine eOk_of (fun _ => ?_) (fun x => by cases x)
        unfold eOn
        simp; omega
       ·rw [if_neg c6]; exact no (fun h => by unfold eOn at h; omega)
      ·have : ((if e ≥ 0 then some (decide (e ≤ 68719476736)) else some false) : Option Bool) = some false := by
        by_cases x : e ≥ 0
        ·rw [if_pos x, decide_eq_false (by omega)]
        ·rw [if_neg x]
       rw [this]; exact no (fun h => by unfold eOn at h; omega)
     ·have : ((if m ≥ 0 then some (decide (m ≤ 68719476736)) else some false) : Option Bool) = some false := by
       by_cases x : m ≥ 0
       ·rw [if_pos x, decide_eq_false (by omega)]
       ·rw [if_neg x]
      rw [this]; exact no (fun h => by unfold eOn at h; omega)
    ·have : ((if f ≥ 0 then some (decide (f ≤ 68719476736)) else some false) : Option Bool) = some false := by
      by_cases x : f ≥ 0
      ·rw [if_pos x, decide_eq_false (by omega)]
      ·rw [if_neg x]
     rw [this]; exact no (fun h => by unfold eOn at h; omega)
   ·rw [if_pos c1, if_neg c2]; exact no (fun h => by unfold eOn at h; omega)
  ·rw [if_neg c1]; exact no (fun h => by unfold eOn at h; omega)
end
theorem sawtoothref11_CheckS.calls (a0_0 : Bool) (a0_1 : Int) (a0_2 : Int) (a0_3 : Int) (a0_4 : Int) (a0_5 : Int) (r : Bool) (w : World) (h : sawtoothref11_CheckS.f a0_0 a0_1 a0_2 a0_3 a0_4 a0_5 = some r) :
  Calls Tryd.prog 29 #[.agg #[.bool a0_0, .int .i64 a0_1, .int .i64 a0_2, .int .i64 a0_3, .int .i64 a0_4, .int .i64 a0_5]] w fun e w' => e = .returned (.bool r) ∧ Below w.heap.size w w' := by
 obtain ⟨hc, h⟩ := Sp.need_some h; obtain ⟨h1, h2, h3⟩ := hc; exact sawtoothref11_Check.calls a0_0 a0_1 a0_2 a0_3 a0_4 a0_5 r w (by rw [sawtoothref11_Check.main h1 h2 h3]; exact h)

/-! ### sawtoothref01_minus: function 65 -/
noncomputable def sawtoothref01_minus.f (a0 : Int) (a1 : Int) : Option (Int × Int) := if a1 > 0 then (if a0 < (wrap64 ((-9223372036854775808) + a1)) then (some (0, 10)) else (if a1 < 0 then (if a0 > (wrap64 (9223372036854775807 + a1)) then (some (0, 10)) else (some (wrap64 (a0 - a1), 0))) else (some (wrap64 (a0 - a1), 0)))) else (if a1 < 0 then (if a0 > (wrap64 (9223372036854775807 + a1)) then (some (0, 10)) else (some (wrap64 (a0 - a1), 0))) else (some (wrap64 (a0 - a1), 0)))
set_option maxHeartbeats 8000000 in
set_option maxRecDepth 100000 in
theorem sawtoothref01_minus.calls (a0 : Int) (a1 : Int) (r1 : Int) (r2 : Int) (w : World) (h : sawtoothref01_minus.f a0 a1 = some (r1, r2)) :
  Calls Tryd.prog 65 #[.int .i64 a0, .int .i64 a1] w fun e w' => e = .returned (.tuple #[.int .i64 r1, .int .i64 r2]) ∧ Drawn0 w w' := by
 have H : (if a1 > 0 then (if a0 < (wrap64 ((-9223372036854775808) + a1)) then (some (0, 10)) else (if a1 < 0 then (if a0 > (wrap64 (9223372036854775807 + a1)) then (some (0, 10)) else (some (wrap64 (a0 - a1), 0))) else (some (wrap64 (a0 - a1), 0)))) else (if a1 < 0 then (if a0 > (wrap64 (9223372036854775807 + a1)) then (some (0, 10)) else (some (wrap64 (a0 - a1), 0))) else (some (wrap64 (a0 - a1), 0)))) = some (r1, r2) := h; clear h
 by_cases c3 : a1 > 0
 ·rw [if_pos c3] at H
  have c3b0 : decide (0 < a1) = true := decide_eq_true c3; clear c3
  by_cases c4 : a0 < (wrap64 ((-9223372036854775808) + a1))
  ·rw [if_pos c4] at H
   have c4b0 : decide (a0 < (wrap64 ((-9223372036854775808) + a1))) = true := decide_eq_true c4; clear c4; simp only [Option.some.injEq, Prod.mk.injEq] at H; obtain ⟨rfl, rfl⟩ := H
   go_enter Tryd.func65, Tryd.ntmps65
   go_wp2
   go_ret2
   exact ⟨by first | rfl | (simp; done) | (simp [*]; done), by repeat (first | exact Drawn0.refl _ | apply Drawn0.step)⟩
  ·rw [if_neg c4] at H
   have c4b0 : decide (a0 < (wrap64 ((-9223372036854775808) + a1))) = false := decide_eq_false c4; clear c4
   by_cases c5 : a1 < 0
   ·rw [if_pos c5] at H
    have c5b0 : decide (a1 < 0) = true := decide_eq_true c5; clear c5
    by_cases c6 : a0 > (wrap64 (9223372036854775807 + a1))
    ·rw [if_pos c6] at H
     have c6b0 : decide ((wrap64 (9223372036854775807 + a1)) < a0) = true := decide_eq_true c6; clear c6; simp only [Option.some.injEq, Prod.mk.injEq] at H; obtain ⟨rfl, rfl⟩ := H
     go_enter Tryd.func65, Tryd.ntmps65
     go_wp2
     go_ret2
     exact ⟨by first | rfl | (simp; done) | (simp [*]; done), by repeat (first | exact Drawn0.refl _ | apply Drawn0.step)⟩
    ·rw [if_neg c6] at H
     have c6b0 : decide ((wrap64 (9223372036854775807 + a1)) < a0) = false := decide_eq_false c6; clear c6; simp only [Option.some.injEq, Prod.mk.injEq] at H; obtain ⟨rfl, rfl⟩ := H
     go_enter Tryd.func65, Tryd.ntmps65
     go_wp2
     go_ret2
     exact ⟨by first | rfl | (simp; done) | (simp [*]; done), by repeat (first | exact Drawn0.refl _ | apply Drawn0.step)⟩
   ·rw [if_neg c5] at H
    have c5b0 : decide (a1 < 0) = false := decide_eq_false c5; clear c5; simp only [Option.some.injEq, Prod.mk.injEq] at H; obtain ⟨rfl, rfl⟩ := H
    go_enter Tryd.func65, Tryd.ntmps65
    go_wp2
    go_ret2
    exact ⟨by first | rfl | (simp; done) | (simp [*]; done), by repeat (first | exact Drawn0.refl _ | apply Drawn0.step)⟩
 ·rw [if_neg c3] at H
  have c3b0 : decide (0 < a1) = false := decide_eq_false c3; clear c3
  by_cases c7 : a1 < 0
  ·rw [if_pos c7] at H
   have c7b0 : decide (a1 < 0) = true := decide_eq_true c7; clear c7
   by_cases c8 : a0 > (wrap64 (9223372036854775807 + a1))
   ·rw [if_pos c8] at H
    have c8b0 : decide ((wrap64 (9223372036854775807 + a1)) < a0) = true := decide_eq_true c8; clear c8; simp only [Option.some.injEq, Prod.mk.injEq] at H; obtain ⟨rfl, rfl⟩ := H
    go_enter Tryd.func65, Tryd.ntmps65
    go_wp2
    go_ret2
    exact ⟨by first | rfl | (simp; done) | (simp [*]; done), by repeat (first | exact Drawn0.refl _ | apply Drawn0.step)⟩
   ·rw [if_neg c8] at H
    have c8b0 : decide ((wrap64 (9223372036854775807 + a1)) < a0) = false := decide_eq_false c8; clear c8; simp only [Option.some.injEq, Prod.mk.injEq] at H; obtain ⟨rfl, rfl⟩ := H
    go_enter Tryd.func65, Tryd.ntmps65
    go_wp2
    go_ret2
    exact ⟨by first | rfl | (simp; done) | (simp [*]; done), by repeat (first | exact Drawn0.refl _ | apply Drawn0.step)⟩
  ·rw [if_neg c7] at H
   have c7b0 : decide (a1 < 0) = false := decide_eq_false c7; clear c7; simp only [Option.some.injEq, Prod.mk.injEq] at H; obtain ⟨rfl, rfl⟩ := H
   go_enter Tryd.func65, Tryd.ntmps65
   go_wp2
   go_ret2
   exact ⟨by first | rfl | (simp; done) | (simp [*]; done), by repeat (first | exact Drawn0.refl _ | apply Drawn0.step)⟩

/-! ### sawtoothref01_minusS: pure, behind function 65 -/
section
open Go.Proofs.YtgakpcfmgcpeaaaDoor.Sp
noncomputable def sawtoothref01_minusS.f (a : Int) (b : Int) : Option (Int × Int) := need ((I a) ∧ (I b)) (fit (a - b))
theorem sawtoothref01_minusS.eq {a : Int} {b : Int} (h1 : I a) (h2 : I b) : sawtoothref01_minusS.f a b = fit (a - b) := need_pos ⟨h1, h2⟩
theorem sawtoothref01_minus.main {a : Int} {b : Int} (h1 : I a) (h2 : I b) : sawtoothref01_minus.f a b = fit (a - b) := by
 unfold sawtoothref01_minus.f fit
 by_cases p : b > 0
 ·have q : ¬ b < 0 := by omega
  simp only [if_pos p, if_neg q]
  rw [w64 (x := -9223372036854775808 + b) (by omega)]
  by_cases c : I (a - b)
  ·rw [if_neg (by omega), if_pos c, w64 c]
  ·rw [if_pos (by omega), if_neg c]
 ·simp only [if_neg p]
  by_cases q : b < 0
  ·rw [if_pos q, w64 (x := 9223372036854775807 + b) (by omega)]
   by_cases c : I (a - b)
   ·rw [if_neg (by omega), if_pos c, w64 c]
   ·rw [if_pos (by omega), if_neg c]
  ·rw [if_neg q, if_pos (by omega), w64 (by omega)]
end
theorem sawtoothref01_minusS.calls (a0 : Int) (a1 : Int) (r1 : Int) (r2 : Int) (w : World) (h : sawtoothref01_minusS.f a0 a1 = some (r1, r2)) :
  Calls Tryd.prog 65 #[.int .i64 a0, .int .i64 a1] w fun e w' => e = .returned (.tuple #[.int .i64 r1, .int .i64 r2]) ∧ Drawn0 w w' := by
 obtain ⟨hc, h⟩ := Sp.need_some h; obtain ⟨h1, h2⟩ := hc; exact sawtoothref01_minus.calls a0 a1 r1 r2 w (by rw [sawtoothref01_minus.main h1 h2]; exact h)

/-! ### sawtoothref01_Sub: function 40 -/
noncomputable def sawtoothref01_Sub.j0 : Nat → Int → Int → Bool → Option (Int)
 | 0, _, _, _ => none
 | k + 1, x5, x6, x18 => if x18 = true then (some (-9223372036854775808)) else (if x6 = 0 then (some x5) else (some 9223372036854775807))
noncomputable def sawtoothref01_Sub.f (k : Nat) (a0 : Int) (a1 : Int) : Option (Int) := (sawtoothref01_minusS.f a0 a1).bind fun bt497 => (if bt497.2 = 0 then (sawtoothref01_Sub.j0 k bt497.1 bt497.2 false) else (sawtoothref01_Sub.j0 k bt497.1 bt497.2 (decide (a0 < 0))))
set_option maxHeartbeats 8000000 in
set_option maxRecDepth 100000 in
theorem sawtoothref01_Sub.calls (k : Nat) (a0 : Int) (a1 : Int) (r : Int) (w : World) (h : sawtoothref01_Sub.f k a0 a1 = some r) :
  Calls Tryd.prog 40 #[.int .i64 a0, .int .i64 a1] w fun e w' => e = .returned (.int .i64 r) ∧ Drawn0 w w' := by
 have H : ((sawtoothref01_minusS.f a0 a1).bind fun bt497 => (if bt497.2 = 0 then (sawtoothref01_Sub.j0 k bt497.1 bt497.2 false) else (sawtoothref01_Sub.j0 k bt497.1 bt497.2 (decide (a0 < 0))))) = some r := h; clear h; replace H := Option.bind_eq_some_iff.mp H; obtain ⟨⟨t497, t498⟩, A30, H⟩ := H; replace H : (if t498 = 0 then (sawtoothref01_Sub.j0 k t497 t498 false) else (sawtoothref01_Sub.j0 k t497 t498 (decide (a0 < 0)))) = some r := H; have A3 := Aside0.mk A30; clear A30; have HC4 := Aside0.mk H; clear H
 go_enter Tryd.func40, Tryd.ntmps40
 go_upto_region 2 with (first | ((with_reducible refine gate_callee (f := 65) rfl ?_); refine goesLA_ (some 10) rfl rfl Tryd.func65 rfl #[.int .i64 a0, .int .i64 a1] rfl ?_; (with_reducible refine (sawtoothref01_minusS.calls a0 a1 t497 t498 _ A3.out).mono ?_); rintro e w' ⟨rfl, ⟨nd, rfl⟩⟩; refine ⟨_, rfl, ?_⟩))
 (try simp only [Act.put, sA, sB, sC])
 go_cut [18] (fun v18 wc => ∃ (kq : Nat) (x18_3 : Bool), v18 = .bool x18_3 ∧ Aside0 (sawtoothref01_Sub.j0 kq t497 t498 x18_3 = some r) ∧ Aside0 (kq ≤ k) ∧ Drawn0 w wc)
 case first =>
  have H := HC4.out; clear HC4
  by_cases c5 : t498 = 0
  ·rw [if_pos c5] at H
   have c5b0 : (t498 == 0) = true := beq_iff_eq.mpr c5; have c5b1 : (t498 != 0) = false := bne_eq_false_iff_eq.mpr c5; clear c5
   (first | rw [c5b0] | (simp only [i64_w, i32_w]; rw [c5b0]) | skip)
   have H' := Aside0.mk H; clear H
   go_wp2
   go_meet
   case rel => exact ⟨_, (false), (by first | rfl | (simp; done) | (simp [*]; done)), H', ⟨by first | omega | exact Nat.le_refl _⟩, by repeat (first | exact Drawn0.refl _ | apply Drawn0.step)⟩
  ·rw [if_neg c5] at H
   have c5b0 : (t498 == 0) = false := beq_eq_false_iff_ne.mpr c5; have c5b1 : (t498 != 0) = true := bne_iff_ne.mpr c5
   (first | rw [c5b0] | (simp only [i64_w, i32_w]; rw [c5b0]) | skip)
   have H' := Aside0.mk H; clear H
   go_wp2
   go_meet
   case rel => exact ⟨_, (decide (a0 < 0)), (by first | rfl | (simp; done) | (simp [*]; done)), H', ⟨by first | omega | exact Nat.le_refl _⟩, by repeat (first | exact Drawn0.refl _ | apply Drawn0.step)⟩
 case rest =>
  clear HC4
  try clear p2
  try clear c4
  try clear c5
  try clear c5b0
  try clear c5b1
  obtain ⟨kq, x18_3, rfl, HA, HJ3, ⟨mc3, rfl⟩⟩ := hcut
  cases kq with
  | zero => exact absurd HA.out (by simp [sawtoothref01_Sub.j0])
  | succ kj3 =>
   have H := HA.out; clear HA; simp only [sawtoothref01_Sub.j0] at H
   by_cases c6 : x18_3 = true
   ·subst c6
    have H1 : (some (-9223372036854775808)) = some r := by rw [if_pos rfl] at H; exact H
    clear H; have H := H1; clear H1; obtain rfl := Option.some.inj H
    go_wp2
    go_ret
    exact ⟨by first | rfl | (simp; done) | (simp [*]; done), by repeat (first | exact Drawn0.refl _ | apply Drawn0.step)⟩
   ·replace c6 := Bool.eq_false_iff.mpr c6
    subst c6
    have H1 : (if t498 = 0 then (some t497) else (some 9223372036854775807)) = some r := by rw [if_neg (show ¬ (false = true) by decide)] at H; exact H
    clear H; have H := H1; clear H1
    by_cases c7 : t498 = 0
    ·rw [if_pos c7] at H
     have c7b0 : (t498 == 0) = true := beq_iff_eq.mpr c7; have c7b1 : (t498 != 0) = false := bne_eq_false_iff_eq.mpr c7; clear c7; obtain rfl := Option.some.inj H
     go_wp2
     go_ret
     exact ⟨by first | rfl | (simp; done) | (simp [*]; done), by repeat (first | exact Drawn0.refl _ | apply Drawn0.step)⟩
    ·rw [if_neg c7] at H
     have c7b0 : (t498 == 0) = false := beq_eq_false_iff_ne.mpr c7; have c7b1 : (t498 != 0) = true := bne_iff_ne.mpr c7; obtain rfl := Option.some.inj H
     go_wp2
     go_ret
     exact ⟨by first | rfl | (simp; done) | (simp [*]; done), by repeat (first | exact Drawn0.refl _ | apply Drawn0.step)⟩

/-! ### sawtoothref01_SubS: pure, behind function 40 -/
section
open Go.Proofs.YtgakpcfmgcpeaaaDoor.Sp
noncomputable def sawtoothref01_SubS.f (a : Int) (b : Int) : Option (Int) := need ((I a) ∧ (I b)) (some (near (a - b)))
theorem sawtoothref01_SubS.eq {a : Int} {b : Int} (h1 : I a) (h2 : I b) : sawtoothref01_SubS.f a b = some (near (a - b)) := need_pos ⟨h1, h2⟩
theorem sawtoothref01_Sub.main {a : Int} {b : Int} (h1 : I a) (h2 : I b) : sawtoothref01_Sub.f 1 a b = some (near (a - b)) := by
 unfold sawtoothref01_Sub.f
 simp only [sawtoothref01_Sub.j0]
 rw [sawtoothref01_minusS.eq h1 h2]
 by_cases c : I (a - b)
 ·rw [fit_in c, near_in c]; simp
 ·rw [fit_out c]
  by_cases n : a < 0
  ·rw [near_lo (by omega)]; simp [n]
  ·rw [near_hi (by omega)]; simp [n]
end
theorem sawtoothref01_SubS.calls (a0 : Int) (a1 : Int) (r : Int) (w : World) (h : sawtoothref01_SubS.f a0 a1 = some r) :
  Calls Tryd.prog 40 #[.int .i64 a0, .int .i64 a1] w fun e w' => e = .returned (.int .i64 r) ∧ Below w.heap.size w w' := by
 obtain ⟨hc, h⟩ := Sp.need_some h; obtain ⟨h1, h2⟩ := hc; refine (sawtoothref01_Sub.calls 1 a0 a1 r w (by rw [sawtoothref01_Sub.main h1 h2]; exact h)).mono (fun e w' hq => ⟨hq.1, ?_⟩); obtain ⟨nd, rfl⟩ := hq.2; exact pw_below_drewN (Below.refl _ _) nd

/-! ### sawtoothref12_At: function 16 -/
noncomputable def sawtoothref12_At.j0 : Nat → Int → Bool → Bool → Int → Int → Int → Int → Int → Option (Int)
 | 0, _, _, _, _, _, _, _, _ => none
 | k + 1, x1, x15, x500000, x500001, x500002, x500003, x500004, x500005 => if x15 = true then (some 0) else ((sawtoothref01_SubS.f x1 x500001).bind fun t501 => ((sawtoothref01_SubS.f t501 x500004).bind fun t502 => ((sawtoothref12_RiseS.f t502).bind fun t503 => ((sawtoothref01_ClampS.f (wrap64 (x500003 + t503)) 0 68719476736).bind fun t504 => (some t504)))))
noncomputable def sawtoothref12_At.f (k : Nat) (a0_0 : Bool) (a0_1 : Int) (a0_2 : Int) (a0_3 : Int) (a0_4 : Int) (a0_5 : Int) (a1 : Int) : Option (Int) := (sawtoothref11_CheckS.f a0_0 a0_1 a0_2 a0_3 a0_4 a0_5).bind fun t500 => (if t500 = true then (sawtoothref12_At.j0 k a1 (!a0_0) a0_0 a0_1 a0_2 a0_3 a0_4 a0_5) else (sawtoothref12_At.j0 k a1 true a0_0 a0_1 a0_2 a0_3 a0_4 a0_5))
def sawtoothref12_At.T5 : Bool × List (List Nat × List Nat) := (true, [([], []), ([0], [0]), ([], []), ([], []), ([3], [3]), ([2, 4], [2, 4]), ([5, 5], [5]), ([1, 6], [1, 6]), ([7, 6], [7]), ([8, 8, 0, 1, 2, 3, 4, 5, 6, 7, 8], [8])])
def sawtoothref12_At.B5 : List Nat := [0, 1, 0, 0, 8, 28, 60, 127, 255, 511]
theorem sawtoothref12_At.tab5 : rtab .any (opsOf Tryd.f16 5) = sawtoothref12_At.T5 := by kernel_rfl
theorem sawtoothref12_At.bits5 : waitsOk sawtoothref12_At.T5.2 sawtoothref12_At.B5 = true := by kernel_rfl
set_option maxHeartbeats 8000000 in
set_option maxRecDepth 100000 in
theorem sawtoothref12_At.calls (k : Nat) (a0_0 : Bool) (a0_1 : Int) (a0_2 : Int) (a0_3 : Int) (a0_4 : Int) (a0_5 : Int) (a1 : Int) (r : Int) (w : World) (h : sawtoothref12_At.f k a0_0 a0_1 a0_2 a0_3 a0_4 a0_5 a1 = some r) :
  Calls Tryd.prog 16 #[.agg #[.bool a0_0, .int .i64 a0_1, .int .i64 a0_2, .int .i64 a0_3, .int .i64 a0_4, .int .i64 a0_5], .int .i64 a1] w fun e w' => e = .returned (.int .i64 r) ∧ Below w.heap.size w w' := by
 have hu23 := Tryd.underlying23; have HB := Aside0.mk (Below.refl w.heap.size w); have H : ((sawtoothref11_CheckS.f a0_0 a0_1 a0_2 a0_3 a0_4 a0_5).bind fun t500 => (if t500 = true then (sawtoothref12_At.j0 k a1 (!a0_0) a0_0 a0_1 a0_2 a0_3 a0_4 a0_5) else (sawtoothref12_At.j0 k a1 true a0_0 a0_1 a0_2 a0_3 a0_4 a0_5))) = some r := h; clear h; replace H := Option.bind_eq_some_iff.mp H; obtain ⟨t500, A30, H⟩ := H; replace H : (if t500 = true then (sawtoothref12_At.j0 k a1 (!a0_0) a0_0 a0_1 a0_2 a0_3 a0_4 a0_5) else (sawtoothref12_At.j0 k a1 true a0_0 a0_1 a0_2 a0_3 a0_4 a0_5)) = some r := H; have A3 := Aside0.mk A30; clear A30; have HC4 := Aside0.mk H; clear H
 go_enter Tryd.func16, Tryd.ntmps16
 go_upto_region 2 with (first | ((with_reducible refine gate_dst (N := 2) rfl ?_); refine box_event ?hg (N := 2) ?hd (cs := #[.bool a0_0, .int .i64 a0_1, .int .i64 a0_2, .int .i64 a0_3, .int .i64 a0_4, .int .i64 a0_5]) (t := 23) ?hr ?_; (case hd => rfl); (case hg => rfl); (case hr => first | (go_simp; done) | (go_simp; rfl)); intro gb499 hg w5 hbox hb; have BK499 := Aside0.mk (hbox); obtain ⟨GW499, nHB⟩ := geA hg hb; have GE499 := GW499; replace HB := nHB; clear nHB; clear hb hbox hg; have hcz6_0 := czZ BK499 0 (.bool a0_0); have hcz6_1 := czZ BK499 1 (.int .i64 a0_1); have hcz6_2 := czZ BK499 2 (.int .i64 a0_2); have hcz6_3 := czZ BK499 3 (.int .i64 a0_3); have hcz6_4 := czZ BK499 4 (.int .i64 a0_4); have hcz6_5 := czZ BK499 5 (.int .i64 a0_5); have hfz6_0 := blk_frozen BK499.out 0; have hfz6_1 := blk_frozen BK499.out 1; have hfz6_2 := blk_frozen BK499.out 2; have hfz6_3 := blk_frozen BK499.out 3; have hfz6_4 := blk_frozen BK499.out 4; have hfz6_5 := blk_frozen BK499.out 5) | ((with_reducible refine gate_callee (f := 29) rfl ?_); refine goesLA_ (some 8) rfl rfl Tryd.func29 rfl #[.agg #[.bool a0_0, .int .i64 a0_1, .int .i64 a0_2, .int .i64 a0_3, .int .i64 a0_4, .int .i64 a0_5]] rfl ?_; (with_reducible refine (sawtoothref11_CheckS.calls a0_0 a0_1 a0_2 a0_3 a0_4 a0_5 t500 _ A3.out).mono ?_); rintro e w7 ⟨rfl, hb⟩; refine ⟨_, rfl, ?_⟩; replace BK499 := bdZ BK499 hb; replace HB := stA hb; clear hb))
 (try simp only [Act.put, sA, sB, sC])
 go_cut [15] (fun v15 wc => ∃ (kq : Nat) (x15_3 : Bool), v15 = .bool x15_3 ∧ Aside0 (sawtoothref12_At.j0 kq a1 x15_3 a0_0 a0_1 a0_2 a0_3 a0_4 a0_5 = some r) ∧ Aside0 (kq ≤ k) ∧ Aside0 (wc.heap[gb499]? = some (.cells #[.bool a0_0, .int .i64 a0_1, .int .i64 a0_2, .int .i64 a0_3, .int .i64 a0_4, .int .i64 a0_5] 23 (0, 0))) ∧ Aside0 (Below w.heap.size w wc))
 case first =>
  have H := HC4.out; clear HC4
  by_cases c8 : t500 = true
  ·subst c8
   have H1 : (sawtoothref12_At.j0 k a1 (!a0_0) a0_0 a0_1 a0_2 a0_3 a0_4 a0_5) = some r := by rw [if_pos rfl] at H; exact H
   clear H; have H := H1; clear H1; have H' := Aside0.mk H; clear H; have hcz9_0 := czZ BK499 0 (.bool a0_0); have hcz9_1 := czZ BK499 1 (.int .i64 a0_1); have hcz9_2 := czZ BK499 2 (.int .i64 a0_2); have hcz9_3 := czZ BK499 3 (.int .i64 a0_3); have hcz9_4 := czZ BK499 4 (.int .i64 a0_4); have hcz9_5 := czZ BK499 5 (.int .i64 a0_5); have hfz9_0 := blk_frozen BK499.out 0; have hfz9_1 := blk_frozen BK499.out 1; have hfz9_2 := blk_frozen BK499.out 2; have hfz9_3 := blk_frozen BK499.out 3; have hfz9_4 := blk_frozen BK499.out 4; have hfz9_5 := blk_frozen BK499.out 5
   go_wp2
   go_meet
   case rel => exact ⟨_, (!a0_0), (by first | rfl | (simp; done) | (simp [*]; done)), H', ⟨by first | omega | exact Nat.le_refl _⟩, ⟨by (with_reducible repeat first | apply blk_drewN | apply blk_drew | apply blk_alloc); exact BK499.out⟩, ⟨by repeat (first | (with_reducible first | exact HB.out | apply below_alloc | apply pw_below_drewN | apply below_drew1 | refine below_set ?_ GE499.out) | exact HB.out)⟩⟩
  ·replace c8 := Bool.eq_false_iff.mpr c8
   subst c8
   have H1 : (sawtoothref12_At.j0 k a1 true a0_0 a0_1 a0_2 a0_3 a0_4 a0_5) = some r := by rw [if_neg (show ¬ (false = true) by decide)] at H; exact H
   clear H; have H := H1; clear H1; have H' := Aside0.mk H; clear H
   go_wp2
   go_meet
   case rel => exact ⟨_, (true), (by first | rfl | (simp; done) | (simp [*]; done)), H', ⟨by first | omega | exact Nat.le_refl _⟩, ⟨by (with_reducible repeat first | apply blk_drewN | apply blk_drew | apply blk_alloc); exact BK499.out⟩, ⟨by repeat (first | (with_reducible first | exact HB.out | apply below_alloc | apply pw_below_drewN | apply below_drew1 | refine below_set ?_ GE499.out) | exact HB.out)⟩⟩
 case rest =>
  clear HC4
  try clear c1
  try clear c2
  try clear p2
  try clear c8
  try clear hcz6_0
  try clear hcz6_1
  try clear hcz6_2
  try clear hcz6_3
  try clear hcz6_4
  try clear hcz6_5
  try clear hcz9_0
  try clear hcz9_1
  try clear hcz9_2
  try clear hcz9_3
  try clear hcz9_4
  try clear hcz9_5
  try clear hfz6_0
  try clear hfz6_1
  try clear hfz6_2
  try clear hfz6_3
  try clear hfz6_4
  try clear hfz6_5
  try clear hfz9_0
  try clear hfz9_1
  try clear hfz9_2
  try clear hfz9_3
  try clear hfz9_4
  try clear hfz9_5
  obtain ⟨kq, x15_3, rfl, HA, HJ3, BK499, HB⟩ := hcut
  cases kq with
  | zero => exact absurd HA.out (by simp [sawtoothref12_At.j0])
  | succ kj3 =>
   have H := HA.out; clear HA; simp only [sawtoothref12_At.j0] at H
   by_cases c10 : x15_3 = true
   ·subst c10
    have H1 : (some 0) = some r := by rw [if_pos rfl] at H; exact H
    clear H; have H := H1; clear H1; obtain rfl := Option.some.inj H
    go_wp2
    go_ret
    exact ⟨by first | rfl | (simp [errW_none, errW_some] <;> rfl) | (simp [*, errW_none, errW_some] <;> rfl), by repeat (first | (with_reducible first | exact HB.out | apply below_alloc | apply pw_below_drewN | apply below_drew1 | refine below_set ?_ GE499.out) | exact HB.out)⟩
   ·replace c10 := Bool.eq_false_iff.mpr c10
    subst c10
    have H1 : ((sawtoothref01_SubS.f a1 a0_1).bind fun t501 => ((sawtoothref01_SubS.f t501 a0_4).bind fun t502 => ((sawtoothref12_RiseS.f t502).bind fun t503 => ((sawtoothref01_ClampS.f (wrap64 (a0_3 + t503)) 0 68719476736).bind fun t504 => (some t504))))) = some r := by rw [if_neg (show ¬ (false = true) by decide)] at H; exact H
    clear H; have H := H1; clear H1; replace H := Option.bind_eq_some_iff.mp H; obtain ⟨t501, A110, H⟩ := H; (try dsimp only at H); have A11 := Aside0.mk A110; clear A110; replace H := Option.bind_eq_some_iff.mp H; obtain ⟨t502, A120, H⟩ := H; replace H : ((sawtoothref12_RiseS.f t502).bind fun t503 => ((sawtoothref01_ClampS.f (wrap64 (a0_3 + t503)) 0 68719476736).bind fun t504 => (some t504))) = some r := H; have A12 := Aside0.mk A120; clear A120; replace H := Option.bind_eq_some_iff.mp H; obtain ⟨t503, A130, H⟩ := H; replace H : ((sawtoothref01_ClampS.f (wrap64 (a0_3 + t503)) 0 68719476736).bind fun t504 => (some t504)) = some r := H; have A13 := Aside0.mk A130; clear A130; replace H := Option.bind_eq_some_iff.mp H; obtain ⟨t504, A140, H⟩ := H; replace H : (some t504) = some r := H; have A14 := Aside0.mk A140; clear A140; obtain rfl := Option.some.inj H; have hcz15_0 : wc.cell? ⟨gb499, 0, none⟩ = some (.bool a0_0) := (blk_cell BK499.out 0).trans rfl; have hcz15_1 : wc.cell? ⟨gb499, 1, none⟩ = some (.int .i64 a0_1) := (blk_cell BK499.out 1).trans rfl; have hcz15_2 : wc.cell? ⟨gb499, 2, none⟩ = some (.int .i64 a0_2) := (blk_cell BK499.out 2).trans rfl; have hcz15_3 : wc.cell? ⟨gb499, 3, none⟩ = some (.int .i64 a0_3) := (blk_cell BK499.out 3).trans rfl; have hcz15_4 : wc.cell? ⟨gb499, 4, none⟩ = some (.int .i64 a0_4) := (blk_cell BK499.out 4).trans rfl; have hcz15_5 : wc.cell? ⟨gb499, 5, none⟩ = some (.int .i64 a0_5) := (blk_cell BK499.out 5).trans rfl; have hfz15_0 := blk_frozen BK499.out 0; have hfz15_1 := blk_frozen BK499.out 1; have hfz15_2 := blk_frozen BK499.out 2; have hfz15_3 := blk_frozen BK499.out 3; have hfz15_4 := blk_frozen BK499.out 4; have hfz15_5 := blk_frozen BK499.out 5
    try go_wp2_with (first | ((with_reducible refine gate_callee (f := 40) rfl ?_); refine goesLA_ (some 19) rfl rfl Tryd.func40 rfl #[.int .i64 a1, .int .i64 a0_1] rfl ?_; (with_reducible refine (sawtoothref01_SubS.calls a1 a0_1 t501 _ A11.out).mono ?_); rintro e w16 ⟨rfl, hb⟩; refine ⟨_, rfl, ?_⟩; replace BK499 := bdZ BK499 hb; replace HB := stA hb; clear hb))
    replace BK499 := Aside0.mk (blk_drew BK499.out); replace HB := Aside0.mk (below_drew1 HB.out); refine start_ (n := 10) (S := fun w' => w'.cell? ⟨gb499, 0, none⟩ = some (.bool a0_0) ∧ w'.cell? ⟨gb499, 1, none⟩ = some (.int .i64 a0_1) ∧ w'.cell? ⟨gb499, 2, none⟩ = some (.int .i64 a0_2) ∧ w'.cell? ⟨gb499, 3, none⟩ = some (.int .i64 a0_3) ∧ w'.cell? ⟨gb499, 4, none⟩ = some (.int .i64 a0_4) ∧ w'.cell? ⟨gb499, 5, none⟩ = some (.int .i64 a0_5)) (ds := []) #[N,N,N,N,N,N,N,N,N,N] (by kernel_rfl) rfl rfl ⟨(blk_cell BK499.out 0).trans rfl, (blk_cell BK499.out 1).trans rfl, (blk_cell BK499.out 2).trans rfl, (blk_cell BK499.out 3).trans rfl, (blk_cell BK499.out 4).trans rfl, (blk_cell BK499.out 5).trans rfl⟩ (fun hHeld => ?_); refine with_tabW sawtoothref12_At.tab5 sawtoothref12_At.bits5 (fun HT_ HW_ => ?_)
    generalize w16.drew = w17 at BK499 HB hHeld ⊢
    refine pureA_ (i := 0) (N := some 20) #[Y,N,N,N,N,N,N,N,N,N] rfl rfl (any_of HT_.out (by kernel_rfl)) ?_
    refine pureA_ (i := 2) (N := some 22) #[Y,N,Y,N,N,N,N,N,N,N] rfl rfl (any_of HT_.out (by kernel_rfl)) ?_
    refine pureA_ (i := 3) (N := some 23) #[Y,N,Y,Y,N,N,N,N,N,N] rfl rfl (any_of HT_.out (by kernel_rfl)) ?_
    refine take_ (i := 1) (N := some 21) (v := ?_) (a' := ?_) #[Y,Y,Y,Y,N,N,N,N,N,N] rfl rfl (take_ofW HT_.out HW_.out (by kernel_rfl)) (fun _ _ _ h => h) (Or.inl ⟨by rfl, ?_⟩) hHeld ?_ ?_; rotate_left
    ·rintro w' ⟨s0, s1, s2, s3, s4, s5⟩; go_simp
     with_reducible rfl
    rotate_left
    ·simp only [Act.put, sA, sB, sC, i64_w, i32_w]
     rfl
    refine take_ (i := 4) (N := some 24) (v := ?_) (a' := ?_) #[Y,Y,Y,Y,Y,N,N,N,N,N] rfl rfl (take_ofW HT_.out HW_.out (by kernel_rfl)) (fun _ _ _ h => h) (Or.inl ⟨by rfl, ?_⟩) hHeld ?_ ?_; rotate_left
    ·rintro w' ⟨s0, s1, s2, s3, s4, s5⟩; go_simp
     with_reducible rfl
    rotate_left
    ·simp only [Act.put, sA, sB, sC, i64_w, i32_w]
     rfl
    refine one_ (i := 5) (N := some 25) #[Y,Y,Y,Y,Y,Y,N,N,N,N] rfl rfl (one_of HT_.out (by kernel_rfl)) (by decide) (fun K hK => ?_); refine goesA_ Tryd.func40 rfl #[.int .i64 t501, .int .i64 a0_4] (by rfl) rfl rfl ?_
    with_reducible refine (sawtoothref01_SubS.calls t501 a0_4 t502 _ A12.out).mono ?_
    rintro e w18 ⟨rfl, hb⟩; refine ⟨_, rfl, ?_⟩; replace BK499 := bbZ BK499 hb; replace HB := Aside0.mk (below_step HB.out hb); clear hb; refine hK.out _ _ ⟨(blk_cell BK499.out 0).trans rfl, (blk_cell BK499.out 1).trans rfl, (blk_cell BK499.out 2).trans rfl, (blk_cell BK499.out 3).trans rfl, (blk_cell BK499.out 4).trans rfl, (blk_cell BK499.out 5).trans rfl⟩ (fun hHeld => ?_); clear hK K; refine normA_ (some 25) ?_
    refine one_ (i := 6) (N := some 26) #[Y,Y,Y,Y,Y,Y,Y,N,N,N] rfl rfl (one_of HT_.out (by kernel_rfl)) (by decide) (fun K hK => ?_); refine goesA_ Tryd.func14 rfl #[.int .i64 t502] (by rfl) rfl rfl ?_
    with_reducible refine (sawtoothref12_RiseS.calls t502 t503 _ A13.out).mono ?_
    rintro e w19 ⟨rfl, hb⟩; refine ⟨_, rfl, ?_⟩; replace BK499 := bbZ BK499 hb; replace HB := Aside0.mk (below_step HB.out hb); clear hb; refine hK.out _ _ ⟨(blk_cell BK499.out 0).trans rfl, (blk_cell BK499.out 1).trans rfl, (blk_cell BK499.out 2).trans rfl, (blk_cell BK499.out 3).trans rfl, (blk_cell BK499.out 4).trans rfl, (blk_cell BK499.out 5).trans rfl⟩ (fun hHeld => ?_); clear hK K; refine normA_ (some 26) ?_
    refine pureA_ (i := 7) (N := some 27) #[Y,Y,Y,Y,Y,Y,Y,Y,N,N] rfl rfl (any_of HT_.out (by kernel_rfl)) ?_
    refine one_ (i := 8) (N := some 28) #[Y,Y,Y,Y,Y,Y,Y,Y,Y,N] rfl rfl (one_of HT_.out (by kernel_rfl)) (by decide) (fun K hK => ?_); refine goesA_ Tryd.func36 rfl #[.int .i64 (wrap64 (a0_3 + t503)), .int .i64 0, .int .i64 68719476736] (by rfl) rfl rfl ?_
    with_reducible refine (sawtoothref01_ClampS.calls (wrap64 (a0_3 + t503)) 0 68719476736 t504 _ A14.out).mono ?_
    rintro e w20 ⟨rfl, hb⟩; refine ⟨_, rfl, ?_⟩; replace BK499 := bbZ BK499 hb; replace HB := Aside0.mk (below_step HB.out hb); clear hb; refine hK.out _ _ ⟨(blk_cell BK499.out 0).trans rfl, (blk_cell BK499.out 1).trans rfl, (blk_cell BK499.out 2).trans rfl, (blk_cell BK499.out 3).trans rfl, (blk_cell BK499.out 4).trans rfl, (blk_cell BK499.out 5).trans rfl⟩ (fun hHeld => ?_); clear hK K; refine normA_ (some 28) ?_
    refine pureA_ (i := 9) (N := some 4) #[Y,Y,Y,Y,Y,Y,Y,Y,Y,Y] rfl rfl (any_of HT_.out (by kernel_rfl)) ?_
    refine done_ (done_of HT_.out (by kernel_rfl)) ?_
    try go_wp2
    go_ret
    exact ⟨by first | rfl | (simp [errW_none, errW_some] <;> rfl) | (simp [*, errW_none, errW_some] <;> rfl), by repeat (first | (with_reducible first | exact HB.out | apply below_alloc | apply pw_below_drewN | apply below_drew1 | refine below_set ?_ GE499.out) | exact HB.out)⟩

/-! ### sawtoothref12_AtS: pure, behind function 16 -/
section
open Go.Proofs.YtgakpcfmgcpeaaaDoor.Sp
noncomputable def sawtoothref12_AtS.f (on : Bool) (s : Int) (f : Int) (m : Int) (k : Int) (e : Int) (now : Int) : Option (Int) := need ((I s) ∧ (I f) ∧ (I m) ∧ (I k) ∧ (I now)) (some (atQ on s f m k e now))
theorem sawtoothref12_AtS.eq {on : Bool} {s : Int} {f : Int} {m : Int} {k : Int} {e : Int} {now : Int} (h1 : I s) (h2 : I f) (h3 : I m) (h4 : I k) (h5 : I now) : sawtoothref12_AtS.f on s f m k e now = some (atQ on s f m k e now) := need_pos ⟨h1, h2, h3, h4, h5⟩
theorem sawtoothref12_At.main {on : Bool} {s : Int} {f : Int} {m : Int} {k : Int} {e : Int} {now : Int} (h1 : I s) (h2 : I f) (h3 : I m) (h4 : I k) (h5 : I now) : sawtoothref12_At.f 1 on s f m k e now = some (atQ on s f m k e now) := by
 unfold sawtoothref12_At.f
 simp only [sawtoothref12_At.j0]
 unfold atQ
 rw [sawtoothref11_CheckS.eq h1 h2 h3]
 simp only [Option.bind_some]
 by_cases c : on = true ∧ eOk on s f m k e = true
 ·obtain ⟨rfl, c2⟩ := c; have kb := eOn_k (eOk_on.1 c2); have mb := eOk_on.1 c2
  unfold eOn at mb
  rw [if_pos c2, if_neg (show ¬ (!true) = true by simp), if_pos (show true = true ∧ eOk true s f m k e = true from ⟨rfl, c2⟩), sawtoothref01_SubS.eq h5 h1]
  simp only [Option.bind_some]
  rw [sawtoothref01_SubS.eq (near_I _) h4]
  simp only [Option.bind_some]
  rw [sawtoothref12_RiseS.eq (near_I _)]
  simp only [Option.bind_some]; have b := riseQ_bd (near (near (now - s) - k))
  rw [w64 (by omega), sawtoothref01_ClampS.eq, riseQ_near]
  simp only [Option.bind_some]
  congr 1
  exact lawQ_near (m := m) (now - s) kb
 ·rw [if_neg c]
  cases on
  ·simp
  ·rw [if_neg (show ¬ eOk true s f m k e = true from fun x => c ⟨rfl, x⟩)]; simp
end
theorem sawtoothref12_AtS.calls (a0_0 : Bool) (a0_1 : Int) (a0_2 : Int) (a0_3 : Int) (a0_4 : Int) (a0_5 : Int) (a1 : Int) (r : Int) (w : World) (h : sawtoothref12_AtS.f a0_0 a0_1 a0_2 a0_3 a0_4 a0_5 a1 = some r) :
  Calls Tryd.prog 16 #[.agg #[.bool a0_0, .int .i64 a0_1, .int .i64 a0_2, .int .i64 a0_3, .int .i64 a0_4, .int .i64 a0_5], .int .i64 a1] w fun e w' => e = .returned (.int .i64 r) ∧ Below w.heap.size w w' := by
 obtain ⟨hc, h⟩ := Sp.need_some h; obtain ⟨h1, h2, h3, h4, h5⟩ := hc; exact sawtoothref12_At.calls 1 a0_0 a0_1 a0_2 a0_3 a0_4 a0_5 a1 r w (by rw [sawtoothref12_At.main h1 h2 h3 h4 h5]; exact h)

end Go.Proofs.YtgakpcfmgcpeaaaDoor.Px
