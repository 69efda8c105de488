/- Printed by a program of this session (wip/tool/px.py), over the kit's print: for each Go function a Lean function, and the proof that the machine's call answers as that function says. Conditions: none beside what the theorems state. -/
import Derived.Test.YtidpdaiolkcgnaaPx0
import Derived.Test.YtidpdaiolkcgnaaPx27
import Derived.Test.YtidpdaiolkcgnaaSpec
namespace Go.Proofs.Ytidpdaiolkcgnaa.Px
open Go.RowKit Go.Proofs.YtidpdaiolkcgnaaW.PrintWords Go.Proofs.YtidpdaiolkcgnaaW.PrintLast Go.Proofs.YtidpdaiolkcgnaaW.PrintMore
attribute [local go_sem] max2_int min2_int max_two min_two max_three min_three max_four min_four   -- for this text's walks alone
set_option linter.unusedVariables false
set_option linter.unusedSimpArgs false

/-! ### sawtoothref01_PlusS: pure, behind function 41 -/
section
open Go.Proofs.Ytidpdaiolkcgnaa.Sp
noncomputable def sawtoothref01_PlusS.f (a : Int) (b : Int) : Option (Int × Int) := need (I a ∧ I b) (fit (a + b))
theorem sawtoothref01_PlusS.eq {a : Int} {b : Int} (h1 : I a) (h2 : I b) : sawtoothref01_PlusS.f a b = fit (a + b) := need_pos ⟨h1, h2⟩
theorem sawtoothref01_Plus.main {a : Int} {b : Int} (h1 : I a) (h2 : I b) : sawtoothref01_Plus.f a b = fit (a + b) := by
 unfold sawtoothref01_Plus.f fit
 by_cases p : b > 0
 ·have q : ¬ b < 0 := by omega
  simp only [if_pos p, if_neg q]
  rw [w64 (x := 9223372036854775807 - b) (by omega)]
  by_cases c : I (a + b)
  ·rw [if_neg (by omega), if_pos c, w64 c]
  ·rw [if_pos (by omega), if_neg c]
 ·simp only [if_neg p]
  by_cases q : b < 0
  ·rw [if_pos q, w64 (x := -9223372036854775808 - b) (by omega)]
   by_cases c : I (a + b)
   ·rw [if_neg (by omega), if_pos c, w64 c]
   ·rw [if_pos (by omega), if_neg c]
  ·rw [if_neg q, if_pos (by omega), w64 (by omega)]
end
theorem sawtoothref01_PlusS.calls (a0 : Int) (a1 : Int) (r1 : Int) (r2 : Int) (w : World) (h : sawtoothref01_PlusS.f a0 a1 = some (r1, r2)) :
  Calls Try.prog 41 #[.int .i64 a0, .int .i64 a1] w fun e w' => e = .returned (.tuple #[.int .i64 r1, .int .i64 r2]) ∧ Drawn0 w w' := by
 obtain ⟨hc, h⟩ := Go.Proofs.Ytidpdaiolkcgnaa.Sp.need_some h; obtain ⟨h1, h2⟩ := hc; exact sawtoothref01_Plus.calls a0 a1 r1 r2 w (by rw [sawtoothref01_Plus.main h1 h2]; exact h)

/-! ### sawtoothref01_Add: function 25 -/
noncomputable def sawtoothref01_Add.j0 : Nat → Int → Int → Bool → Option (Int)
 | 0, _, _, _ => none
 | k + 1, x5, x6, x18 => if x18 = true then (some (-9223372036854775808)) else (if x6 = 0 then (some x5) else (some 9223372036854775807))
noncomputable def sawtoothref01_Add.f (k : Nat) (a0 : Int) (a1 : Int) : Option (Int) := (sawtoothref01_PlusS.f a0 a1).bind fun bt304 => (if bt304.2 = 0 then (sawtoothref01_Add.j0 k bt304.1 bt304.2 false) else (sawtoothref01_Add.j0 k bt304.1 bt304.2 (decide (a0 < 0))))
theorem sawtoothref01_Add.mono_l : ∀ k, (∀ y0 y1 y2, LeO (sawtoothref01_Add.j0 k y0 y1 y2) (sawtoothref01_Add.j0 (k + 1) y0 y1 y2))
 | 0 => fun _ _ _ r h => by simp [sawtoothref01_Add.j0] at h
 | k + 1 => by
  have ih0 := sawtoothref01_Add.mono_l k
  ·intro y0 y1 y2
   unfold sawtoothref01_Add.j0
   repeat' first
   | (with_reducible exact ih0 _ _ _)
   | (with_reducible exact LeO.refl _)
   | (with_reducible exact LeO.none _)
   | (with_reducible refine LeO.ite ?_ ?_)
   | (with_reducible refine LeO.bind ?_ (fun _ => ?_))
   | exact ih0 _ _ _
   | exact LeO.none _
   | refine LeO.ite ?_ ?_
   | refine LeO.bind ?_ (fun _ => ?_)
theorem sawtoothref01_Add.mono : ∀ a0 a1 k, LeO (sawtoothref01_Add.f k a0 a1) (sawtoothref01_Add.f (k + 1) a0 a1) := by
 intro a0 a1 k; have ih0 := sawtoothref01_Add.mono_l k
 unfold sawtoothref01_Add.f
 repeat' first
   | (with_reducible exact ih0 _ _ _)
   | (with_reducible exact LeO.refl _)
   | (with_reducible exact LeO.none _)
   | (with_reducible refine LeO.ite ?_ ?_)
   | (with_reducible refine LeO.bind ?_ (fun _ => ?_))
   | exact ih0 _ _ _
   | exact LeO.none _
   | refine LeO.ite ?_ ?_
   | refine LeO.bind ?_ (fun _ => ?_)
set_option maxHeartbeats 8000000 in
set_option maxRecDepth 100000 in
theorem sawtoothref01_Add.calls (k : Nat) (a0 : Int) (a1 : Int) (r : Int) (w : World) (h : sawtoothref01_Add.f k a0 a1 = some r) :
  Calls Try.prog 25 #[.int .i64 a0, .int .i64 a1] w fun e w' => e = .returned (.int .i64 r) ∧ Drawn0 w w' := by
 have H : ((sawtoothref01_PlusS.f a0 a1).bind fun bt304 => (if bt304.2 = 0 then (sawtoothref01_Add.j0 k bt304.1 bt304.2 false) else (sawtoothref01_Add.j0 k bt304.1 bt304.2 (decide (a0 < 0))))) = some r := h; clear h; replace H := Option.bind_eq_some_iff.mp H; obtain ⟨⟨t304, t305⟩, A30, H⟩ := H; replace H : (if t305 = 0 then (sawtoothref01_Add.j0 k t304 t305 false) else (sawtoothref01_Add.j0 k t304 t305 (decide (a0 < 0)))) = some r := H; have A3 := Aside0.mk A30; clear A30; have HC4 := Aside0.mk H; clear H
 go_enter Try.func25, Try.ntmps25
 go_upto_region 2 with (first | ((with_reducible refine gate_callee (f := 41) rfl ?_); refine goesLA_ (some 10) rfl rfl Try.func41 rfl #[.int .i64 a0, .int .i64 a1] rfl ?_; (with_reducible refine (sawtoothref01_PlusS.calls a0 a1 t304 t305 _ A3.out).mono ?_); rintro e w' ⟨rfl, ⟨nd, rfl⟩⟩; refine ⟨_, rfl, ?_⟩))
 (try simp only [Act.put, sA, sB, sC])
 go_cut [18] (fun v18 wc => ∃ (kq : Nat) (x18_3 : Bool), v18 = .bool x18_3 ∧ Aside0 (sawtoothref01_Add.j0 kq t304 t305 x18_3 = some r) ∧ Aside0 (kq ≤ k) ∧ Drawn0 w wc)
 case first =>
  have H := HC4.out; clear HC4
  by_cases c5 : t305 = 0
  ·rw [if_pos c5] at H
   have c5b0 : (t305 == 0) = true := beq_iff_eq.mpr c5; have c5b1 : (t305 != 0) = false := bne_eq_false_iff_eq.mpr c5; clear c5
   (first | rw [c5b0] | (simp only [i64_w, i32_w]; rw [c5b0]) | skip)
   have H' := Aside0.mk H; clear H
   go_wp2
   go_meet
   case rel => exact ⟨_, (false), (by first | rfl | (simp; done) | (simp [*]; done)), H', ⟨by first | omega | exact Nat.le_refl _⟩, by repeat (first | exact Drawn0.refl _ | apply Drawn0.step)⟩
  ·rw [if_neg c5] at H
   have c5b0 : (t305 == 0) = false := beq_eq_false_iff_ne.mpr c5; have c5b1 : (t305 != 0) = true := bne_iff_ne.mpr c5
   (first | rw [c5b0] | (simp only [i64_w, i32_w]; rw [c5b0]) | skip)
   have H' := Aside0.mk H; clear H
   go_wp2
   go_meet
   case rel => exact ⟨_, (decide (a0 < 0)), (by first | rfl | (simp; done) | (simp [*]; done)), H', ⟨by first | omega | exact Nat.le_refl _⟩, by repeat (first | exact Drawn0.refl _ | apply Drawn0.step)⟩
 case rest =>
  clear HC4
  try clear c2
  try clear p2
  try clear c4
  try clear c5
  try clear c5b0
  try clear c5b1
  obtain ⟨kq, x18_3, rfl, HA, HJ3, ⟨mc3, rfl⟩⟩ := hcut
  cases kq with
  | zero => exact absurd HA.out (by simp [sawtoothref01_Add.j0])
  | succ kj3 =>
   have H := HA.out; clear HA; simp only [sawtoothref01_Add.j0] at H
   by_cases c6 : x18_3 = true
   ·subst c6
    have H1 : (some (-9223372036854775808)) = some r := by rw [if_pos rfl] at H; exact H
    clear H; have H := H1; clear H1; obtain rfl := Option.some.inj H
    go_wp2
    go_ret
    exact ⟨by first | rfl | (simp; done) | (simp [*]; done), by repeat (first | exact Drawn0.refl _ | apply Drawn0.step)⟩
   ·replace c6 := Bool.eq_false_iff.mpr c6
    subst c6
    have H1 : (if t305 = 0 then (some t304) else (some 9223372036854775807)) = some r := by rw [if_neg (show ¬ (false = true) by decide)] at H; exact H
    clear H; have H := H1; clear H1
    by_cases c7 : t305 = 0
    ·rw [if_pos c7] at H
     have c7b0 : (t305 == 0) = true := beq_iff_eq.mpr c7; have c7b1 : (t305 != 0) = false := bne_eq_false_iff_eq.mpr c7; clear c7; obtain rfl := Option.some.inj H
     go_wp2
     go_ret
     exact ⟨by first | rfl | (simp; done) | (simp [*]; done), by repeat (first | exact Drawn0.refl _ | apply Drawn0.step)⟩
    ·rw [if_neg c7] at H
     have c7b0 : (t305 == 0) = false := beq_eq_false_iff_ne.mpr c7; have c7b1 : (t305 != 0) = true := bne_iff_ne.mpr c7; obtain rfl := Option.some.inj H
     go_wp2
     go_ret
     exact ⟨by first | rfl | (simp; done) | (simp [*]; done), by repeat (first | exact Drawn0.refl _ | apply Drawn0.step)⟩

/-! ### sawtoothref01_AddS: pure, behind function 25 -/
section
open Go.Proofs.Ytidpdaiolkcgnaa.Sp
noncomputable def sawtoothref01_AddS.f (a : Int) (b : Int) : Option (Int) := need (I a ∧ I b) (some (near (a + b)))
theorem sawtoothref01_AddS.eq {a : Int} {b : Int} (h1 : I a) (h2 : I b) : sawtoothref01_AddS.f a b = some (near (a + b)) := need_pos ⟨h1, h2⟩
theorem sawtoothref01_Add.main {a : Int} {b : Int} (h1 : I a) (h2 : I b) : sawtoothref01_Add.f 1 a b = some (near (a + b)) := by
 unfold sawtoothref01_Add.f
 simp only [sawtoothref01_Add.j0]
 rw [sawtoothref01_PlusS.eq h1 h2]
 by_cases c : I (a + b)
 ·rw [fit_in c, near_in c]; simp
 ·rw [fit_out c]
  by_cases n : a < 0
  ·rw [near_lo (by omega)]; simp [n]
  ·rw [near_hi (by omega)]; simp [n]
end
theorem sawtoothref01_AddS.calls (a0 : Int) (a1 : Int) (r : Int) (w : World) (h : sawtoothref01_AddS.f a0 a1 = some r) :
  Calls Try.prog 25 #[.int .i64 a0, .int .i64 a1] w fun e w' => e = .returned (.int .i64 r) ∧ Below w.heap.size w w' := by
 obtain ⟨hc, h⟩ := Go.Proofs.Ytidpdaiolkcgnaa.Sp.need_some h; obtain ⟨h1, h2⟩ := hc; refine (sawtoothref01_Add.calls 1 a0 a1 r w (by rw [sawtoothref01_Add.main h1 h2]; exact h)).mono (fun e w' hq => ⟨hq.1, ?_⟩); obtain ⟨nd, rfl⟩ := hq.2; exact pw_below_drewN (Below.refl _ _) nd

end Go.Proofs.Ytidpdaiolkcgnaa.Px
