/- Printed by a program of this session (wip/tool/px.py), over the kit's print: for each Go function a Lean function, and the proof that the machine's call answers as that function says. Conditions: none beside what the theorems state. -/
import Derived.Test.YtidpdaiolkcgnaaPx0
import Derived.Test.YtidpdaiolkcgnaaPx29
import Derived.Test.YtidpdaiolkcgnaaSpec
namespace Go.Proofs.Ytidpdaiolkcgnaa.Px
open Go.RowKit Go.Proofs.YtidpdaiolkcgnaaW.PrintWords Go.Proofs.YtidpdaiolkcgnaaW.PrintLast Go.Proofs.YtidpdaiolkcgnaaW.PrintMore
attribute [local go_sem] max2_int min2_int max_two min_two max_three min_three max_four min_four   -- for this text's walks alone
set_option linter.unusedVariables false
set_option linter.unusedSimpArgs false

/-! ### sawtoothref01_Mul: function 26 -/
noncomputable def sawtoothref01_Mul.j0 : Nat → Int → Int → Bool → Option (Int)
 | 0, _, _, _ => none
 | k + 1, x5, x6, x21 => if x21 = true then (some (-9223372036854775808)) else (if x6 = 0 then (some x5) else (some 9223372036854775807))
noncomputable def sawtoothref01_Mul.f (k : Nat) (a0 : Int) (a1 : Int) : Option (Int) := (sawtoothref01_Times.f a0 a1).bind fun bt306 => (if bt306.2 = 0 then (sawtoothref01_Mul.j0 k bt306.1 bt306.2 false) else (sawtoothref01_Mul.j0 k bt306.1 bt306.2 ((decide (a0 > 0)) != (decide (a1 > 0)))))
theorem sawtoothref01_Mul.mono_l : ∀ k, (∀ y0 y1 y2, LeO (sawtoothref01_Mul.j0 k y0 y1 y2) (sawtoothref01_Mul.j0 (k + 1) y0 y1 y2))
 | 0 => fun _ _ _ r h => by simp [sawtoothref01_Mul.j0] at h
 | k + 1 => by
  have ih0 := sawtoothref01_Mul.mono_l k
  ·intro y0 y1 y2
   unfold sawtoothref01_Mul.j0
   repeat' first
   | (with_reducible exact ih0 _ _ _)
   | (with_reducible exact LeO.refl _)
   | (with_reducible exact LeO.none _)
   | (with_reducible refine LeO.ite ?_ ?_)
   | (with_reducible refine LeO.bind ?_ (fun _ => ?_))
   | exact ih0 _ _ _
   | exact LeO.none _
   | refine LeO.ite ?_ ?_
   | refine LeO.bind ?_ (fun _ => ?_)
theorem sawtoothref01_Mul.mono : ∀ a0 a1 k, LeO (sawtoothref01_Mul.f k a0 a1) (sawtoothref01_Mul.f (k + 1) a0 a1) := by
 intro a0 a1 k; have ih0 := sawtoothref01_Mul.mono_l k
 unfold sawtoothref01_Mul.f
 repeat' first
   | (with_reducible exact ih0 _ _ _)
   | (with_reducible exact LeO.refl _)
   | (with_reducible exact LeO.none _)
   | (with_reducible refine LeO.ite ?_ ?_)
   | (with_reducible refine LeO.bind ?_ (fun _ => ?_))
   | exact ih0 _ _ _
   | exact LeO.none _
   | refine LeO.ite ?_ ?_
   | refine LeO.bind ?_ (fun _ => ?_)
set_option maxHeartbeats 8000000 in
set_option maxRecDepth 100000 in
theorem sawtoothref01_Mul.calls (k : Nat) (a0 : Int) (a1 : Int) (r : Int) (w : World) (h : sawtoothref01_Mul.f k a0 a1 = some r) :
  Calls Try.prog 26 #[.int .i64 a0, .int .i64 a1] w fun e w' => e = .returned (.int .i64 r) ∧ Drawn0 w w' := by
 have H : ((sawtoothref01_Times.f a0 a1).bind fun bt306 => (if bt306.2 = 0 then (sawtoothref01_Mul.j0 k bt306.1 bt306.2 false) else (sawtoothref01_Mul.j0 k bt306.1 bt306.2 ((decide (a0 > 0)) != (decide (a1 > 0)))))) = some r := h; clear h; replace H := Option.bind_eq_some_iff.mp H; obtain ⟨⟨t306, t307⟩, A30, H⟩ := H; replace H : (if t307 = 0 then (sawtoothref01_Mul.j0 k t306 t307 false) else (sawtoothref01_Mul.j0 k t306 t307 ((decide (a0 > 0)) != (decide (a1 > 0))))) = some r := H; have A3 := Aside0.mk A30; clear A30; have HC4 := Aside0.mk H; clear H
 go_enter Try.func26, Try.ntmps26
 go_upto_region 2 with (first | ((with_reducible refine gate_callee (f := 42) rfl ?_); refine goesLA_ (some 10) rfl rfl Try.func42 rfl #[.int .i64 a0, .int .i64 a1] rfl ?_; (with_reducible refine (sawtoothref01_Times.calls a0 a1 t306 t307 _ A3.out).mono ?_); rintro e w' ⟨rfl, ⟨nd, rfl⟩⟩; refine ⟨_, rfl, ?_⟩))
 (try simp only [Act.put, sA, sB, sC])
 go_cut [21] (fun v21 wc => ∃ (kq : Nat) (x21_3 : Bool), v21 = .bool x21_3 ∧ Aside0 (sawtoothref01_Mul.j0 kq t306 t307 x21_3 = some r) ∧ Aside0 (kq ≤ k) ∧ Drawn0 w wc)
 case first =>
  have H := HC4.out; clear HC4
  by_cases c5 : t307 = 0
  ·rw [if_pos c5] at H
   have c5b0 : (t307 == 0) = true := beq_iff_eq.mpr c5; have c5b1 : (t307 != 0) = false := bne_eq_false_iff_eq.mpr c5; clear c5
   (first | rw [c5b0] | (simp only [i64_w, i32_w]; rw [c5b0]) | skip)
   have H' := Aside0.mk H; clear H
   go_wp2
   go_meet
   case rel => exact ⟨_, (false), (by first | rfl | (simp; done) | (simp [*]; done)), H', ⟨by first | omega | exact Nat.le_refl _⟩, by repeat (first | exact Drawn0.refl _ | apply Drawn0.step)⟩
  ·rw [if_neg c5] at H
   have c5b0 : (t307 == 0) = false := beq_eq_false_iff_ne.mpr c5; have c5b1 : (t307 != 0) = true := bne_iff_ne.mpr c5
   (first | rw [c5b0] | (simp only [i64_w, i32_w]; rw [c5b0]) | skip)
   have H' := Aside0.mk H; clear H
   go_wp2
   go_meet
   case rel => exact ⟨_, (((decide (a0 > 0)) != (decide (a1 > 0)))), (by first | rfl | (simp; done) | (simp [*]; done)), H', ⟨by first | omega | exact Nat.le_refl _⟩, by repeat (first | exact Drawn0.refl _ | apply Drawn0.step)⟩
 case rest =>
  clear HC4
  try clear c2
  try clear p2
  try clear c4
  try clear c5
  try clear c5b0
  try clear c5b1
  obtain ⟨kq, x21_3, rfl, HA, HJ3, ⟨mc3, rfl⟩⟩ := hcut
  cases kq with
  | zero => exact absurd HA.out (by simp [sawtoothref01_Mul.j0])
  | succ kj3 =>
   have H := HA.out; clear HA; simp only [sawtoothref01_Mul.j0] at H
   by_cases c6 : x21_3 = true
   ·subst c6
    have H1 : (some (-9223372036854775808)) = some r := by rw [if_pos rfl] at H; exact H
    clear H; have H := H1; clear H1; obtain rfl := Option.some.inj H
    go_wp2
    go_ret
    exact ⟨by first | rfl | (simp; done) | (simp [*]; done), by repeat (first | exact Drawn0.refl _ | apply Drawn0.step)⟩
   ·replace c6 := Bool.eq_false_iff.mpr c6
    subst c6
    have H1 : (if t307 = 0 then (some t306) else (some 9223372036854775807)) = some r := by rw [if_neg (show ¬ (false = true) by decide)] at H; exact H
    clear H; have H := H1; clear H1
    by_cases c7 : t307 = 0
    ·rw [if_pos c7] at H
     have c7b0 : (t307 == 0) = true := beq_iff_eq.mpr c7; have c7b1 : (t307 != 0) = false := bne_eq_false_iff_eq.mpr c7; clear c7; obtain rfl := Option.some.inj H
     go_wp2
     go_ret
     exact ⟨by first | rfl | (simp; done) | (simp [*]; done), by repeat (first | exact Drawn0.refl _ | apply Drawn0.step)⟩
    ·rw [if_neg c7] at H
     have c7b0 : (t307 == 0) = false := beq_eq_false_iff_ne.mpr c7; have c7b1 : (t307 != 0) = true := bne_iff_ne.mpr c7; obtain rfl := Option.some.inj H
     go_wp2
     go_ret
     exact ⟨by first | rfl | (simp; done) | (simp [*]; done), by repeat (first | exact Drawn0.refl _ | apply Drawn0.step)⟩

/-! ### sawtoothref01_MulS: pure, behind function 26 -/
section
open Go.Proofs.Ytidpdaiolkcgnaa.Sp
noncomputable def sawtoothref01_MulS.f (a : Int) (b : Int) : Option (Int) := need (I a ∧ I b) (some (near (a * b)))
theorem sawtoothref01_MulS.eq {a : Int} {b : Int} (h1 : I a) (h2 : I b) : sawtoothref01_MulS.f a b = some (near (a * b)) := need_pos ⟨h1, h2⟩
theorem sawtoothref01_Mul.main {a : Int} {b : Int} (h1 : I a) (h2 : I b) : sawtoothref01_Mul.f 1 a b = some (near (a * b)) := by
 unfold sawtoothref01_Mul.f
 simp only [sawtoothref01_Mul.j0]
 rw [sawtoothref01_Times.eq h1 h2]
 by_cases c : I (a * b)
 ·rw [fit_in c, near_in c]; simp
 ·rw [fit_out c]
  have m := mul_sign a b
  have a0 : a ≠ 0 := by rintro rfl; simp at c
  have b0 : b ≠ 0 := by rintro rfl; simp at c
  have ea : decide (a > 0) = !decide (a < 0) := by by_cases x : a < 0 <;> simp [x] <;> omega
  have eb : decide (b > 0) = !decide (b < 0) := by by_cases x : b < 0 <;> simp [x] <;> omega
  have ex : (decide (a > 0) != decide (b > 0)) = (decide (a < 0) != decide (b < 0)) := by rw [ea, eb]; cases decide (a < 0) <;> cases decide (b < 0) <;> rfl
  simp only [Option.bind_some]
  rw [ex]
  cases s : (decide (a < 0) != decide (b < 0))
  ·rw [near_hi (by have := m.2 s; omega)]; simp
  ·rw [near_lo (by have := m.1 s; omega)]; simp
end
theorem sawtoothref01_MulS.calls (a0 : Int) (a1 : Int) (r : Int) (w : World) (h : sawtoothref01_MulS.f a0 a1 = some r) :
  Calls Try.prog 26 #[.int .i64 a0, .int .i64 a1] w fun e w' => e = .returned (.int .i64 r) ∧ Below w.heap.size w w' := by
 obtain ⟨hc, h⟩ := Go.Proofs.Ytidpdaiolkcgnaa.Sp.need_some h; obtain ⟨h1, h2⟩ := hc; refine (sawtoothref01_Mul.calls 1 a0 a1 r w (by rw [sawtoothref01_Mul.main h1 h2]; exact h)).mono (fun e w' hq => ⟨hq.1, ?_⟩); obtain ⟨nd, rfl⟩ := hq.2; exact pw_below_drewN (Below.refl _ _) nd

/-! ### sawtoothref01_Clamp: function 43 -/
noncomputable def sawtoothref01_Clamp.f (a0 : Int) (a1 : Int) (a2 : Int) : Option (Int) := if a0 < a1 then (some a1) else (if a0 > a2 then (some a2) else (some a0))
set_option maxHeartbeats 8000000 in
set_option maxRecDepth 100000 in
theorem sawtoothref01_Clamp.calls (a0 : Int) (a1 : Int) (a2 : Int) (r : Int) (w : World) (h : sawtoothref01_Clamp.f a0 a1 a2 = some r) :
  Calls Try.prog 43 #[.int .i64 a0, .int .i64 a1, .int .i64 a2] w fun e w' => e = .returned (.int .i64 r) ∧ Drawn0 w w' := by
 have H : (if a0 < a1 then (some a1) else (if a0 > a2 then (some a2) else (some a0))) = some r := h; clear h
 by_cases c4 : a0 < a1
 ·rw [if_pos c4] at H
  have c4b0 : decide (a0 < a1) = true := decide_eq_true c4; clear c4; obtain rfl := Option.some.inj H
  go_enter Try.func43, Try.ntmps43
  go_wp2
  go_ret
  exact ⟨by first | rfl | (simp; done) | (simp [*]; done), by repeat (first | exact Drawn0.refl _ | apply Drawn0.step)⟩
 ·rw [if_neg c4] at H
  have c4b0 : decide (a0 < a1) = false := decide_eq_false c4; clear c4
  by_cases c5 : a0 > a2
  ·rw [if_pos c5] at H
   have c5b0 : decide (a2 < a0) = true := decide_eq_true c5; clear c5; obtain rfl := Option.some.inj H
   go_enter Try.func43, Try.ntmps43
   go_wp2
   go_ret
   exact ⟨by first | rfl | (simp; done) | (simp [*]; done), by repeat (first | exact Drawn0.refl _ | apply Drawn0.step)⟩
  ·rw [if_neg c5] at H
   have c5b0 : decide (a2 < a0) = false := decide_eq_false c5; clear c5; obtain rfl := Option.some.inj H
   go_enter Try.func43, Try.ntmps43
   go_wp2
   go_ret
   exact ⟨by first | rfl | (simp; done) | (simp [*]; done), by repeat (first | exact Drawn0.refl _ | apply Drawn0.step)⟩

/-! ### sawtoothref01_ClampS: pure, behind function 43 -/
section
open Go.Proofs.Ytidpdaiolkcgnaa.Sp
noncomputable def sawtoothref01_ClampS.f (a : Int) (b : Int) (c : Int) : Option (Int) := some (clamp a b c)
theorem sawtoothref01_ClampS.eq {a : Int} {b : Int} {c : Int}  : sawtoothref01_ClampS.f a b c = some (clamp a b c) := rfl
theorem sawtoothref01_Clamp.main {a : Int} {b : Int} {c : Int}  : sawtoothref01_Clamp.f a b c = some (clamp a b c) := by
 unfold sawtoothref01_Clamp.f clamp
 (repeat' split) <;> first | rfl | (exfalso; omega)
end
theorem sawtoothref01_ClampS.calls (a0 : Int) (a1 : Int) (a2 : Int) (r : Int) (w : World) (h : sawtoothref01_ClampS.f a0 a1 a2 = some r) :
  Calls Try.prog 43 #[.int .i64 a0, .int .i64 a1, .int .i64 a2] w fun e w' => e = .returned (.int .i64 r) ∧ Below w.heap.size w w' := by
 refine (sawtoothref01_Clamp.calls a0 a1 a2 r w (by rw [sawtoothref01_Clamp.main ]; exact h)).mono (fun e w' hq => ⟨hq.1, ?_⟩); obtain ⟨nd, rfl⟩ := hq.2; exact pw_below_drewN (Below.refl _ _) nd

/-! ### sawtoothref18_taken: function 27 -/
noncomputable def sawtoothref18_taken.f (a0 : Int) : Option (Int) := (sawtoothref01_ClampS.f a0 0 1099511627776).bind fun t308 => (some t308)
set_option maxHeartbeats 8000000 in
set_option maxRecDepth 100000 in
theorem sawtoothref18_taken.calls (a0 : Int) (r : Int) (w : World) (h : sawtoothref18_taken.f a0 = some r) :
  Calls Try.prog 27 #[.int .i64 a0] w fun e w' => e = .returned (.int .i64 r) ∧ Below w.heap.size w w' := by
 have HB := Aside0.mk (Below.refl w.heap.size w); have H : ((sawtoothref01_ClampS.f a0 0 1099511627776).bind fun t308 => (some t308)) = some r := h; clear h; replace H := Option.bind_eq_some_iff.mp H; obtain ⟨t308, A20, H⟩ := H; replace H : (some t308) = some r := H; have A2 := Aside0.mk A20; clear A20; obtain rfl := Option.some.inj H
 go_enter Try.func27, Try.ntmps27
 go_wp2_with (first | ((with_reducible refine gate_callee (f := 43) rfl ?_); refine goesLA_ (some 4) rfl rfl Try.func43 rfl #[.int .i64 a0, .int .i64 0, .int .i64 1099511627776] rfl ?_; (with_reducible refine (sawtoothref01_ClampS.calls a0 0 1099511627776 t308 _ A2.out).mono ?_); rintro e w3 ⟨rfl, hb⟩; refine ⟨_, rfl, ?_⟩; replace HB := stA hb; clear hb))
 go_ret
 exact ⟨by first | rfl | (simp [errW_none, errW_some] <;> rfl) | (simp [*, errW_none, errW_some] <;> rfl), by repeat (first | (with_reducible first | exact HB.out | apply below_alloc | apply pw_below_drewN | apply below_drew1) | exact HB.out)⟩

/-! ### sawtoothref18_Top: function 28 -/
noncomputable def sawtoothref18_Top.f (a0 : Int) : Option (Int) := (sawtoothref18_taken.f a0).bind fun t309 => (some (wrap64 (t309 * 1000000)))
set_option maxHeartbeats 8000000 in
set_option maxRecDepth 100000 in
theorem sawtoothref18_Top.calls (a0 : Int) (r : Int) (w : World) (h : sawtoothref18_Top.f a0 = some r) :
  Calls Try.prog 28 #[.int .i64 a0] w fun e w' => e = .returned (.int .i64 r) ∧ Below w.heap.size w w' := by
 have HB := Aside0.mk (Below.refl w.heap.size w); have H : ((sawtoothref18_taken.f a0).bind fun t309 => (some (wrap64 (t309 * 1000000)))) = some r := h; clear h; replace H := Option.bind_eq_some_iff.mp H; obtain ⟨t309, A20, H⟩ := H; replace H : (some (wrap64 (t309 * 1000000))) = some r := H; have A2 := Aside0.mk A20; clear A20; obtain rfl := Option.some.inj H
 go_enter Try.func28, Try.ntmps28
 go_wp2_with (first | ((with_reducible refine gate_callee (f := 27) rfl ?_); refine goesLA_ (some 4) rfl rfl Try.func27 rfl #[.int .i64 a0] rfl ?_; (with_reducible refine (sawtoothref18_taken.calls a0 t309 _ A2.out).mono ?_); rintro e w3 ⟨rfl, hb⟩; refine ⟨_, rfl, ?_⟩; replace HB := stA hb; clear hb))
 go_ret
 exact ⟨by first | rfl | (simp [errW_none, errW_some] <;> rfl) | (simp [*, errW_none, errW_some] <;> rfl), by repeat (first | (with_reducible first | exact HB.out | apply below_alloc | apply pw_below_drewN | apply below_drew1) | exact HB.out)⟩

end Go.Proofs.Ytidpdaiolkcgnaa.Px
