/- Printed by a program of this session (wip/tool/px.py), over the kit's print: for each Go function a Lean function, and the proof that the machine's call answers as that function says. Conditions: none beside what the theorems state. -/
import Derived.Test.YtepmnfjcmppghaaPx0
import Derived.Test.YtepmnfjcmppghaaPx3
import Derived.Test.YtepmnfjcmppghaaPx23
import Derived.Test.YtepmnfjcmppghaaPx31
namespace Go.Proofs.Ytepmnfjcmppghaa.Px
open Go.RowKit Go.Proofs.YtepmnfjcmppghaaW.PrintWords Go.Proofs.YtepmnfjcmppghaaW.PrintLast Go.Proofs.YtepmnfjcmppghaaW.PrintMore
attribute [local go_sem] max2_int min2_int max_two min_two max_three min_three max_four min_four   -- for this text's walks alone
set_option linter.unusedVariables false
set_option linter.unusedSimpArgs false

/-! ### sawtoothlaw13_RenoTells: function 8 -/
mutual
noncomputable def sawtoothlaw13_RenoTells.j0 : Nat → Int → Int → Int → List Int → Bool → Bool → Option (Bool)
 | 0, _, _, _, _, _, _ => none
 | k + 1, x0, x1, x2, x3, x9, x12 => sawtoothlaw13_RenoTells.l0 k x0 x1 x2 x3 x9 x12 0
noncomputable def sawtoothlaw13_RenoTells.l0 : Nat → Int → Int → Int → List Int → Bool → Bool → Int → Option (Bool)
 | 0, _, _, _, _, _, _, _ => none
 | k + 1, x0, x1, x2, x3, x9, x12, x13 => if x13 < (x3.length : Int) then (if 0 ≤ x13 then ((reno_StepS.f x0 x1 x2 (rd x3 x13)).bind fun t409 => ((sawtoothref13_StepS.f x0 x1 x2 (rd x3 x13)).bind fun t411 => (if t409 = t411 then (sawtoothlaw13_RenoTells.l0 k x0 x1 x2 x3 x9 x12 (wrap64 (x13 + 1))) else (none)))) else (none)) else (if x9 = true then (if x12 = true then ((reno_StepsS.f x0 x1 x2 x3).bind fun t406 => ((sawtoothref13_StepsS.f x0 x1 x2 x3).bind fun t407 => (some (t406 == t407)))) else (none)) else (none))
end
noncomputable def sawtoothlaw13_RenoTells.f (k : Nat) (a0 : Int) (a1 : Int) (a2 : Int) (l3 : List Int) : Option (Bool) := (sawtoothlaw13_awakeS.f).bind fun t403 => (if (l3.length : Int) > 100 then (some t403) else ((reno_Part.f a0 a1).bind fun bt404 => (if a0 < a1 then (if bt404.1 = 9 then (if bt404.2 = 17 then (sawtoothlaw13_RenoTells.j0 k a0 a1 a2 l3 t403 true) else (if a0 ≥ a1 then (if bt404.1 = 1 then (none) else (sawtoothlaw13_RenoTells.j0 k a0 a1 a2 l3 t403 false)) else (sawtoothlaw13_RenoTells.j0 k a0 a1 a2 l3 t403 false))) else (if a0 ≥ a1 then (if bt404.1 = 1 then (sawtoothlaw13_RenoTells.j0 k a0 a1 a2 l3 t403 (bt404.2 == 1)) else (sawtoothlaw13_RenoTells.j0 k a0 a1 a2 l3 t403 false)) else (sawtoothlaw13_RenoTells.j0 k a0 a1 a2 l3 t403 false))) else (if a0 ≥ a1 then (if bt404.1 = 1 then (sawtoothlaw13_RenoTells.j0 k a0 a1 a2 l3 t403 (bt404.2 == 1)) else (sawtoothlaw13_RenoTells.j0 k a0 a1 a2 l3 t403 false)) else (sawtoothlaw13_RenoTells.j0 k a0 a1 a2 l3 t403 false)))))
theorem sawtoothlaw13_RenoTells.mono_l : ∀ k, (∀ y0 y1 y2 y3 y4 y5, LeO (sawtoothlaw13_RenoTells.j0 k y0 y1 y2 y3 y4 y5) (sawtoothlaw13_RenoTells.j0 (k + 1) y0 y1 y2 y3 y4 y5)) ∧ (∀ y0 y1 y2 y3 y4 y5 y6, LeO (sawtoothlaw13_RenoTells.l0 k y0 y1 y2 y3 y4 y5 y6) (sawtoothlaw13_RenoTells.l0 (k + 1) y0 y1 y2 y3 y4 y5 y6))
 | 0 => ⟨fun _ _ _ _ _ _ r h => by simp [sawtoothlaw13_RenoTells.j0] at h, fun _ _ _ _ _ _ _ r h => by simp [sawtoothlaw13_RenoTells.l0] at h⟩
 | k + 1 => by
  obtain ⟨ih0, ih1⟩ := sawtoothlaw13_RenoTells.mono_l k; refine ⟨?_, ?_⟩
  ·intro y0 y1 y2 y3 y4 y5
   unfold sawtoothlaw13_RenoTells.j0
   repeat' first
   | (with_reducible exact ih0 _ _ _ _ _ _)
   | (with_reducible exact ih1 _ _ _ _ _ _ _)
   | (with_reducible exact LeO.refl _)
   | (with_reducible exact LeO.none _)
   | (with_reducible refine LeO.ite ?_ ?_)
   | (with_reducible refine LeO.bind ?_ (fun _ => ?_))
   | exact ih0 _ _ _ _ _ _
   | exact ih1 _ _ _ _ _ _ _
   | exact LeO.none _
   | refine LeO.ite ?_ ?_
   | refine LeO.bind ?_ (fun _ => ?_)
  ·intro y0 y1 y2 y3 y4 y5 y6
   unfold sawtoothlaw13_RenoTells.l0
   repeat' first
   | (with_reducible exact ih0 _ _ _ _ _ _)
   | (with_reducible exact ih1 _ _ _ _ _ _ _)
   | (with_reducible exact LeO.refl _)
   | (with_reducible exact LeO.none _)
   | (with_reducible refine LeO.ite ?_ ?_)
   | (with_reducible refine LeO.bind ?_ (fun _ => ?_))
   | exact ih0 _ _ _ _ _ _
   | exact ih1 _ _ _ _ _ _ _
   | exact LeO.none _
   | refine LeO.ite ?_ ?_
   | refine LeO.bind ?_ (fun _ => ?_)
theorem sawtoothlaw13_RenoTells.mono : ∀ a0 a1 a2 a3 k, LeO (sawtoothlaw13_RenoTells.f k a0 a1 a2 a3) (sawtoothlaw13_RenoTells.f (k + 1) a0 a1 a2 a3) := by
 intro a0 a1 a2 a3 k; obtain ⟨ih0, ih1⟩ := sawtoothlaw13_RenoTells.mono_l k
 unfold sawtoothlaw13_RenoTells.f
 repeat' first
   | (with_reducible exact ih0 _ _ _ _ _ _)
   | (with_reducible exact ih1 _ _ _ _ _ _ _)
   | (with_reducible exact LeO.refl _)
   | (with_reducible exact LeO.none _)
   | (with_reducible refine LeO.ite ?_ ?_)
   | (with_reducible refine LeO.bind ?_ (fun _ => ?_))
   | exact ih0 _ _ _ _ _ _
   | exact ih1 _ _ _ _ _ _ _
   | exact LeO.none _
   | refine LeO.ite ?_ ?_
   | refine LeO.bind ?_ (fun _ => ?_)
def sawtoothlaw13_RenoTells.T9 : Bool × List (List Nat × List Nat) := (true, [([], []), ([], []), ([], []), ([], []), ([], []), ([3, 4], [3, 4]), ([5], [5]), ([0, 1, 2, 6], [0, 1, 2, 6]), ([], []), ([], []), ([], []), ([], []), ([], []), ([11, 12], [11, 12]), ([13], [13]), ([8, 9, 10, 14, 7], [8, 9, 10, 14]), ([7, 15], [7, 15])])
def sawtoothlaw13_RenoTells.B9 : List Nat := [0, 0, 0, 0, 0, 24, 56, 127, 0, 0, 0, 0, 0, 6144, 14336, 32767, 65535]
theorem sawtoothlaw13_RenoTells.tab9 : rtab .any (opsOf Try.f8 9) = sawtoothlaw13_RenoTells.T9 := by kernel_rfl
theorem sawtoothlaw13_RenoTells.bits9 : waitsOk sawtoothlaw13_RenoTells.T9.2 sawtoothlaw13_RenoTells.B9 = true := by kernel_rfl
set_option maxHeartbeats 8000000 in
set_option maxRecDepth 100000 in
theorem sawtoothlaw13_RenoTells.calls (k : Nat) (a0 : Int) (a1 : Int) (a2 : Int) (A3 : Option Addr) (c3 : Nat) (l3 : List Int) (r : Bool) (w : World) (hr3 : Kd.C (Kd.int .i64) w A3 l3.length l3) (hc3 : l3.length ≤ c3) (h : sawtoothlaw13_RenoTells.f k a0 a1 a2 l3 = some r) :
  Calls Try.prog 8 #[.int .i64 a0, .int .i64 a1, .int .i64 a2, .slice A3 l3.length c3] w fun e w' => e = .returned (.bool r) ∧ Below w.heap.size w w' := by
 have HR3 := Aside0.mk hr3; have HC3 := Aside0.mk hc3; clear hr3 hc3; have HB := Aside0.mk (Below.refl w.heap.size w); have H : ((sawtoothlaw13_awakeS.f).bind fun t403 => (if (l3.length : Int) > 100 then (some t403) else ((reno_Part.f a0 a1).bind fun bt404 => (if a0 < a1 then (if bt404.1 = 9 then (if bt404.2 = 17 then (sawtoothlaw13_RenoTells.j0 k a0 a1 a2 l3 t403 true) else (if a0 ≥ a1 then (if bt404.1 = 1 then (none) else (sawtoothlaw13_RenoTells.j0 k a0 a1 a2 l3 t403 false)) else (sawtoothlaw13_RenoTells.j0 k a0 a1 a2 l3 t403 false))) else (if a0 ≥ a1 then (if bt404.1 = 1 then (sawtoothlaw13_RenoTells.j0 k a0 a1 a2 l3 t403 (bt404.2 == 1)) else (sawtoothlaw13_RenoTells.j0 k a0 a1 a2 l3 t403 false)) else (sawtoothlaw13_RenoTells.j0 k a0 a1 a2 l3 t403 false))) else (if a0 ≥ a1 then (if bt404.1 = 1 then (sawtoothlaw13_RenoTells.j0 k a0 a1 a2 l3 t403 (bt404.2 == 1)) else (sawtoothlaw13_RenoTells.j0 k a0 a1 a2 l3 t403 false)) else (sawtoothlaw13_RenoTells.j0 k a0 a1 a2 l3 t403 false)))))) = some r := h; clear h; replace H := Option.bind_eq_some_iff.mp H; obtain ⟨t403, A50, H⟩ := H; (try dsimp only at H); have A5 := Aside0.mk A50; clear A50
 by_cases c6 : (l3.length : Int) > 100
 ·rw [if_pos c6] at H
  have c6b0 : decide (100 < (l3.length : Int)) = true := decide_eq_true c6; have c6b1 : decide (100 < l3.length) = true := decide_eq_true (by omega); clear c6; obtain rfl := Option.some.inj H
  go_enter Try.func8, Try.ntmps8
  go_wp2_with (first | ((with_reducible refine gate_callee (f := 21) rfl ?_); refine goesLA_ (some 14) rfl rfl Try.func21 rfl #[] rfl ?_; (with_reducible refine (sawtoothlaw13_awakeS.calls  t403 _ A5.out).mono ?_); rintro e w7 ⟨rfl, hb⟩; refine ⟨_, rfl, ?_⟩; replace HB := stA hb; (try clear hb); (try clear hb2); (try clear hk); (try clear hi)))
  go_ret
  exact ⟨by first | rfl | (simp [errW_none, errW_some] <;> rfl) | (simp [*, errW_none, errW_some] <;> rfl), by repeat (first | (with_reducible first | exact HB.out | apply below_alloc | apply pw_below_drewN | apply below_drew1) | exact HB.out)⟩
 ·rw [if_neg c6] at H
  have c6b0 : decide (100 < (l3.length : Int)) = false := decide_eq_false c6; have c6b1 : decide (100 < l3.length) = false := decide_eq_false (by omega); clear c6; replace H := Option.bind_eq_some_iff.mp H; obtain ⟨⟨t404, t405⟩, A80, H⟩ := H; (try dsimp only at H); have A8 := Aside0.mk A80; clear A80; have HC9 := Aside0.mk H; clear H
  go_enter Try.func8, Try.ntmps8
  go_upto_region 5 with (first | ((with_reducible refine gate_callee (f := 21) rfl ?_); refine goesLA_ (some 14) rfl rfl Try.func21 rfl #[] rfl ?_; (with_reducible refine (sawtoothlaw13_awakeS.calls  t403 _ A5.out).mono ?_); rintro e w10 ⟨rfl, hb⟩; refine ⟨_, rfl, ?_⟩; replace HB := stA hb; (try clear hb); (try clear hb2); (try clear hk); (try clear hi)) | ((with_reducible refine gate_callee (f := 22) rfl ?_); refine goesLA_ (some 22) rfl rfl Try.func22 rfl #[.int .i64 a0, .int .i64 a1] rfl ?_; (with_reducible refine (reno_Part.calls a0 a1 t404 t405 _ A8.out).mono ?_); rintro e w' ⟨rfl, ⟨nd, rfl⟩⟩; refine ⟨_, rfl, ?_⟩))
  (try simp only [Act.put, sA, sB, sC])
  go_cut [12] (fun v12 wc => ∃ (kq : Nat) (x12_8 : Bool), v12 = .bool x12_8 ∧ Aside0 (sawtoothlaw13_RenoTells.j0 kq a0 a1 a2 l3 t403 x12_8 = some r) ∧ Aside0 (kq ≤ k) ∧ Aside0 (Below w.heap.size w wc))
  case first =>
   have H := HC9.out; clear HC9
   by_cases c11 : a0 < a1
   ·rw [if_pos c11] at H
    have c11b0 : decide (a0 < a1) = true := decide_eq_true c11; clear c11
    (first | rw [c11b0] | (simp only [i64_w, i32_w]; rw [c11b0]) | skip)
    by_cases c12 : t404 = 9
    ·rw [if_pos c12] at H
     have c12b0 : (t404 == 9) = true := beq_iff_eq.mpr c12; have c12b1 : (t404 != 9) = false := bne_eq_false_iff_eq.mpr c12; clear c12
     by_cases c13 : t405 = 17
     ·rw [if_pos c13] at H
      have c13b0 : (t405 == 17) = true := beq_iff_eq.mpr c13; have c13b1 : (t405 != 17) = false := bne_eq_false_iff_eq.mpr c13; clear c13; have H' := Aside0.mk H; clear H
      go_wp2
      go_meet
      case rel => exact ⟨_, (true), (by first | rfl | (simp; done) | (simp [*]; done)), H', ⟨by first | omega | exact Nat.le_refl _⟩, ⟨by repeat (first | (with_reducible first | exact HB.out | apply below_alloc | apply pw_below_drewN | apply below_drew1) | exact HB.out)⟩⟩
     ·rw [if_neg c13] at H
      have c13b0 : (t405 == 17) = false := beq_eq_false_iff_ne.mpr c13; have c13b1 : (t405 != 17) = true := bne_iff_ne.mpr c13
      by_cases c14 : a0 ≥ a1
      ·rw [if_pos c14] at H
       have c14b0 : decide (a1 ≤ a0) = true := decide_eq_true c14; clear c14
       by_cases c15 : t404 = 1
       ·rw [if_pos c15] at H
        exact absurd H (by simp)
       ·rw [if_neg c15] at H
        have c15b0 : (t404 == 1) = false := beq_eq_false_iff_ne.mpr c15; have c15b1 : (t404 != 1) = true := bne_iff_ne.mpr c15; have H' := Aside0.mk H; clear H
        go_wp2
        go_meet
        case rel => exact ⟨_, (false), (by first | rfl | (simp; done) | (simp [*]; done)), H', ⟨by first | omega | exact Nat.le_refl _⟩, ⟨by repeat (first | (with_reducible first | exact HB.out | apply below_alloc | apply pw_below_drewN | apply below_drew1) | exact HB.out)⟩⟩
      ·rw [if_neg c14] at H
       have c14b0 : decide (a1 ≤ a0) = false := decide_eq_false c14; clear c14; have H' := Aside0.mk H; clear H
       go_wp2
       go_meet
       case rel => exact ⟨_, (false), (by first | rfl | (simp; done) | (simp [*]; done)), H', ⟨by first | omega | exact Nat.le_refl _⟩, ⟨by repeat (first | (with_reducible first | exact HB.out | apply below_alloc | apply pw_below_drewN | apply below_drew1) | exact HB.out)⟩⟩
    ·rw [if_neg c12] at H
     have c12b0 : (t404 == 9) = false := beq_eq_false_iff_ne.mpr c12; have c12b1 : (t404 != 9) = true := bne_iff_ne.mpr c12
     by_cases c16 : a0 ≥ a1
     ·rw [if_pos c16] at H
      have c16b0 : decide (a1 ≤ a0) = true := decide_eq_true c16; clear c16
      by_cases c17 : t404 = 1
      ·rw [if_pos c17] at H
       have c17b0 : (t404 == 1) = true := beq_iff_eq.mpr c17; have c17b1 : (t404 != 1) = false := bne_eq_false_iff_eq.mpr c17; clear c17; have H' := Aside0.mk H; clear H
       go_wp2
       go_meet
       case rel => exact ⟨_, ((t405 == 1)), (by first | rfl | (simp; done) | (simp [*]; done)), H', ⟨by first | omega | exact Nat.le_refl _⟩, ⟨by repeat (first | (with_reducible first | exact HB.out | apply below_alloc | apply pw_below_drewN | apply below_drew1) | exact HB.out)⟩⟩
      ·rw [if_neg c17] at H
       have c17b0 : (t404 == 1) = false := beq_eq_false_iff_ne.mpr c17; have c17b1 : (t404 != 1) = true := bne_iff_ne.mpr c17; have H' := Aside0.mk H; clear H
       go_wp2
       go_meet
       case rel => exact ⟨_, (false), (by first | rfl | (simp; done) | (simp [*]; done)), H', ⟨by first | omega | exact Nat.le_refl _⟩, ⟨by repeat (first | (with_reducible first | exact HB.out | apply below_alloc | apply pw_below_drewN | apply below_drew1) | exact HB.out)⟩⟩
     ·rw [if_neg c16] at H
      have c16b0 : decide (a1 ≤ a0) = false := decide_eq_false c16; clear c16; have H' := Aside0.mk H; clear H
      go_wp2
      go_meet
      case rel => exact ⟨_, (false), (by first | rfl | (simp; done) | (simp [*]; done)), H', ⟨by first | omega | exact Nat.le_refl _⟩, ⟨by repeat (first | (with_reducible first | exact HB.out | apply below_alloc | apply pw_below_drewN | apply below_drew1) | exact HB.out)⟩⟩
   ·rw [if_neg c11] at H
    have c11b0 : decide (a0 < a1) = false := decide_eq_false c11; clear c11
    (first | rw [c11b0] | (simp only [i64_w, i32_w]; rw [c11b0]) | skip)
    by_cases c18 : a0 ≥ a1
    ·rw [if_pos c18] at H
     have c18b0 : decide (a1 ≤ a0) = true := decide_eq_true c18; clear c18
     by_cases c19 : t404 = 1
     ·rw [if_pos c19] at H
      have c19b0 : (t404 == 1) = true := beq_iff_eq.mpr c19; have c19b1 : (t404 != 1) = false := bne_eq_false_iff_eq.mpr c19; clear c19; have H' := Aside0.mk H; clear H
      go_wp2
      go_meet
      case rel => exact ⟨_, ((t405 == 1)), (by first | rfl | (simp; done) | (simp [*]; done)), H', ⟨by first | omega | exact Nat.le_refl _⟩, ⟨by repeat (first | (with_reducible first | exact HB.out | apply below_alloc | apply pw_below_drewN | apply below_drew1) | exact HB.out)⟩⟩
     ·rw [if_neg c19] at H
      have c19b0 : (t404 == 1) = false := beq_eq_false_iff_ne.mpr c19; have c19b1 : (t404 != 1) = true := bne_iff_ne.mpr c19; have H' := Aside0.mk H; clear H
      go_wp2
      go_meet
      case rel => exact ⟨_, (false), (by first | rfl | (simp; done) | (simp [*]; done)), H', ⟨by first | omega | exact Nat.le_refl _⟩, ⟨by repeat (first | (with_reducible first | exact HB.out | apply below_alloc | apply pw_below_drewN | apply below_drew1) | exact HB.out)⟩⟩
    ·rw [if_neg c18] at H
     have c18b0 : decide (a1 ≤ a0) = false := decide_eq_false c18; clear c18; have H' := Aside0.mk H; clear H
     go_wp2
     go_meet
     case rel => exact ⟨_, (false), (by first | rfl | (simp; done) | (simp [*]; done)), H', ⟨by first | omega | exact Nat.le_refl _⟩, ⟨by repeat (first | (with_reducible first | exact HB.out | apply below_alloc | apply pw_below_drewN | apply below_drew1) | exact HB.out)⟩⟩
  case rest =>
   clear HC9
   try clear c1
   try clear c2
   try clear p2
   try clear c3
   try clear c6
   try clear c6b0
   try clear c6b1
   try clear c8
   try clear c11
   try clear c11b0
   try clear c12
   try clear c12b0
   try clear c12b1
   try clear c13
   try clear c13b0
   try clear c13b1
   try clear c14
   try clear c14b0
   try clear c15
   try clear c15b0
   try clear c15b1
   try clear c16
   try clear c16b0
   try clear c17
   try clear c17b0
   try clear c17b1
   try clear c18
   try clear c18b0
   try clear c19
   try clear c19b0
   try clear c19b1
   obtain ⟨kq, x12_8, rfl, HA, HJ8, HB⟩ := hcut
   cases kq with
   | zero => exact absurd HA.out (by simp [sawtoothlaw13_RenoTells.j0])
   | succ kj8 =>
    have H := HA.out; clear HA; simp only [sawtoothlaw13_RenoTells.j0] at H; have H' := Aside0.mk H; clear H
    go_wp2
    go_loopg [13] kj8 (fun kq v13 w' => ∃ (x13_2 : Int), v13 = .int .i64 x13_2 ∧ Aside0 (sawtoothlaw13_RenoTells.l0 kq a0 a1 a2 l3 t403 x12_8 x13_2 = some r) ∧ Aside0 (kq ≤ kj8) ∧ Aside0 (Below w.heap.size w w'))
    case atStart => exact ⟨(0), (by first | rfl | (simp; done) | (simp [*]; done)), H', ⟨Nat.le_refl _⟩, ⟨by repeat (first | (with_reducible first | exact HB.out | apply below_alloc | apply pw_below_drewN | apply below_drew1) | exact HB.out)⟩⟩
    case round =>
     clear H'
     try clear c1
     try clear c2
     try clear p2
     try clear c3
     try clear c6
     try clear c6b0
     try clear c6b1
     try clear c8
     try clear c11
     try clear c11b0
     try clear c12
     try clear c12b0
     try clear c12b1
     try clear c13
     try clear c13b0
     try clear c13b1
     try clear c14
     try clear c14b0
     try clear c15
     try clear c15b0
     try clear c15b1
     try clear c16
     try clear c16b0
     try clear c17
     try clear c17b0
     try clear c17b1
     try clear c18
     try clear c18b0
     try clear c19
     try clear c19b0
     try clear c19b1
     try clear p2
     obtain ⟨x13_2, rfl, HA, HK2, HB⟩ := hrel
     cases gk with
     | zero => exact absurd HA.out (by simp [sawtoothlaw13_RenoTells.l0])
     | succ k2 =>
      have H := HA.out; clear HA; simp only [sawtoothlaw13_RenoTells.l0] at H
      by_cases c20 : x13_2 < (l3.length : Int)
      ·rw [if_pos c20] at H
       have c20b0 : decide (x13_2 < (l3.length : Int)) = true := decide_eq_true c20; clear c20
       by_cases c21 : 0 ≤ x13_2
       ·rw [if_pos c21] at H
        have c21b0 : decide (0 ≤ x13_2) = true := decide_eq_true c21; clear c21; replace H := Option.bind_eq_some_iff.mp H; obtain ⟨t409, A220, H⟩ := H; replace H : ((sawtoothref13_StepS.f a0 a1 a2 (rd l3 x13_2)).bind fun t411 => (if t409 = t411 then (sawtoothlaw13_RenoTells.l0 k2 a0 a1 a2 l3 t403 x12_8 (wrap64 (x13_2 + 1))) else (none))) = some r := H; have A22 := Aside0.mk A220; clear A220; replace H := Option.bind_eq_some_iff.mp H; obtain ⟨t411, A230, H⟩ := H; replace H : (if t409 = t411 then (sawtoothlaw13_RenoTells.l0 k2 a0 a1 a2 l3 t403 x12_8 (wrap64 (x13_2 + 1))) else (none)) = some r := H; have A23 := Aside0.mk A230; clear A230
        by_cases c24 : t409 = t411
        ·rw [if_pos c24] at H
         have c24b0 : (t409 == t411) = true := beq_iff_eq.mpr c24; have c24b1 : (t409 != t411) = false := bne_eq_false_iff_eq.mpr c24; clear c24; have H' := Aside0.mk H; clear H
         try go_wp2
         replace HB := Aside0.mk (below_drew1 HB.out); have p408 : 0 ≤ (x13_2 : Int) := of_decide_eq_true (by first | (with_reducible assumption) | assumption); have q408 : x13_2 < (l3.length : Int) := of_decide_eq_true (by first | (with_reducible assumption) | assumption); obtain ⟨ad408, e408, hx408_0⟩ := Kd.at_int HR3.out x13_2 p408 q408; have hw408_0 := hx408_0
         cases e408
         replace hx408_0 := (HB.out.cell (World.block_lt_of_cell? w _ hx408_0)).trans hx408_0; replace p408 := eq_true p408; replace q408 := eq_true q408; have p410 : 0 ≤ (x13_2 : Int) := of_decide_eq_true (by first | (with_reducible assumption) | assumption); have q410 : x13_2 < (l3.length : Int) := of_decide_eq_true (by first | (with_reducible assumption) | assumption); obtain ⟨ad410, e410, hx410_0⟩ := Kd.at_int HR3.out x13_2 p410 q410; have hw410_0 := hx410_0
         obtain rfl : ad408 = ad410 := (by injection e410)
         replace hx410_0 := (HB.out.cell (World.block_lt_of_cell? w _ hx410_0)).trans hx410_0; replace p410 := eq_true p410; replace q410 := eq_true q410; refine start_ (n := 17) (S := fun w' => w'.cell? (ad408.add (x13_2).toNat) = some (.int .i64 (rd l3 x13_2)) ∧ w'.cell? (ad408.add (x13_2).toNat) = some (.int .i64 (rd l3 x13_2))) (ds := []) #[N,N,N,N,N,N,N,N,N,N,N,N,N,N,N,N,N] (by kernel_rfl) rfl rfl ⟨((HB.out.cell (World.block_lt_of_cell? w _ hw408_0)).trans hw408_0), ((HB.out.cell (World.block_lt_of_cell? w _ hw410_0)).trans hw410_0)⟩ (fun hHeld => ?_); refine with_tabW sawtoothlaw13_RenoTells.tab9 sawtoothlaw13_RenoTells.bits9 (fun HT_ HW_ => ?_)
         generalize wr.drew = w25 at HB hx408_0 hx410_0 hHeld ⊢
         refine pure_ (i := 0) (N := some 55) (v := ?_) (a' := ?_) #[Y,N,N,N,N,N,N,N,N,N,N,N,N,N,N,N,N] rfl rfl (any_of HT_.out (by kernel_rfl)) (fun _ _ _ h => h) (Or.inl ⟨by rfl, ?_⟩) ?_ ?_; rotate_left
         ·intro w'; go_simp
          with_reducible rfl
         rotate_left
         ·simp only [Act.put, sA, sB, sC, i64_w, i32_w]
          rfl
         refine pure_ (i := 1) (N := some 56) (v := ?_) (a' := ?_) #[Y,Y,N,N,N,N,N,N,N,N,N,N,N,N,N,N,N] rfl rfl (any_of HT_.out (by kernel_rfl)) (fun _ _ _ h => h) (Or.inl ⟨by rfl, ?_⟩) ?_ ?_; rotate_left
         ·intro w'; go_simp
          with_reducible rfl
         rotate_left
         ·simp only [Act.put, sA, sB, sC, i64_w, i32_w]
          rfl
         refine pure_ (i := 2) (N := some 57) (v := ?_) (a' := ?_) #[Y,Y,Y,N,N,N,N,N,N,N,N,N,N,N,N,N,N] rfl rfl (any_of HT_.out (by kernel_rfl)) (fun _ _ _ h => h) (Or.inl ⟨by rfl, ?_⟩) ?_ ?_; rotate_left
         ·intro w'; go_simp
          with_reducible rfl
         rotate_left
         ·simp only [Act.put, sA, sB, sC, i64_w, i32_w]
          rfl
         refine pure_ (i := 3) (N := some 58) (v := ?_) (a' := ?_) #[Y,Y,Y,Y,N,N,N,N,N,N,N,N,N,N,N,N,N] rfl rfl (any_of HT_.out (by kernel_rfl)) (fun _ _ _ h => h) (Or.inl ⟨by rfl, ?_⟩) ?_ ?_; rotate_left
         ·intro w'; go_simp
          with_reducible rfl
         rotate_left
         ·simp only [Act.put, sA, sB, sC, i64_w, i32_w]
          rfl
         refine pure_ (i := 4) (N := some 59) (v := ?_) (a' := ?_) #[Y,Y,Y,Y,Y,N,N,N,N,N,N,N,N,N,N,N,N] rfl rfl (any_of HT_.out (by kernel_rfl)) (fun _ _ _ h => h) (Or.inl ⟨by rfl, ?_⟩) ?_ ?_; rotate_left
         ·intro w'; go_simp
          with_reducible rfl
         rotate_left
         ·simp only [Act.put, sA, sB, sC, i64_w, i32_w]
          rfl
         refine pure_ (i := 5) (N := some 60) (v := ?_) (a' := ?_) #[Y,Y,Y,Y,Y,Y,N,N,N,N,N,N,N,N,N,N,N] rfl rfl (any_of HT_.out (by kernel_rfl)) (fun _ _ _ h => h) (Or.inl ⟨by rfl, ?_⟩) ?_ ?_; rotate_left
         ·intro w'; go_simp
          with_reducible rfl
         rotate_left
         ·simp only [Act.put, sA, sB, sC, i64_w, i32_w]
          rfl
         refine pure_ (i := 8) (N := some 63) (v := ?_) (a' := ?_) #[Y,Y,Y,Y,Y,Y,N,N,Y,N,N,N,N,N,N,N,N] rfl rfl (any_of HT_.out (by kernel_rfl)) (fun _ _ _ h => h) (Or.inl ⟨by rfl, ?_⟩) ?_ ?_; rotate_left
         ·intro w'; go_simp
          with_reducible rfl
         rotate_left
         ·simp only [Act.put, sA, sB, sC, i64_w, i32_w]
          rfl
         refine pure_ (i := 9) (N := some 64) (v := ?_) (a' := ?_) #[Y,Y,Y,Y,Y,Y,N,N,Y,Y,N,N,N,N,N,N,N] rfl rfl (any_of HT_.out (by kernel_rfl)) (fun _ _ _ h => h) (Or.inl ⟨by rfl, ?_⟩) ?_ ?_; rotate_left
         ·intro w'; go_simp
          with_reducible rfl
         rotate_left
         ·simp only [Act.put, sA, sB, sC, i64_w, i32_w]
          rfl
         refine pure_ (i := 10) (N := some 65) (v := ?_) (a' := ?_) #[Y,Y,Y,Y,Y,Y,N,N,Y,Y,Y,N,N,N,N,N,N] rfl rfl (any_of HT_.out (by kernel_rfl)) (fun _ _ _ h => h) (Or.inl ⟨by rfl, ?_⟩) ?_ ?_; rotate_left
         ·intro w'; go_simp
          with_reducible rfl
         rotate_left
         ·simp only [Act.put, sA, sB, sC, i64_w, i32_w]
          rfl
         refine pure_ (i := 11) (N := some 66) (v := ?_) (a' := ?_) #[Y,Y,Y,Y,Y,Y,N,N,Y,Y,Y,Y,N,N,N,N,N] rfl rfl (any_of HT_.out (by kernel_rfl)) (fun _ _ _ h => h) (Or.inl ⟨by rfl, ?_⟩) ?_ ?_; rotate_left
         ·intro w'; go_simp
          with_reducible rfl
         rotate_left
         ·simp only [Act.put, sA, sB, sC, i64_w, i32_w]
          rfl
         refine pure_ (i := 12) (N := some 67) (v := ?_) (a' := ?_) #[Y,Y,Y,Y,Y,Y,N,N,Y,Y,Y,Y,Y,N,N,N,N] rfl rfl (any_of HT_.out (by kernel_rfl)) (fun _ _ _ h => h) (Or.inl ⟨by rfl, ?_⟩) ?_ ?_; rotate_left
         ·intro w'; go_simp
          with_reducible rfl
         rotate_left
         ·simp only [Act.put, sA, sB, sC, i64_w, i32_w]
          rfl
         refine pure_ (i := 13) (N := some 68) (v := ?_) (a' := ?_) #[Y,Y,Y,Y,Y,Y,N,N,Y,Y,Y,Y,Y,Y,N,N,N] rfl rfl (any_of HT_.out (by kernel_rfl)) (fun _ _ _ h => h) (Or.inl ⟨by rfl, ?_⟩) ?_ ?_; rotate_left
         ·intro w'; go_simp
          with_reducible rfl
         rotate_left
         ·simp only [Act.put, sA, sB, sC, i64_w, i32_w]
          rfl
         refine take_ (i := 6) (N := some 61) (v := ?_) (a' := ?_) #[Y,Y,Y,Y,Y,Y,Y,N,Y,Y,Y,Y,Y,Y,N,N,N] rfl rfl (take_ofW HT_.out HW_.out (by kernel_rfl)) (fun _ _ _ h => h) (Or.inl ⟨by rfl, ?_⟩) hHeld ?_ ?_; rotate_left
         ·rintro w' ⟨s0, s1⟩; go_simp
          with_reducible rfl
         rotate_left
         ·simp only [Act.put, sA, sB, sC, i64_w, i32_w]
          rfl
         refine take_ (i := 14) (N := some 69) (v := ?_) (a' := ?_) #[Y,Y,Y,Y,Y,Y,Y,N,Y,Y,Y,Y,Y,Y,Y,N,N] rfl rfl (take_ofW HT_.out HW_.out (by kernel_rfl)) (fun _ _ _ h => h) (Or.inl ⟨by rfl, ?_⟩) hHeld ?_ ?_; rotate_left
         ·rintro w' ⟨s0, s1⟩; go_simp
          with_reducible rfl
         rotate_left
         ·simp only [Act.put, sA, sB, sC, i64_w, i32_w]
          rfl
         refine one_ (i := 7) (N := some 62) #[Y,Y,Y,Y,Y,Y,Y,Y,Y,Y,Y,Y,Y,Y,Y,N,N] rfl rfl (one_of HT_.out (by kernel_rfl)) (by decide) (fun K hK => ?_); refine goesA_ Try.func23 rfl #[.int .i64 a0, .int .i64 a1, .int .i64 a2, .int .i64 (rd l3 x13_2)] (by rfl) rfl rfl ?_
         with_reducible refine (reno_StepS.calls a0 a1 a2 (rd l3 x13_2) t409 _ A22.out).mono ?_
         rintro e w26 ⟨rfl, hb⟩; refine ⟨_, rfl, ?_⟩; replace HB := Aside0.mk (below_step HB.out hb); (try clear hb); (try clear hb2); (try clear hk); (try clear hi); refine hK.out _ _ ⟨((HB.out.cell (World.block_lt_of_cell? w _ hw408_0)).trans hw408_0), ((HB.out.cell (World.block_lt_of_cell? w _ hw410_0)).trans hw410_0)⟩ (fun hHeld => ?_); clear hK K; refine norm_ (a' := ?_) ?_ ?_; rotate_left
         ·show Act.put _ (some 62) _ = _
          simp only [Act.put, sA, sB, sC, i64_w, i32_w]
          rfl
         refine one_ (i := 15) (N := some 70) #[Y,Y,Y,Y,Y,Y,Y,Y,Y,Y,Y,Y,Y,Y,Y,Y,N] rfl rfl (one_of HT_.out (by kernel_rfl)) (by decide) (fun K hK => ?_); refine goesA_ Try.func24 rfl #[.int .i64 a0, .int .i64 a1, .int .i64 a2, .int .i64 (rd l3 x13_2)] (by rfl) rfl rfl ?_
         with_reducible refine (sawtoothref13_StepS.calls a0 a1 a2 (rd l3 x13_2) t411 _ A23.out).mono ?_
         rintro e w27 ⟨rfl, hb⟩; refine ⟨_, rfl, ?_⟩; replace HB := Aside0.mk (below_step HB.out hb); (try clear hb); (try clear hb2); (try clear hk); (try clear hi); refine hK.out _ _ ⟨((HB.out.cell (World.block_lt_of_cell? w _ hw408_0)).trans hw408_0), ((HB.out.cell (World.block_lt_of_cell? w _ hw410_0)).trans hw410_0)⟩ (fun hHeld => ?_); clear hK K; refine norm_ (a' := ?_) ?_ ?_; rotate_left
         ·show Act.put _ (some 70) _ = _
          simp only [Act.put, sA, sB, sC, i64_w, i32_w]
          rfl
         refine pure_ (i := 16) (N := some 71) (v := ?_) (a' := ?_) #[Y,Y,Y,Y,Y,Y,Y,Y,Y,Y,Y,Y,Y,Y,Y,Y,Y] rfl rfl (any_of HT_.out (by kernel_rfl)) (fun _ _ _ h => h) (Or.inl ⟨by rfl, ?_⟩) ?_ ?_; rotate_left
         ·intro w'; go_simp
          with_reducible rfl
         rotate_left
         ·simp only [Act.put, sA, sB, sC, i64_w, i32_w]
          rfl
         refine done_ (done_of HT_.out (by kernel_rfl)) ?_
         try go_wp2
         go_roundg k2
         case measure => have := HJ8.out; have := HK2.out; omega
         case rel => exact ⟨(wrap64 (x13_2 + 1)), (by first | rfl | (simp; done) | (simp [*]; done)), H', ⟨by have := HJ8.out; have := HK2.out; omega⟩, ⟨by repeat (first | (with_reducible first | exact HB.out | apply below_alloc | apply pw_below_drewN | apply below_drew1) | exact HB.out)⟩⟩
        ·rw [if_neg c24] at H
         exact absurd H (by simp)
       ·rw [if_neg c21] at H
        exact absurd H (by simp)
      ·rw [if_neg c20] at H
       have c20b0 : decide (x13_2 < (l3.length : Int)) = false := decide_eq_false c20; clear c20
       by_cases c28 : t403 = true
       ·subst c28
        have H1 : (if x12_8 = true then ((reno_StepsS.f a0 a1 a2 l3).bind fun t406 => ((sawtoothref13_StepsS.f a0 a1 a2 l3).bind fun t407 => (some (t406 == t407)))) else (none)) = some r := by rw [if_pos rfl] at H; exact H
        clear H; have H := H1; clear H1
        by_cases c29 : x12_8 = true
        ·subst c29
         have H1 : ((reno_StepsS.f a0 a1 a2 l3).bind fun t406 => ((sawtoothref13_StepsS.f a0 a1 a2 l3).bind fun t407 => (some (t406 == t407)))) = some r := by rw [if_pos rfl] at H; exact H
         clear H; have H := H1; clear H1; replace H := Option.bind_eq_some_iff.mp H; obtain ⟨t406, A300, H⟩ := H; replace H : ((sawtoothref13_StepsS.f a0 a1 a2 l3).bind fun t407 => (some (t406 == t407))) = some r := H; have A30 := Aside0.mk A300; clear A300; replace H := Option.bind_eq_some_iff.mp H; obtain ⟨t407, A310, H⟩ := H; replace H : (some (t406 == t407)) = some r := H; have A31 := Aside0.mk A310; clear A310; obtain rfl := Option.some.inj H
         go_wp2_with (first | (go_at_call 25; (with_reducible refine (reno_StepsS.calls a0 a1 a2 _ _ l3 t406 _ ?side1 ?side2 A30.out).mono ?_); (case side1 => repeat (first | exact (Kd.C_below HR3.out HB.out) | (with_reducible refine Kd.C_alloc ?_ _) | (with_reducible refine Kd.C_drewN ?_ _) | (with_reducible refine Kd.C_drew ?_))); (case side2 => exact HC3.out); rintro e w32 ⟨rfl, hb⟩; replace HB := stA hb; (try clear hb); (try clear hb2); (try clear hk); (try clear hi)) | (go_at_call 26; (with_reducible refine (sawtoothref13_StepsS.calls a0 a1 a2 _ _ l3 t407 _ ?side1 ?side2 A31.out).mono ?_); (case side1 => repeat (first | exact (Kd.C_below HR3.out HB.out) | (with_reducible refine Kd.C_alloc ?_ _) | (with_reducible refine Kd.C_drewN ?_ _) | (with_reducible refine Kd.C_drew ?_))); (case side2 => exact HC3.out); rintro e w33 ⟨rfl, hb⟩; replace HB := stA hb; (try clear hb); (try clear hb2); (try clear hk); (try clear hi)))
         go_ret
         exact ⟨by first | rfl | (simp [errW_none, errW_some] <;> rfl) | (simp [*, errW_none, errW_some] <;> rfl), by repeat (first | (with_reducible first | exact HB.out | apply below_alloc | apply pw_below_drewN | apply below_drew1) | exact HB.out)⟩
        ·replace c29 := Bool.eq_false_iff.mpr c29
         subst c29
         have H1 : (none) = some r := by rw [if_neg (show ¬ (false = true) by decide)] at H; exact H
         clear H; have H := H1; clear H1; exact absurd H (by simp)
       ·replace c28 := Bool.eq_false_iff.mpr c28
        subst c28
        have H1 : (none) = some r := by rw [if_neg (show ¬ (false = true) by decide)] at H; exact H
        clear H; have H := H1; clear H1; exact absurd H (by simp)

/-- THE ONE PURE STATEMENT of sawtoothlaw13_RenoTells: yours. -/
def sawtoothlaw13_RenoTells.Pure : Prop := ∀ (a0 : Int) (a1 : Int) (a2 : Int) (l3 : List Int), (Lit.int .i64 a0).wf = true → (Lit.int .i64 a1).wf = true → (Lit.int .i64 a2).wf = true → l3.length ≤ maxLen → l3.length * 8 ≤ 140737488351232 → (∀ x ∈ l3, (Lit.int .i64 x).wf = true) → ∃ k, sawtoothlaw13_RenoTells.f k a0 a1 a2 l3 = some true
theorem sawtoothlaw13_RenoTells.walk (P : sawtoothlaw13_RenoTells.Pure) (a0 : Int) (a1 : Int) (a2 : Int) (a3 : Option Addr) (len3 cap3 : Nat) (z3 : List Int) (w : World) (w0 : (Lit.int .i64 a0).wf = true) (w1 : (Lit.int .i64 a1).wf = true) (w2 : (Lit.int .i64 a2).wf = true) (w3 : (a3 = none ∧ len3 = 0 ∧ cap3 = 0 ∧ z3 = []) ∨ ∃ x, a3 = some x ∧ len3 ≤ cap3 ∧ cap3 ≤ maxLen ∧ z3.length = cap3 ∧ (∀ i, i < z3.length → w.cell? (x.add i) = some (.int .i64 (z3.getD i 0))) ∧ ∀ n ∈ z3, (Lit.int .i64 n).wf = true) (y3 : len3 * 8 ≤ 140737488351232) :
  Calls Try.prog 8 #[.int .i64 a0, .int .i64 a1, .int .i64 a2, .slice a3 len3 cap3] w fun e w' => e = .returned (.bool true) ∧ Below w.heap.size w w' := by
 obtain ⟨l3, rfl, hr3, hm3, hw3, hc3⟩ := ReadsInt.ofRowC w3; obtain ⟨k, h⟩ := P a0 a1 a2 l3 w0 w1 w2 hm3 y3 hw3; refine (sawtoothlaw13_RenoTells.calls k a0 a1 a2 _ _ l3 true w (Kd.C_of_reads (d := (0 : Int)) (h1 := fun _ => rfl) hr3) hc3 h).mono ?_; rintro e w' ⟨rfl, hd⟩; exact ⟨rfl, hd⟩

/-! ### sawtoothlaw13_RenoSteps: function 12 -/
noncomputable def sawtoothlaw13_RenoSteps.f (a0 : Int) (a1 : Int) (a2 : Int) (l3 : List Int) (a4 : Int) : Option (Bool) := (sawtoothlaw13_awakeS.f).bind fun t412 => (if (l3.length : Int) > 100 then (some t412) else (if (wrap64 ((l3.length : Int) + 1)) = 0 then (none) else (if 0 ≤ (Int.tmod (wrap64 (a4)) (wrap64 ((l3.length : Int) + 1))) then (if (Int.tmod (wrap64 (a4)) (wrap64 ((l3.length : Int) + 1))) ≤ (l3.length : Int) then ((reno_StepsS.f (wrap64 (a0)) a1 a2 (l3.take ((Int.tmod (wrap64 (a4)) (wrap64 ((l3.length : Int) + 1))) : Int).toNat)).bind fun t414 => (if t412 = true then ((reno_StepsS.f t414 a1 a2 (l3.drop ((Int.tmod (wrap64 (a4)) (wrap64 ((l3.length : Int) + 1))) : Int).toNat)).bind fun t416 => ((reno_StepsS.f (wrap64 (a0)) a1 a2 l3).bind fun t417 => (if t416 = t417 then ((reno_StepS.f (wrap64 (a0)) a1 a2 0).bind fun t418 => (if t418 = (wrap64 (a0)) then (some (decide (t414 ≥ (wrap64 (a0))))) else (none))) else (none)))) else (none))) else (none)) else (none))))
set_option maxHeartbeats 8000000 in
set_option maxRecDepth 100000 in
theorem sawtoothlaw13_RenoSteps.calls (a0 : Int) (a1 : Int) (a2 : Int) (A3 : Option Addr) (c3 : Nat) (l3 : List Int) (a4 : Int) (r : Bool) (w : World) (hr3 : Kd.C (Kd.int .i64) w A3 l3.length l3) (hc3 : l3.length ≤ c3) (h : sawtoothlaw13_RenoSteps.f a0 a1 a2 l3 a4 = some r) :
  Calls Try.prog 12 #[.int .u32 a0, .int .i64 a1, .int .i64 a2, .slice A3 l3.length c3, .int .u8 a4] w fun e w' => e = .returned (.bool r) ∧ Below w.heap.size w w' := by
 have HR3 := Aside0.mk hr3; have HC3 := Aside0.mk hc3; clear hr3 hc3; have HB := Aside0.mk (Below.refl w.heap.size w); have H : ((sawtoothlaw13_awakeS.f).bind fun t412 => (if (l3.length : Int) > 100 then (some t412) else (if (wrap64 ((l3.length : Int) + 1)) = 0 then (none) else (if 0 ≤ (Int.tmod (wrap64 (a4)) (wrap64 ((l3.length : Int) + 1))) then (if (Int.tmod (wrap64 (a4)) (wrap64 ((l3.length : Int) + 1))) ≤ (l3.length : Int) then ((reno_StepsS.f (wrap64 (a0)) a1 a2 (l3.take ((Int.tmod (wrap64 (a4)) (wrap64 ((l3.length : Int) + 1))) : Int).toNat)).bind fun t414 => (if t412 = true then ((reno_StepsS.f t414 a1 a2 (l3.drop ((Int.tmod (wrap64 (a4)) (wrap64 ((l3.length : Int) + 1))) : Int).toNat)).bind fun t416 => ((reno_StepsS.f (wrap64 (a0)) a1 a2 l3).bind fun t417 => (if t416 = t417 then ((reno_StepS.f (wrap64 (a0)) a1 a2 0).bind fun t418 => (if t418 = (wrap64 (a0)) then (some (decide (t414 ≥ (wrap64 (a0))))) else (none))) else (none)))) else (none))) else (none)) else (none))))) = some r := h; clear h; replace H := Option.bind_eq_some_iff.mp H; obtain ⟨t412, A60, H⟩ := H; (try dsimp only at H); have A6 := Aside0.mk A60; clear A60
 by_cases c7 : (l3.length : Int) > 100
 ·rw [if_pos c7] at H
  have c7b0 : decide (100 < (l3.length : Int)) = true := decide_eq_true c7; have c7b1 : decide (100 < l3.length) = true := decide_eq_true (by omega); clear c7; obtain rfl := Option.some.inj H
  go_enter Try.func12, Try.ntmps12
  go_wp2_with (first | ((with_reducible refine gate_callee (f := 21) rfl ?_); refine goesLA_ (some 15) rfl rfl Try.func21 rfl #[] rfl ?_; (with_reducible refine (sawtoothlaw13_awakeS.calls  t412 _ A6.out).mono ?_); rintro e w8 ⟨rfl, hb⟩; refine ⟨_, rfl, ?_⟩; replace HB := stA hb; (try clear hb); (try clear hb2); (try clear hk); (try clear hi)))
  go_ret
  exact ⟨by first | rfl | (simp [errW_none, errW_some] <;> rfl) | (simp [*, errW_none, errW_some] <;> rfl), by repeat (first | (with_reducible first | exact HB.out | apply below_alloc | apply pw_below_drewN | apply below_drew1) | exact HB.out)⟩
 ·rw [if_neg c7] at H
  have c7b0 : decide (100 < (l3.length : Int)) = false := decide_eq_false c7; have c7b1 : decide (100 < l3.length) = false := decide_eq_false (by omega); clear c7
  by_cases c9 : (wrap64 ((l3.length : Int) + 1)) = 0
  ·rw [if_pos c9] at H
   exact absurd H (by simp)
  ·rw [if_neg c9] at H
   have c9b0 : ((wrap64 ((l3.length : Int) + 1)) == 0) = false := beq_eq_false_iff_ne.mpr c9; have c9b1 : ((wrap64 ((l3.length : Int) + 1)) != 0) = true := bne_iff_ne.mpr c9
   obtain ⟨ji10, hji10⟩ : ∃ j_ : Int, (Int.tmod (wrap64 (a4)) (wrap64 ((l3.length : Int) + 1))) = j_ := ⟨_, rfl⟩
   replace H : (if 0 ≤ (ji10) then (if (ji10) ≤ (l3.length : Int) then ((reno_StepsS.f (wrap64 (a0)) a1 a2 (l3.take ((ji10) : Int).toNat)).bind fun t414 => (if t412 = true then ((reno_StepsS.f t414 a1 a2 (l3.drop ((ji10) : Int).toNat)).bind fun t416 => ((reno_StepsS.f (wrap64 (a0)) a1 a2 l3).bind fun t417 => (if t416 = t417 then ((reno_StepS.f (wrap64 (a0)) a1 a2 0).bind fun t418 => (if t418 = (wrap64 (a0)) then (some (decide (t414 ≥ (wrap64 (a0))))) else (none))) else (none)))) else (none))) else (none)) else (none)) = some r := by first | (rw [hji10] at H; exact H) | (simp only [hji10] at H ⊢; exact H)
   (try rw [hji10] at A6)
   by_cases c11 : 0 ≤ (ji10)
   ·rw [if_pos c11] at H
    have c11b0 := eq_true c11; have c11b1 : decide (0 ≤ (ji10)) = true := decide_eq_true c11; clear c11
    by_cases c12 : (ji10) ≤ (l3.length : Int)
    ·rw [if_pos c12] at H
     have c12b0 := eq_true c12; have c12b1 : decide ((ji10) ≤ (l3.length : Int)) = true := decide_eq_true c12; clear c12; replace H := Option.bind_eq_some_iff.mp H; obtain ⟨t414, A130, H⟩ := H; (try dsimp only at H); have A13 := Aside0.mk A130; clear A130
     by_cases c14 : t412 = true
     ·subst c14
      have H1 : ((reno_StepsS.f t414 a1 a2 (l3.drop ((ji10) : Int).toNat)).bind fun t416 => ((reno_StepsS.f (wrap64 (a0)) a1 a2 l3).bind fun t417 => (if t416 = t417 then ((reno_StepS.f (wrap64 (a0)) a1 a2 0).bind fun t418 => (if t418 = (wrap64 (a0)) then (some (decide (t414 ≥ (wrap64 (a0))))) else (none))) else (none)))) = some r := by rw [if_pos rfl] at H; exact H
      clear H; have H := H1; clear H1; have c15b0 := eq_true (of_decide_eq_true (by first | (with_reducible assumption) | assumption) : 0 ≤ (ji10)); have c16b0 := eq_true (of_decide_eq_true (by first | (with_reducible assumption) | assumption) : (ji10) ≤ (l3.length : Int)); replace H := Option.bind_eq_some_iff.mp H; obtain ⟨t416, A170, H⟩ := H; (try dsimp only at H); have A17 := Aside0.mk A170; clear A170; replace H := Option.bind_eq_some_iff.mp H; obtain ⟨t417, A180, H⟩ := H; replace H : (if t416 = t417 then ((reno_StepS.f (wrap64 (a0)) a1 a2 0).bind fun t418 => (if t418 = (wrap64 (a0)) then (some (decide (t414 ≥ (wrap64 (a0))))) else (none))) else (none)) = some r := H; have A18 := Aside0.mk A180; clear A180
      by_cases c19 : t416 = t417
      ·rw [if_pos c19] at H
       have c19b0 : (t416 == t417) = true := beq_iff_eq.mpr c19; have c19b1 : (t416 != t417) = false := bne_eq_false_iff_eq.mpr c19; clear c19; replace H := Option.bind_eq_some_iff.mp H; obtain ⟨t418, A200, H⟩ := H; replace H : (if t418 = (wrap64 (a0)) then (some (decide (t414 ≥ (wrap64 (a0))))) else (none)) = some r := H; have A20 := Aside0.mk A200; clear A200
       by_cases c21 : t418 = (wrap64 (a0))
       ·rw [if_pos c21] at H
        have c21b0 : (t418 == (wrap64 (a0))) = true := beq_iff_eq.mpr c21; have c21b1 : (t418 != (wrap64 (a0))) = false := bne_eq_false_iff_eq.mpr c21; clear c21; obtain rfl := Option.some.inj H
        go_enter Try.func12, Try.ntmps12
        go_wp2_with (first | ((with_reducible refine gate_callee (f := 21) rfl ?_); refine goesLA_ (some 15) rfl rfl Try.func21 rfl #[] rfl ?_; (with_reducible refine (sawtoothlaw13_awakeS.calls  true _ A6.out).mono ?_); rintro e w22 ⟨rfl, hb⟩; refine ⟨_, rfl, ?_⟩; replace HB := stA hb; (try clear hb); (try clear hb2); (try clear hk); (try clear hi); obtain ⟨i023, hi023, _, hsz23, _⟩ := info_parts info3; obtain ⟨hcut23, hA23, hC23⟩ := print_take_of (P := Try.prog) (Value.int .i64) 0 34 3 .i64 Try.underlying34 hi023 hsz23 A3 c3 l3 (ji10) (of_decide_eq_true (by first | (with_reducible assumption) | assumption)) (of_decide_eq_true (by first | (with_reducible assumption) | assumption)) HC3.out; have HR413 := Aside0.mk (Kd.C_of_reads (h1 := fun _ => rfl) (hA23 _ (Kd.reads_of_C HR3.out))); have HC413 := Aside0.mk hC23; clear hA23 hC23 hi023 hsz23) | ((with_reducible refine gate_callee (f := 25) rfl ?_); refine goesL_ (some 34) rfl rfl Try.func25 (by kernel_rfl) rfl #[.int .i64 (wrap64 (a0)), .int .i64 a1, .int .i64 a2, .slice A3 (l3.take ((ji10) : Int).toNat).length c3] rfl (by (try simp only [List.map_toArray, List.map_cons, List.map_nil]); first | done | (rw [show (l3.take ((ji10) : Int).toNat).length = (ji10).toNat from (by rw [List.length_take]; have h_ : ((ji10) : Int) ≤ (l3.length : Int) := of_decide_eq_true (by first | (with_reducible assumption) | assumption); omega)] <;> rfl) | (simp only [hji10]; rfl) | rfl | (simp only [List.length_drop, List.length_take]; rfl)) ?_; (with_reducible refine (reno_StepsS.calls (wrap64 (a0)) a1 a2 _ _ (l3.take ((ji10) : Int).toNat) t414 _ ?side1 ?side2 A13.out).mono ?_); (case side1 => repeat (first | exact (Kd.C_below HR413.out HB.out) | (with_reducible refine Kd.C_alloc ?_ _) | (with_reducible refine Kd.C_drewN ?_ _) | (with_reducible refine Kd.C_drew ?_))); (case side2 => exact HC413.out); rintro e w24 ⟨rfl, hb⟩; refine ⟨_, rfl, ?_⟩; replace HB := stA hb; (try clear hb); (try clear hb2); (try clear hk); (try clear hi); obtain ⟨i025, hi025, _, hsz25, _⟩ := info_parts info3; obtain ⟨A25, hcut25, hA25, hC25⟩ := print_drop_of (P := Try.prog) (Value.int .i64) 0 34 3 .i64 Try.underlying34 hi025 hsz25 A3 c3 l3 (ji10) (of_decide_eq_true (by first | (with_reducible assumption) | assumption)) (of_decide_eq_true (by first | (with_reducible assumption) | assumption)) HC3.out; have HR415 := Aside0.mk (Kd.C_of_reads (h1 := fun _ => rfl) (hA25 _ (Kd.reads_of_C HR3.out))); have HC415 := Aside0.mk hC25; clear hA25 hC25 hi025 hsz25) | (go_at_call 25; rw [show l3.length - ((ji10) : Int).toNat = (l3.drop ((ji10) : Int).toNat).length from List.length_drop.symm]; (with_reducible refine (reno_StepsS.calls t414 a1 a2 _ _ (l3.drop ((ji10) : Int).toNat) t416 _ ?side1 ?side2 A17.out).mono ?_); (case side1 => repeat (first | exact (Kd.C_below HR415.out HB.out) | (with_reducible refine Kd.C_alloc ?_ _) | (with_reducible refine Kd.C_drewN ?_ _) | (with_reducible refine Kd.C_drew ?_))); (case side2 => exact HC415.out); rintro e w26 ⟨rfl, hb⟩; replace HB := stA hb; (try clear hb); (try clear hb2); (try clear hk); (try clear hi)) | (go_at_call 25; (with_reducible refine (reno_StepsS.calls (wrap64 (a0)) a1 a2 _ _ l3 t417 _ ?side1 ?side2 A18.out).mono ?_); (case side1 => repeat (first | exact (Kd.C_below HR3.out HB.out) | (with_reducible refine Kd.C_alloc ?_ _) | (with_reducible refine Kd.C_drewN ?_ _) | (with_reducible refine Kd.C_drew ?_))); (case side2 => exact HC3.out); rintro e w27 ⟨rfl, hb⟩; replace HB := stA hb; (try clear hb); (try clear hb2); (try clear hk); (try clear hi)) | (go_at_call 23; (with_reducible refine (reno_StepS.calls (wrap64 (a0)) a1 a2 0 t418 _ A20.out).mono ?_); rintro e w28 ⟨rfl, hb⟩; replace HB := stA hb; (try clear hb); (try clear hb2); (try clear hk); (try clear hi)))
        go_ret
        exact ⟨by first | rfl | (simp [errW_none, errW_some] <;> rfl) | (simp only [← hji10]; first | rfl | (simp [errW_none, errW_some] <;> rfl)) | (simp [*, errW_none, errW_some] <;> rfl), by repeat (first | (with_reducible first | exact HB.out | apply below_alloc | apply pw_below_drewN | apply below_drew1) | exact HB.out)⟩
       ·rw [if_neg c21] at H
        exact absurd H (by simp)
      ·rw [if_neg c19] at H
       exact absurd H (by simp)
     ·replace c14 := Bool.eq_false_iff.mpr c14
      subst c14
      have H1 : (none) = some r := by rw [if_neg (show ¬ (false = true) by decide)] at H; exact H
      clear H; have H := H1; clear H1; exact absurd H (by simp)
    ·rw [if_neg c12] at H
     exact absurd H (by simp)
   ·rw [if_neg c11] at H
    exact absurd H (by simp)

/-- THE ONE PURE STATEMENT of sawtoothlaw13_RenoSteps: yours. -/
def sawtoothlaw13_RenoSteps.Pure : Prop := ∀ (a0 : Int) (a1 : Int) (a2 : Int) (l3 : List Int) (a4 : Int), (Lit.int .u32 a0).wf = true → (Lit.int .i64 a1).wf = true → (Lit.int .i64 a2).wf = true → l3.length ≤ maxLen → l3.length * 8 ≤ 140737488351232 → (∀ x ∈ l3, (Lit.int .i64 x).wf = true) → (Lit.int .u8 a4).wf = true → sawtoothlaw13_RenoSteps.f a0 a1 a2 l3 a4 = some true
theorem sawtoothlaw13_RenoSteps.walk (P : sawtoothlaw13_RenoSteps.Pure) (a0 : Int) (a1 : Int) (a2 : Int) (a3 : Option Addr) (len3 cap3 : Nat) (z3 : List Int) (a4 : Int) (w : World) (w0 : (Lit.int .u32 a0).wf = true) (w1 : (Lit.int .i64 a1).wf = true) (w2 : (Lit.int .i64 a2).wf = true) (w3 : (a3 = none ∧ len3 = 0 ∧ cap3 = 0 ∧ z3 = []) ∨ ∃ x, a3 = some x ∧ len3 ≤ cap3 ∧ cap3 ≤ maxLen ∧ z3.length = cap3 ∧ (∀ i, i < z3.length → w.cell? (x.add i) = some (.int .i64 (z3.getD i 0))) ∧ ∀ n ∈ z3, (Lit.int .i64 n).wf = true) (y3 : len3 * 8 ≤ 140737488351232) (w4 : (Lit.int .u8 a4).wf = true) :
  Calls Try.prog 12 #[.int .u32 a0, .int .i64 a1, .int .i64 a2, .slice a3 len3 cap3, .int .u8 a4] w fun e w' => e = .returned (.bool true) ∧ Below w.heap.size w w' := by
 obtain ⟨l3, rfl, hr3, hm3, hw3, hc3⟩ := ReadsInt.ofRowC w3; have h := P a0 a1 a2 l3 a4 w0 w1 w2 hm3 y3 hw3 w4; refine (sawtoothlaw13_RenoSteps.calls a0 a1 a2 _ _ l3 a4 true w (Kd.C_of_reads (d := (0 : Int)) (h1 := fun _ => rfl) hr3) hc3 h).mono ?_; rintro e w' ⟨rfl, hd⟩; exact ⟨rfl, hd⟩

end Go.Proofs.Ytepmnfjcmppghaa.Px
