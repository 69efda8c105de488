/- Printed by a program of this session (wip/tool/px.py), over the kit's print: for each Go function a Lean function, and the proof that the machine's call answers as that function says. Conditions: none beside what the theorems state. -/
import Derived.Test.YtkoeehacildioaaPx0
import Derived.Test.YtkoeehacildioaaPx5
import Derived.Test.YtkoeehacildioaaPx7
import Derived.Test.YtkoeehacildioaaPx26
import Derived.Test.YtkoeehacildioaaPx27
import Derived.Test.YtkoeehacildioaaPx28
import Derived.Test.YtkoeehacildioaaPx29
namespace Go.Proofs.Ytkoeehacildioaa.Px
open Go.RowKit Go.Proofs.YtkoeehacildioaaW.PrintWords Go.Proofs.YtkoeehacildioaaW.PrintLast Go.Proofs.YtkoeehacildioaaW.PrintMore
attribute [local go_sem] max2_int min2_int max_two min_two max_three min_three max_four min_four   -- for this text's walks alone
set_option linter.unusedVariables false
set_option linter.unusedSimpArgs false

/-! ### sawtoothlaw04_FracParts: function 10 -/
noncomputable def sawtoothlaw04_FracParts.j0 : Nat → Int → Int → Int → Bool → Int → Int → Int → Int → Int → Int → Bool → Option (Bool)
 | 0, _, _, _, _, _, _, _, _, _, _, _ => none
 | k + 1, x0, x1, x2, x7, x8, x9, x10, x11, x12, x13, x46 => if x46 = true then (if x7 = true then (if ((decide (x2 < 1)) == (x9 == 20)) = true then (if x9 = 20 then (if x11 = x9 then (if x13 = x9 then (if x9 = 0 then (none) else (if x8 = 0 then (if x11 = 0 then (if x13 = 0 then (some true) else (some (x12 == 0))) else (if x10 = 0 then (if x13 = 0 then (some true) else (some (x12 == 0))) else (none))) else (none))) else (none)) else (none)) else (if x9 = 0 then (if x11 = 0 then (if x13 = 0 then (some true) else (some (x12 == 0))) else (if x10 = 0 then (if x13 = 0 then (some true) else (some (x12 == 0))) else (none))) else (if x8 = 0 then (if x11 = 0 then (if x13 = 0 then (some true) else (some (x12 == 0))) else (if x10 = 0 then (if x13 = 0 then (some true) else (some (x12 == 0))) else (none))) else (none)))) else (none)) else (none)) else ((sawtoothref02_MulS.f x0 x1).bind fun bt367 => (if x7 = true then (if x8 ≤ x10 then (if x10 ≤ x12 then (if (wrap64 (x12 - x8)) ≤ 1 then ((sawtoothref02_MulS.f x8 x2).bind fun bt371 => ((sawtoothref02_CmpS.f bt371.1 bt371.2.1 bt371.2.2 bt367.1 bt367.2.1 bt367.2.2).bind fun t374 => (if t374 ≤ 0 then ((sawtoothref02_MulS.f x12 x2).bind fun bt375 => ((sawtoothref02_CmpS.f bt375.1 bt375.2.1 bt375.2.2 bt367.1 bt367.2.1 bt367.2.2).bind fun t378 => (some (decide (t378 ≥ 0))))) else (none)))) else (none)) else (none)) else (none)) else (none)))
noncomputable def sawtoothlaw04_FracParts.f (k : Nat) (a0 : Int) (a1 : Int) (a2 : Int) : Option (Bool) := (sawtoothlaw04_awakeS.f).bind fun t360 => ((frac_FloorS.f a0 a1 a2).bind fun bt361 => ((frac_NearS.f a0 a1 a2).bind fun bt363 => ((frac_CeilS.f a0 a1 a2).bind fun bt365 => (if bt361.2 = 0 then (if bt363.2 = 0 then (sawtoothlaw04_FracParts.j0 k a0 a1 a2 t360 bt361.1 bt361.2 bt363.1 bt363.2 bt365.1 bt365.2 (bt365.2 != 0)) else (sawtoothlaw04_FracParts.j0 k a0 a1 a2 t360 bt361.1 bt361.2 bt363.1 bt363.2 bt365.1 bt365.2 true)) else (sawtoothlaw04_FracParts.j0 k a0 a1 a2 t360 bt361.1 bt361.2 bt363.1 bt363.2 bt365.1 bt365.2 true)))))
theorem sawtoothlaw04_FracParts.mono_l : ∀ k, (∀ y0 y1 y2 y3 y4 y5 y6 y7 y8 y9 y10, LeO (sawtoothlaw04_FracParts.j0 k y0 y1 y2 y3 y4 y5 y6 y7 y8 y9 y10) (sawtoothlaw04_FracParts.j0 (k + 1) y0 y1 y2 y3 y4 y5 y6 y7 y8 y9 y10))
 | 0 => fun _ _ _ _ _ _ _ _ _ _ _ r h => by simp [sawtoothlaw04_FracParts.j0] at h
 | k + 1 => by
  have ih0 := sawtoothlaw04_FracParts.mono_l k
  ·intro y0 y1 y2 y3 y4 y5 y6 y7 y8 y9 y10
   unfold sawtoothlaw04_FracParts.j0
   repeat' first
   | (with_reducible exact ih0 _ _ _ _ _ _ _ _ _ _ _)
   | (with_reducible exact LeO.refl _)
   | (with_reducible exact LeO.none _)
   | (with_reducible refine LeO.ite ?_ ?_)
   | (with_reducible refine LeO.bind ?_ (fun _ => ?_))
   | exact ih0 _ _ _ _ _ _ _ _ _ _ _
   | exact LeO.none _
   | refine LeO.ite ?_ ?_
   | refine LeO.bind ?_ (fun _ => ?_)
theorem sawtoothlaw04_FracParts.mono : ∀ a0 a1 a2 k, LeO (sawtoothlaw04_FracParts.f k a0 a1 a2) (sawtoothlaw04_FracParts.f (k + 1) a0 a1 a2) := by
 intro a0 a1 a2 k; have ih0 := sawtoothlaw04_FracParts.mono_l k
 unfold sawtoothlaw04_FracParts.f
 repeat' first
   | (with_reducible exact ih0 _ _ _ _ _ _ _ _ _ _ _)
   | (with_reducible exact LeO.refl _)
   | (with_reducible exact LeO.none _)
   | (with_reducible refine LeO.ite ?_ ?_)
   | (with_reducible refine LeO.bind ?_ (fun _ => ?_))
   | exact ih0 _ _ _ _ _ _ _ _ _ _ _
   | exact LeO.none _
   | refine LeO.ite ?_ ?_
   | refine LeO.bind ?_ (fun _ => ?_)
def sawtoothlaw04_FracParts.T8 : Bool × List (List Nat × List Nat) := (true, [([], []), ([0], [0]), ([1], [1]), ([1], [1]), ([2, 3, 1], [1, 2, 3]), ([1, 4], [1, 4]), ([5, 1], [5]), ([6], [6]), ([6], [6]), ([7, 8, 6], [6, 7, 8]), ([6, 9], [6, 9]), ([10, 6], [10]), ([11], [11]), ([11], [11]), ([12, 13, 11], [11, 12, 13]), ([14, 11], [11, 14]), ([11, 15], [11, 15]), ([16, 11], [16]), ([17], [17]), ([17], [17]), ([18, 19, 17, 17], [17, 18, 19]), ([17], [17]), ([20, 21, 20, 17], [17, 20, 21]), ([22, 17], [17, 22]), ([17, 23], [17, 23]), ([24, 22], [24]), ([25], [25]), ([25], [25]), ([26, 27, 25, 25], [25, 26, 27]), ([25], [25]), ([28, 29, 28, 25], [25, 28, 29]), ([30, 25], [25, 30]), ([25, 31], [25, 31]), ([32, 30, 0, 1, 2, 3, 4, 5, 6, 7, 8, 9, 10, 11, 12, 13, 14, 15, 16, 17, 18, 19, 20, 21, 22, 23, 24, 25, 26, 27, 28, 29, 30, 31, 32], [32])])
def sawtoothlaw04_FracParts.B8 : List Nat := [0, 1, 3, 3, 15, 31, 63, 127, 127, 511, 1023, 2047, 4095, 4095, 16383, 32767, 65535, 131071, 262143, 262143, 1048575, 262143, 4194303, 8388607, 16777215, 33554431, 67108863, 67108863, 268435455, 67108863, 1073741823, 2147483647, 4294967295, 8589934591]
theorem sawtoothlaw04_FracParts.tab8 : rtab .any (opsOf Try.f10 8) = sawtoothlaw04_FracParts.T8 := by kernel_rfl
theorem sawtoothlaw04_FracParts.bits8 : waitsOk sawtoothlaw04_FracParts.T8.2 sawtoothlaw04_FracParts.B8 = true := by kernel_rfl
set_option maxHeartbeats 8000000 in
set_option maxRecDepth 100000 in
theorem sawtoothlaw04_FracParts.calls (k : Nat) (a0 : Int) (a1 : Int) (a2 : Int) (r : Bool) (w : World) (h : sawtoothlaw04_FracParts.f k a0 a1 a2 = some r) :
  Calls Try.prog 10 #[.int .i64 a0, .int .i64 a1, .int .i64 a2] w fun e w' => e = .returned (.bool r) ∧ Below w.heap.size w w' := by
 have hu24 := Try.underlying24; have HB := Aside0.mk (Below.refl w.heap.size w); have H : ((sawtoothlaw04_awakeS.f).bind fun t360 => ((frac_FloorS.f a0 a1 a2).bind fun bt361 => ((frac_NearS.f a0 a1 a2).bind fun bt363 => ((frac_CeilS.f a0 a1 a2).bind fun bt365 => (if bt361.2 = 0 then (if bt363.2 = 0 then (sawtoothlaw04_FracParts.j0 k a0 a1 a2 t360 bt361.1 bt361.2 bt363.1 bt363.2 bt365.1 bt365.2 (bt365.2 != 0)) else (sawtoothlaw04_FracParts.j0 k a0 a1 a2 t360 bt361.1 bt361.2 bt363.1 bt363.2 bt365.1 bt365.2 true)) else (sawtoothlaw04_FracParts.j0 k a0 a1 a2 t360 bt361.1 bt361.2 bt363.1 bt363.2 bt365.1 bt365.2 true)))))) = some r := h; clear h; replace H := Option.bind_eq_some_iff.mp H; obtain ⟨t360, A40, H⟩ := H; (try dsimp only at H); have A4 := Aside0.mk A40; clear A40; replace H := Option.bind_eq_some_iff.mp H; obtain ⟨⟨t361, t362⟩, A50, H⟩ := H; (try dsimp only at H); have A5 := Aside0.mk A50; clear A50; replace H := Option.bind_eq_some_iff.mp H; obtain ⟨⟨t363, t364⟩, A60, H⟩ := H; (try dsimp only at H); have A6 := Aside0.mk A60; clear A60; replace H := Option.bind_eq_some_iff.mp H; obtain ⟨⟨t365, t366⟩, A70, H⟩ := H; (try dsimp only at H); have A7 := Aside0.mk A70; clear A70; have HC8 := Aside0.mk H; clear H
 go_enter Try.func10, Try.ntmps10
 go_upto_region 5 with (first | ((with_reducible refine gate_callee (f := 32) rfl ?_); refine goesLA_ (some 15) rfl rfl Try.func32 rfl #[] rfl ?_; (with_reducible refine (sawtoothlaw04_awakeS.calls  t360 _ A4.out).mono ?_); rintro e w9 ⟨rfl, hb⟩; refine ⟨_, rfl, ?_⟩; replace HB := stA hb; (try clear hb); (try clear hb2); (try clear hk); (try clear hi)) | ((with_reducible refine gate_callee (f := 33) rfl ?_); refine goesLA_ (some 20) rfl rfl Try.func33 rfl #[.int .i64 a0, .int .i64 a1, .int .i64 a2] rfl ?_; (with_reducible refine (frac_FloorS.calls a0 a1 a2 t361 t362 _ A5.out).mono ?_); rintro e w10 ⟨rfl, hb⟩; refine ⟨_, rfl, ?_⟩; replace HB := stA hb; (try clear hb); (try clear hb2); (try clear hk); (try clear hi)) | ((with_reducible refine gate_callee (f := 37) rfl ?_); refine goesLA_ (some 27) rfl rfl Try.func37 rfl #[.int .i64 a0, .int .i64 a1, .int .i64 a2] rfl ?_; (with_reducible refine (frac_NearS.calls a0 a1 a2 t363 t364 _ A6.out).mono ?_); rintro e w11 ⟨rfl, hb⟩; refine ⟨_, rfl, ?_⟩; replace HB := stA hb; (try clear hb); (try clear hb2); (try clear hk); (try clear hi)) | ((with_reducible refine gate_callee (f := 35) rfl ?_); refine goesLA_ (some 34) rfl rfl Try.func35 rfl #[.int .i64 a0, .int .i64 a1, .int .i64 a2] rfl ?_; (with_reducible refine (frac_CeilS.calls a0 a1 a2 t365 t366 _ A7.out).mono ?_); rintro e w12 ⟨rfl, hb⟩; refine ⟨_, rfl, ?_⟩; replace HB := stA hb; (try clear hb); (try clear hb2); (try clear hk); (try clear hi)))
 (try simp only [Act.put, sA, sB, sC])
 go_cut [46] (fun v46 wc => ∃ (kq : Nat) (x46_7 : Bool), v46 = .bool x46_7 ∧ Aside0 (sawtoothlaw04_FracParts.j0 kq a0 a1 a2 t360 t361 t362 t363 t364 t365 t366 x46_7 = some r) ∧ Aside0 (kq ≤ k) ∧ Aside0 (Below w.heap.size w wc))
 case first =>
  have H := HC8.out; clear HC8
  by_cases c13 : t362 = 0
  ·rw [if_pos c13] at H
   have c13b0 : (t362 == 0) = true := beq_iff_eq.mpr c13; have c13b1 : (t362 != 0) = false := bne_eq_false_iff_eq.mpr c13; clear c13
   (first | rw [c13b0] | (simp only [i64_w, i32_w]; rw [c13b0]) | skip)
   by_cases c14 : t364 = 0
   ·rw [if_pos c14] at H
    have c14b0 : (t364 == 0) = true := beq_iff_eq.mpr c14; have c14b1 : (t364 != 0) = false := bne_eq_false_iff_eq.mpr c14; clear c14; have H' := Aside0.mk H; clear H
    go_wp2
    go_meet
    case rel => exact ⟨_, ((t366 != 0)), (by first | rfl | (simp; done) | (simp [*]; done)), H', ⟨by first | omega | exact Nat.le_refl _⟩, ⟨by repeat (first | (with_reducible first | exact HB.out | apply below_alloc | apply pw_below_drewN | apply below_drew1) | exact HB.out)⟩⟩
   ·rw [if_neg c14] at H
    have c14b0 : (t364 == 0) = false := beq_eq_false_iff_ne.mpr c14; have c14b1 : (t364 != 0) = true := bne_iff_ne.mpr c14; have H' := Aside0.mk H; clear H
    go_wp2
    go_meet
    case rel => exact ⟨_, (true), (by first | rfl | (simp; done) | (simp [*]; done)), H', ⟨by first | omega | exact Nat.le_refl _⟩, ⟨by repeat (first | (with_reducible first | exact HB.out | apply below_alloc | apply pw_below_drewN | apply below_drew1) | exact HB.out)⟩⟩
  ·rw [if_neg c13] at H
   have c13b0 : (t362 == 0) = false := beq_eq_false_iff_ne.mpr c13; have c13b1 : (t362 != 0) = true := bne_iff_ne.mpr c13
   (first | rw [c13b0] | (simp only [i64_w, i32_w]; rw [c13b0]) | skip)
   have H' := Aside0.mk H; clear H
   go_wp2
   go_meet
   case rel => exact ⟨_, (true), (by first | rfl | (simp; done) | (simp [*]; done)), H', ⟨by first | omega | exact Nat.le_refl _⟩, ⟨by repeat (first | (with_reducible first | exact HB.out | apply below_alloc | apply pw_below_drewN | apply below_drew1) | exact HB.out)⟩⟩
 case rest =>
  clear HC8
  try clear c1
  try clear p2
  try clear c3
  try clear c10
  try clear c13
  try clear c13b0
  try clear c13b1
  try clear c14
  try clear c14b0
  try clear c14b1
  obtain ⟨kq, x46_7, rfl, HA, HJ7, HB⟩ := hcut
  cases kq with
  | zero => exact absurd HA.out (by simp [sawtoothlaw04_FracParts.j0])
  | succ kj7 =>
   have H := HA.out; clear HA; simp only [sawtoothlaw04_FracParts.j0] at H
   by_cases c15 : x46_7 = true
   ·subst c15
    have H1 : (if t360 = true then (if ((decide (a2 < 1)) == (t362 == 20)) = true then (if t362 = 20 then (if t364 = t362 then (if t366 = t362 then (if t362 = 0 then (none) else (if t361 = 0 then (if t364 = 0 then (if t366 = 0 then (some true) else (some (t365 == 0))) else (if t363 = 0 then (if t366 = 0 then (some true) else (some (t365 == 0))) else (none))) else (none))) else (none)) else (none)) else (if t362 = 0 then (if t364 = 0 then (if t366 = 0 then (some true) else (some (t365 == 0))) else (if t363 = 0 then (if t366 = 0 then (some true) else (some (t365 == 0))) else (none))) else (if t361 = 0 then (if t364 = 0 then (if t366 = 0 then (some true) else (some (t365 == 0))) else (if t363 = 0 then (if t366 = 0 then (some true) else (some (t365 == 0))) else (none))) else (none)))) else (none)) else (none)) = some r := by rw [if_pos rfl] at H; exact H
    clear H; have H := H1; clear H1
    by_cases c16 : t360 = true
    ·subst c16
     have H1 : (if ((decide (a2 < 1)) == (t362 == 20)) = true then (if t362 = 20 then (if t364 = t362 then (if t366 = t362 then (if t362 = 0 then (none) else (if t361 = 0 then (if t364 = 0 then (if t366 = 0 then (some true) else (some (t365 == 0))) else (if t363 = 0 then (if t366 = 0 then (some true) else (some (t365 == 0))) else (none))) else (none))) else (none)) else (none)) else (if t362 = 0 then (if t364 = 0 then (if t366 = 0 then (some true) else (some (t365 == 0))) else (if t363 = 0 then (if t366 = 0 then (some true) else (some (t365 == 0))) else (none))) else (if t361 = 0 then (if t364 = 0 then (if t366 = 0 then (some true) else (some (t365 == 0))) else (if t363 = 0 then (if t366 = 0 then (some true) else (some (t365 == 0))) else (none))) else (none)))) else (none)) = some r := by rw [if_pos rfl] at H; exact H
     clear H; have H := H1; clear H1
     by_cases c17 : ((decide (a2 < 1)) == (t362 == 20)) = true
     ·rw [if_pos c17] at H
      have c17b0 : ((decide (a2 < 1)) == (t362 == 20)) = true := c17
      (try (have c17b1 : decide ((decide (a2 < 1)) = (t362 == 20)) = true := by simpa using c17))
      (try (have c17b2 : ((decide (a2 < 1)) == (t362 == 20)) = true := by simpa using c17))
      clear c17
      by_cases c18 : t362 = 20
      ·rw [if_pos c18] at H
       have c18b0 : (t362 == 20) = true := beq_iff_eq.mpr c18; have c18b1 : (t362 != 20) = false := bne_eq_false_iff_eq.mpr c18; clear c18
       have hq_c18 : decide (a2 < 1) = true := by have h_ := c17b0; rw [c18b0] at h_; simpa using h_
       by_cases c19 : t364 = t362
       ·rw [if_pos c19] at H
        have c19b0 : (t364 == t362) = true := beq_iff_eq.mpr c19; have c19b1 : (t364 != t362) = false := bne_eq_false_iff_eq.mpr c19; clear c19
        by_cases c20 : t366 = t362
        ·rw [if_pos c20] at H
         have c20b0 : (t366 == t362) = true := beq_iff_eq.mpr c20; have c20b1 : (t366 != t362) = false := bne_eq_false_iff_eq.mpr c20; clear c20
         by_cases c21 : t362 = 0
         ·rw [if_pos c21] at H
          exact absurd H (by simp)
         ·rw [if_neg c21] at H
          have c21b0 : (t362 == 0) = false := beq_eq_false_iff_ne.mpr c21; have c21b1 : (t362 != 0) = true := bne_iff_ne.mpr c21
          by_cases c22 : t361 = 0
          ·rw [if_pos c22] at H
           have c22b0 : (t361 == 0) = true := beq_iff_eq.mpr c22; have c22b1 : (t361 != 0) = false := bne_eq_false_iff_eq.mpr c22; clear c22
           by_cases c23 : t364 = 0
           ·rw [if_pos c23] at H
            have c23b0 : (t364 == 0) = true := beq_iff_eq.mpr c23; have c23b1 : (t364 != 0) = false := bne_eq_false_iff_eq.mpr c23; clear c23
            by_cases c24 : t366 = 0
            ·rw [if_pos c24] at H
             have c24b0 : (t366 == 0) = true := beq_iff_eq.mpr c24; have c24b1 : (t366 != 0) = false := bne_eq_false_iff_eq.mpr c24; clear c24; obtain rfl := Option.some.inj H
             go_wp2
             go_ret
             exact ⟨by first | rfl | (simp [errW_none, errW_some] <;> rfl) | (simp [*, errW_none, errW_some] <;> rfl), by repeat (first | (with_reducible first | exact HB.out | apply below_alloc | apply pw_below_drewN | apply below_drew1) | exact HB.out)⟩
            ·rw [if_neg c24] at H
             have c24b0 : (t366 == 0) = false := beq_eq_false_iff_ne.mpr c24; have c24b1 : (t366 != 0) = true := bne_iff_ne.mpr c24; obtain rfl := Option.some.inj H
             go_wp2
             go_ret
             exact ⟨by first | rfl | (simp [errW_none, errW_some] <;> rfl) | (simp [*, errW_none, errW_some] <;> rfl), by repeat (first | (with_reducible first | exact HB.out | apply below_alloc | apply pw_below_drewN | apply below_drew1) | exact HB.out)⟩
           ·rw [if_neg c23] at H
            have c23b0 : (t364 == 0) = false := beq_eq_false_iff_ne.mpr c23; have c23b1 : (t364 != 0) = true := bne_iff_ne.mpr c23
            by_cases c25 : t363 = 0
            ·rw [if_pos c25] at H
             have c25b0 : (t363 == 0) = true := beq_iff_eq.mpr c25; have c25b1 : (t363 != 0) = false := bne_eq_false_iff_eq.mpr c25; clear c25
             by_cases c26 : t366 = 0
             ·rw [if_pos c26] at H
              have c26b0 : (t366 == 0) = true := beq_iff_eq.mpr c26; have c26b1 : (t366 != 0) = false := bne_eq_false_iff_eq.mpr c26; clear c26; obtain rfl := Option.some.inj H
              go_wp2
              go_ret
              exact ⟨by first | rfl | (simp [errW_none, errW_some] <;> rfl) | (simp [*, errW_none, errW_some] <;> rfl), by repeat (first | (with_reducible first | exact HB.out | apply below_alloc | apply pw_below_drewN | apply below_drew1) | exact HB.out)⟩
             ·rw [if_neg c26] at H
              have c26b0 : (t366 == 0) = false := beq_eq_false_iff_ne.mpr c26; have c26b1 : (t366 != 0) = true := bne_iff_ne.mpr c26; obtain rfl := Option.some.inj H
              go_wp2
              go_ret
              exact ⟨by first | rfl | (simp [errW_none, errW_some] <;> rfl) | (simp [*, errW_none, errW_some] <;> rfl), by repeat (first | (with_reducible first | exact HB.out | apply below_alloc | apply pw_below_drewN | apply below_drew1) | exact HB.out)⟩
            ·rw [if_neg c25] at H
             exact absurd H (by simp)
          ·rw [if_neg c22] at H
           exact absurd H (by simp)
        ·rw [if_neg c20] at H
         exact absurd H (by simp)
       ·rw [if_neg c19] at H
        exact absurd H (by simp)
      ·rw [if_neg c18] at H
       have c18b0 : (t362 == 20) = false := beq_eq_false_iff_ne.mpr c18; have c18b1 : (t362 != 20) = true := bne_iff_ne.mpr c18
       have hq_c18 : decide (a2 < 1) = false := by have h_ := c17b0; rw [c18b0] at h_; simpa using h_
       by_cases c27 : t362 = 0
       ·rw [if_pos c27] at H
        have c27b0 : (t362 == 0) = true := beq_iff_eq.mpr c27; have c27b1 : (t362 != 0) = false := bne_eq_false_iff_eq.mpr c27; clear c27
        by_cases c28 : t364 = 0
        ·rw [if_pos c28] at H
         have c28b0 : (t364 == 0) = true := beq_iff_eq.mpr c28; have c28b1 : (t364 != 0) = false := bne_eq_false_iff_eq.mpr c28; clear c28
         by_cases c29 : t366 = 0
         ·rw [if_pos c29] at H
          have c29b0 : (t366 == 0) = true := beq_iff_eq.mpr c29; have c29b1 : (t366 != 0) = false := bne_eq_false_iff_eq.mpr c29; clear c29; obtain rfl := Option.some.inj H
          go_wp2
          go_ret
          exact ⟨by first | rfl | (simp [errW_none, errW_some] <;> rfl) | (simp [*, errW_none, errW_some] <;> rfl), by repeat (first | (with_reducible first | exact HB.out | apply below_alloc | apply pw_below_drewN | apply below_drew1) | exact HB.out)⟩
         ·rw [if_neg c29] at H
          have c29b0 : (t366 == 0) = false := beq_eq_false_iff_ne.mpr c29; have c29b1 : (t366 != 0) = true := bne_iff_ne.mpr c29; obtain rfl := Option.some.inj H
          go_wp2
          go_ret
          exact ⟨by first | rfl | (simp [errW_none, errW_some] <;> rfl) | (simp [*, errW_none, errW_some] <;> rfl), by repeat (first | (with_reducible first | exact HB.out | apply below_alloc | apply pw_below_drewN | apply below_drew1) | exact HB.out)⟩
        ·rw [if_neg c28] at H
         have c28b0 : (t364 == 0) = false := beq_eq_false_iff_ne.mpr c28; have c28b1 : (t364 != 0) = true := bne_iff_ne.mpr c28
         by_cases c30 : t363 = 0
         ·rw [if_pos c30] at H
          have c30b0 : (t363 == 0) = true := beq_iff_eq.mpr c30; have c30b1 : (t363 != 0) = false := bne_eq_false_iff_eq.mpr c30; clear c30
          by_cases c31 : t366 = 0
          ·rw [if_pos c31] at H
           have c31b0 : (t366 == 0) = true := beq_iff_eq.mpr c31; have c31b1 : (t366 != 0) = false := bne_eq_false_iff_eq.mpr c31; clear c31; obtain rfl := Option.some.inj H
           go_wp2
           go_ret
           exact ⟨by first | rfl | (simp [errW_none, errW_some] <;> rfl) | (simp [*, errW_none, errW_some] <;> rfl), by repeat (first | (with_reducible first | exact HB.out | apply below_alloc | apply pw_below_drewN | apply below_drew1) | exact HB.out)⟩
          ·rw [if_neg c31] at H
           have c31b0 : (t366 == 0) = false := beq_eq_false_iff_ne.mpr c31; have c31b1 : (t366 != 0) = true := bne_iff_ne.mpr c31; obtain rfl := Option.some.inj H
           go_wp2
           go_ret
           exact ⟨by first | rfl | (simp [errW_none, errW_some] <;> rfl) | (simp [*, errW_none, errW_some] <;> rfl), by repeat (first | (with_reducible first | exact HB.out | apply below_alloc | apply pw_below_drewN | apply below_drew1) | exact HB.out)⟩
         ·rw [if_neg c30] at H
          exact absurd H (by simp)
       ·rw [if_neg c27] at H
        have c27b0 : (t362 == 0) = false := beq_eq_false_iff_ne.mpr c27; have c27b1 : (t362 != 0) = true := bne_iff_ne.mpr c27
        by_cases c32 : t361 = 0
        ·rw [if_pos c32] at H
         have c32b0 : (t361 == 0) = true := beq_iff_eq.mpr c32; have c32b1 : (t361 != 0) = false := bne_eq_false_iff_eq.mpr c32; clear c32
         by_cases c33 : t364 = 0
         ·rw [if_pos c33] at H
          have c33b0 : (t364 == 0) = true := beq_iff_eq.mpr c33; have c33b1 : (t364 != 0) = false := bne_eq_false_iff_eq.mpr c33; clear c33
          by_cases c34 : t366 = 0
          ·rw [if_pos c34] at H
           have c34b0 : (t366 == 0) = true := beq_iff_eq.mpr c34; have c34b1 : (t366 != 0) = false := bne_eq_false_iff_eq.mpr c34; clear c34; obtain rfl := Option.some.inj H
           go_wp2
           go_ret
           exact ⟨by first | rfl | (simp [errW_none, errW_some] <;> rfl) | (simp [*, errW_none, errW_some] <;> rfl), by repeat (first | (with_reducible first | exact HB.out | apply below_alloc | apply pw_below_drewN | apply below_drew1) | exact HB.out)⟩
          ·rw [if_neg c34] at H
           have c34b0 : (t366 == 0) = false := beq_eq_false_iff_ne.mpr c34; have c34b1 : (t366 != 0) = true := bne_iff_ne.mpr c34; obtain rfl := Option.some.inj H
           go_wp2
           go_ret
           exact ⟨by first | rfl | (simp [errW_none, errW_some] <;> rfl) | (simp [*, errW_none, errW_some] <;> rfl), by repeat (first | (with_reducible first | exact HB.out | apply below_alloc | apply pw_below_drewN | apply below_drew1) | exact HB.out)⟩
         ·rw [if_neg c33] at H
          have c33b0 : (t364 == 0) = false := beq_eq_false_iff_ne.mpr c33; have c33b1 : (t364 != 0) = true := bne_iff_ne.mpr c33
          by_cases c35 : t363 = 0
          ·rw [if_pos c35] at H
           have c35b0 : (t363 == 0) = true := beq_iff_eq.mpr c35; have c35b1 : (t363 != 0) = false := bne_eq_false_iff_eq.mpr c35; clear c35
           by_cases c36 : t366 = 0
           ·rw [if_pos c36] at H
            have c36b0 : (t366 == 0) = true := beq_iff_eq.mpr c36; have c36b1 : (t366 != 0) = false := bne_eq_false_iff_eq.mpr c36; clear c36; obtain rfl := Option.some.inj H
            go_wp2
            go_ret
            exact ⟨by first | rfl | (simp [errW_none, errW_some] <;> rfl) | (simp [*, errW_none, errW_some] <;> rfl), by repeat (first | (with_reducible first | exact HB.out | apply below_alloc | apply pw_below_drewN | apply below_drew1) | exact HB.out)⟩
           ·rw [if_neg c36] at H
            have c36b0 : (t366 == 0) = false := beq_eq_false_iff_ne.mpr c36; have c36b1 : (t366 != 0) = true := bne_iff_ne.mpr c36; obtain rfl := Option.some.inj H
            go_wp2
            go_ret
            exact ⟨by first | rfl | (simp [errW_none, errW_some] <;> rfl) | (simp [*, errW_none, errW_some] <;> rfl), by repeat (first | (with_reducible first | exact HB.out | apply below_alloc | apply pw_below_drewN | apply below_drew1) | exact HB.out)⟩
          ·rw [if_neg c35] at H
           exact absurd H (by simp)
        ·rw [if_neg c32] at H
         exact absurd H (by simp)
     ·rw [if_neg c17] at H
      exact absurd H (by simp)
    ·replace c16 := Bool.eq_false_iff.mpr c16
     subst c16
     have H1 : (none) = some r := by rw [if_neg (show ¬ (false = true) by decide)] at H; exact H
     clear H; have H := H1; clear H1; exact absurd H (by simp)
   ·replace c15 := Bool.eq_false_iff.mpr c15
    subst c15
    have H1 : ((sawtoothref02_MulS.f a0 a1).bind fun bt367 => (if t360 = true then (if t361 ≤ t363 then (if t363 ≤ t365 then (if (wrap64 (t365 - t361)) ≤ 1 then ((sawtoothref02_MulS.f t361 a2).bind fun bt371 => ((sawtoothref02_CmpS.f bt371.1 bt371.2.1 bt371.2.2 bt367.1 bt367.2.1 bt367.2.2).bind fun t374 => (if t374 ≤ 0 then ((sawtoothref02_MulS.f t365 a2).bind fun bt375 => ((sawtoothref02_CmpS.f bt375.1 bt375.2.1 bt375.2.2 bt367.1 bt367.2.1 bt367.2.2).bind fun t378 => (some (decide (t378 ≥ 0))))) else (none)))) else (none)) else (none)) else (none)) else (none))) = some r := by rw [if_neg (show ¬ (false = true) by decide)] at H; exact H
    clear H; have H := H1; clear H1; replace H := Option.bind_eq_some_iff.mp H; obtain ⟨⟨t367, t368, t369⟩, A370, H⟩ := H; (try dsimp only at H); have A37 := Aside0.mk A370; clear A370
    by_cases c38 : t360 = true
    ·subst c38
     have H1 : (if t361 ≤ t363 then (if t363 ≤ t365 then (if (wrap64 (t365 - t361)) ≤ 1 then ((sawtoothref02_MulS.f t361 a2).bind fun bt371 => ((sawtoothref02_CmpS.f bt371.1 bt371.2.1 bt371.2.2 t367 t368 t369).bind fun t374 => (if t374 ≤ 0 then ((sawtoothref02_MulS.f t365 a2).bind fun bt375 => ((sawtoothref02_CmpS.f bt375.1 bt375.2.1 bt375.2.2 t367 t368 t369).bind fun t378 => (some (decide (t378 ≥ 0))))) else (none)))) else (none)) else (none)) else (none)) = some r := by rw [if_pos rfl] at H; exact H
     clear H; have H := H1; clear H1
     by_cases c39 : t361 ≤ t363
     ·rw [if_pos c39] at H
      have c39b0 : decide (t361 ≤ t363) = true := decide_eq_true c39; clear c39
      by_cases c40 : t363 ≤ t365
      ·rw [if_pos c40] at H
       have c40b0 : decide (t363 ≤ t365) = true := decide_eq_true c40; clear c40
       by_cases c41 : (wrap64 (t365 - t361)) ≤ 1
       ·rw [if_pos c41] at H
        have c41b0 : decide ((wrap64 (t365 - t361)) ≤ 1) = true := decide_eq_true c41; clear c41; replace H := Option.bind_eq_some_iff.mp H; obtain ⟨⟨t371, t372, t373⟩, A420, H⟩ := H; (try dsimp only at H); have A42 := Aside0.mk A420; clear A420; replace H := Option.bind_eq_some_iff.mp H; obtain ⟨t374, A430, H⟩ := H; (try dsimp only at H); have A43 := Aside0.mk A430; clear A430
        by_cases c44 : t374 ≤ 0
        ·rw [if_pos c44] at H
         have c44b0 : decide (t374 ≤ 0) = true := decide_eq_true c44; clear c44; replace H := Option.bind_eq_some_iff.mp H; obtain ⟨⟨t375, t376, t377⟩, A450, H⟩ := H; replace H : ((sawtoothref02_CmpS.f t375 t376 t377 t367 t368 t369).bind fun t378 => (some (decide (t378 ≥ 0)))) = some r := H; have A45 := Aside0.mk A450; clear A450; replace H := Option.bind_eq_some_iff.mp H; obtain ⟨t378, A460, H⟩ := H; replace H : (some (decide (t378 ≥ 0))) = some r := H; have A46 := Aside0.mk A460; clear A460; obtain rfl := Option.some.inj H
         try go_wp2_with (first | ((with_reducible refine gate_callee (f := 25) rfl ?_); refine goesLA_ (some 95) rfl rfl Try.func25 rfl #[.int .i64 a0, .int .i64 a1] rfl ?_; (with_reducible refine (sawtoothref02_MulS.calls a0 a1 t367 t368 t369 _ A37.out).mono ?_); rintro e w47 ⟨rfl, hb⟩; refine ⟨_, rfl, ?_⟩; replace HB := stA hb; (try clear hb); (try clear hb2); (try clear hk); (try clear hi)) | ((with_reducible refine gate_dst (N := 14) rfl ?_); refine box_event ?hg (N := 14) ?hd (cs := #[.bool false, .int .u64 0, .int .u64 0]) (t := 24) ?hr ?_; (case hd => rfl); (case hg => rfl); (case hr => first | (go_simp; done) | (go_simp; rfl)); intro gb370 hg w48 hbox hb; have BK370 := Aside0.mk (hbox); obtain ⟨GW370, nHB⟩ := geA hg hb; have GE370 := GW370; replace HB := nHB; clear nHB; clear hb hbox hg; have hcz49_0 := czZ BK370 0 (.bool false); have hcz49_1 := czZ BK370 1 (.int .u64 0); have hcz49_2 := czZ BK370 2 (.int .u64 0); have hfz49_0 := blk_frozen BK370.out 0; have hfz49_1 := blk_frozen BK370.out 1; have hfz49_2 := blk_frozen BK370.out 2))
         have n0_ : Aside0 ((((w48.setCell ⟨gb370, 0, none⟩ (.bool t367)).setCell ⟨gb370, 1, none⟩ (.int .u64 t368)).setCell ⟨gb370, 2, none⟩ (.int .u64 t369)).heap[gb370]? = some (.cells #[.bool t367, .int .u64 t368, .int .u64 t369] 24 (0, 0))) := ⟨by (with_reducible repeat (first | refine blk_drewN ?_ _ | refine blk_drew ?_ | refine blk_alloc ?_ _)); refine blk_put (cs := #[.bool t367, .int .u64 t368, .int .u64 0]) ?_ 2 _ rfl; (with_reducible repeat (first | refine blk_drewN ?_ _ | refine blk_drew ?_ | refine blk_alloc ?_ _)); refine blk_put (cs := #[.bool t367, .int .u64 0, .int .u64 0]) ?_ 1 _ rfl; (with_reducible repeat (first | refine blk_drewN ?_ _ | refine blk_drew ?_ | refine blk_alloc ?_ _)); refine blk_put (cs := #[.bool false, .int .u64 0, .int .u64 0]) ?_ 0 _ rfl; (with_reducible repeat (first | refine blk_drewN ?_ _ | refine blk_drew ?_ | refine blk_alloc ?_ _)); exact BK370.out⟩
         have n1_ : Aside0 (Below w.heap.size w (((w48.setCell ⟨gb370, 0, none⟩ (.bool t367)).setCell ⟨gb370, 1, none⟩ (.int .u64 t368)).setCell ⟨gb370, 2, none⟩ (.int .u64 t369))) := ⟨by repeat (first | (with_reducible first | exact HB.out | apply below_alloc | apply pw_below_drewN | apply below_drew1 | refine below_set ?_ GE370.out) | exact HB.out)⟩
         (try clear BK370); (try clear HB)
         generalize (((w48.setCell ⟨gb370, 0, none⟩ (.bool t367)).setCell ⟨gb370, 1, none⟩ (.int .u64 t368)).setCell ⟨gb370, 2, none⟩ (.int .u64 t369)) = w50 at n0_ n1_ ⊢
         have BK370 := n0_; have HB := n1_; clear n0_ n1_; replace BK370 := Aside0.mk (blk_drew BK370.out); replace HB := Aside0.mk (below_drew1 HB.out); refine start_ (n := 34) (S := fun w' => w'.cell? ⟨gb370, 0, none⟩ = some (.bool t367) ∧ w'.cell? ⟨gb370, 1, none⟩ = some (.int .u64 t368) ∧ w'.cell? ⟨gb370, 2, none⟩ = some (.int .u64 t369)) (ds := []) #[N,N,N,N,N,N,N,N,N,N,N,N,N,N,N,N,N,N,N,N,N,N,N,N,N,N,N,N,N,N,N,N,N,N] (by kernel_rfl) rfl rfl ⟨(blk_cell BK370.out 0).trans rfl, (blk_cell BK370.out 1).trans rfl, (blk_cell BK370.out 2).trans rfl⟩ (fun hHeld => ?_); refine with_tabW sawtoothlaw04_FracParts.tab8 sawtoothlaw04_FracParts.bits8 (fun HT_ HW_ => ?_)
         generalize w50.drew = w51 at BK370 HB hHeld ⊢
         refine pure_ (i := 0) (N := some 96) (v := ?_) (a' := ?_) #[Y,N,N,N,N,N,N,N,N,N,N,N,N,N,N,N,N,N,N,N,N,N,N,N,N,N,N,N,N,N,N,N,N,N] rfl rfl (any_of HT_.out (by kernel_rfl)) (fun _ _ _ h => h) (Or.inl ⟨by rfl, ?_⟩) ?_ ?_; rotate_left
         ·intro w'; go_simp
          with_reducible rfl
         rotate_left
         ·simp only [Act.put, sA, sB, sC, i64_w, i32_w]
          rfl
         refine pure_ (i := 1) (N := some 97) (v := ?_) (a' := ?_) #[Y,Y,N,N,N,N,N,N,N,N,N,N,N,N,N,N,N,N,N,N,N,N,N,N,N,N,N,N,N,N,N,N,N,N] rfl rfl (any_of HT_.out (by kernel_rfl)) (fun _ _ _ h => h) (Or.inl ⟨by rfl, ?_⟩) ?_ ?_; rotate_left
         ·intro w'; go_simp
          with_reducible rfl
         rotate_left
         ·simp only [Act.put, sA, sB, sC, i64_w, i32_w]
          rfl
         refine pure_ (i := 2) (N := some 98) (v := ?_) (a' := ?_) #[Y,Y,Y,N,N,N,N,N,N,N,N,N,N,N,N,N,N,N,N,N,N,N,N,N,N,N,N,N,N,N,N,N,N,N] rfl rfl (any_of HT_.out (by kernel_rfl)) (fun _ _ _ h => h) (Or.inl ⟨by rfl, ?_⟩) ?_ ?_; rotate_left
         ·intro w'; go_simp
          with_reducible rfl
         rotate_left
         ·simp only [Act.put, sA, sB, sC, i64_w, i32_w]
          rfl
         refine pure_ (i := 3) (N := some 99) (v := ?_) (a' := ?_) #[Y,Y,Y,Y,N,N,N,N,N,N,N,N,N,N,N,N,N,N,N,N,N,N,N,N,N,N,N,N,N,N,N,N,N,N] rfl rfl (any_of HT_.out (by kernel_rfl)) (fun _ _ _ h => h) (Or.inl ⟨by rfl, ?_⟩) ?_ ?_; rotate_left
         ·intro w'; go_simp
          with_reducible rfl
         rotate_left
         ·simp only [Act.put, sA, sB, sC, i64_w, i32_w]
          rfl
         refine pure_ (i := 4) (N := some 100) (v := ?_) (a' := ?_) #[Y,Y,Y,Y,Y,N,N,N,N,N,N,N,N,N,N,N,N,N,N,N,N,N,N,N,N,N,N,N,N,N,N,N,N,N] rfl rfl (any_of HT_.out (by kernel_rfl)) (fun _ _ _ h => h) (Or.inl ⟨by rfl, ?_⟩) ?_ ?_; rotate_left
         ·intro w'; go_simp
          with_reducible rfl
         rotate_left
         ·simp only [Act.put, sA, sB, sC, i64_w, i32_w]
          rfl
         refine pure_ (i := 5) (N := some 101) (v := ?_) (a' := ?_) #[Y,Y,Y,Y,Y,Y,N,N,N,N,N,N,N,N,N,N,N,N,N,N,N,N,N,N,N,N,N,N,N,N,N,N,N,N] rfl rfl (any_of HT_.out (by kernel_rfl)) (fun _ _ _ h => h) (Or.inl ⟨by rfl, ?_⟩) ?_ ?_; rotate_left
         ·intro w'; go_simp
          with_reducible rfl
         rotate_left
         ·simp only [Act.put, sA, sB, sC, i64_w, i32_w]
          rfl
         refine pure_ (i := 6) (N := some 102) (v := ?_) (a' := ?_) #[Y,Y,Y,Y,Y,Y,Y,N,N,N,N,N,N,N,N,N,N,N,N,N,N,N,N,N,N,N,N,N,N,N,N,N,N,N] rfl rfl (any_of HT_.out (by kernel_rfl)) (fun _ _ _ h => h) (Or.inl ⟨by rfl, ?_⟩) ?_ ?_; rotate_left
         ·intro w'; go_simp
          with_reducible rfl
         rotate_left
         ·simp only [Act.put, sA, sB, sC, i64_w, i32_w]
          rfl
         refine pure_ (i := 7) (N := some 103) (v := ?_) (a' := ?_) #[Y,Y,Y,Y,Y,Y,Y,Y,N,N,N,N,N,N,N,N,N,N,N,N,N,N,N,N,N,N,N,N,N,N,N,N,N,N] rfl rfl (any_of HT_.out (by kernel_rfl)) (fun _ _ _ h => h) (Or.inl ⟨by rfl, ?_⟩) ?_ ?_; rotate_left
         ·intro w'; go_simp
          with_reducible rfl
         rotate_left
         ·simp only [Act.put, sA, sB, sC, i64_w, i32_w]
          rfl
         refine pure_ (i := 8) (N := some 104) (v := ?_) (a' := ?_) #[Y,Y,Y,Y,Y,Y,Y,Y,Y,N,N,N,N,N,N,N,N,N,N,N,N,N,N,N,N,N,N,N,N,N,N,N,N,N] rfl rfl (any_of HT_.out (by kernel_rfl)) (fun _ _ _ h => h) (Or.inl ⟨by rfl, ?_⟩) ?_ ?_; rotate_left
         ·intro w'; go_simp
          with_reducible rfl
         rotate_left
         ·simp only [Act.put, sA, sB, sC, i64_w, i32_w]
          rfl
         refine pure_ (i := 9) (N := some 105) (v := ?_) (a' := ?_) #[Y,Y,Y,Y,Y,Y,Y,Y,Y,Y,N,N,N,N,N,N,N,N,N,N,N,N,N,N,N,N,N,N,N,N,N,N,N,N] rfl rfl (any_of HT_.out (by kernel_rfl)) (fun _ _ _ h => h) (Or.inl ⟨by rfl, ?_⟩) ?_ ?_; rotate_left
         ·intro w'; go_simp
          with_reducible rfl
         rotate_left
         ·simp only [Act.put, sA, sB, sC, i64_w, i32_w]
          rfl
         refine pure_ (i := 10) (N := some 106) (v := ?_) (a' := ?_) #[Y,Y,Y,Y,Y,Y,Y,Y,Y,Y,Y,N,N,N,N,N,N,N,N,N,N,N,N,N,N,N,N,N,N,N,N,N,N,N] rfl rfl (any_of HT_.out (by kernel_rfl)) (fun _ _ _ h => h) (Or.inl ⟨by rfl, ?_⟩) ?_ ?_; rotate_left
         ·intro w'; go_simp
          with_reducible rfl
         rotate_left
         ·simp only [Act.put, sA, sB, sC, i64_w, i32_w]
          rfl
         refine pure_ (i := 11) (N := some 107) (v := ?_) (a' := ?_) #[Y,Y,Y,Y,Y,Y,Y,Y,Y,Y,Y,Y,N,N,N,N,N,N,N,N,N,N,N,N,N,N,N,N,N,N,N,N,N,N] rfl rfl (any_of HT_.out (by kernel_rfl)) (fun _ _ _ h => h) (Or.inl ⟨by rfl, ?_⟩) ?_ ?_; rotate_left
         ·intro w'; go_simp
          with_reducible rfl
         rotate_left
         ·simp only [Act.put, sA, sB, sC, i64_w, i32_w]
          rfl
         refine pure_ (i := 12) (N := some 108) (v := ?_) (a' := ?_) #[Y,Y,Y,Y,Y,Y,Y,Y,Y,Y,Y,Y,Y,N,N,N,N,N,N,N,N,N,N,N,N,N,N,N,N,N,N,N,N,N] rfl rfl (any_of HT_.out (by kernel_rfl)) (fun _ _ _ h => h) (Or.inl ⟨by rfl, ?_⟩) ?_ ?_; rotate_left
         ·intro w'; go_simp
          with_reducible rfl
         rotate_left
         ·simp only [Act.put, sA, sB, sC, i64_w, i32_w]
          rfl
         refine pure_ (i := 13) (N := some 109) (v := ?_) (a' := ?_) #[Y,Y,Y,Y,Y,Y,Y,Y,Y,Y,Y,Y,Y,Y,N,N,N,N,N,N,N,N,N,N,N,N,N,N,N,N,N,N,N,N] rfl rfl (any_of HT_.out (by kernel_rfl)) (fun _ _ _ h => h) (Or.inl ⟨by rfl, ?_⟩) ?_ ?_; rotate_left
         ·intro w'; go_simp
          with_reducible rfl
         rotate_left
         ·simp only [Act.put, sA, sB, sC, i64_w, i32_w]
          rfl
         refine pure_ (i := 14) (N := some 110) (v := ?_) (a' := ?_) #[Y,Y,Y,Y,Y,Y,Y,Y,Y,Y,Y,Y,Y,Y,Y,N,N,N,N,N,N,N,N,N,N,N,N,N,N,N,N,N,N,N] rfl rfl (any_of HT_.out (by kernel_rfl)) (fun _ _ _ h => h) (Or.inl ⟨by rfl, ?_⟩) ?_ ?_; rotate_left
         ·intro w'; go_simp
          with_reducible rfl
         rotate_left
         ·simp only [Act.put, sA, sB, sC, i64_w, i32_w]
          rfl
         refine pure_ (i := 15) (N := some 111) (v := ?_) (a' := ?_) #[Y,Y,Y,Y,Y,Y,Y,Y,Y,Y,Y,Y,Y,Y,Y,Y,N,N,N,N,N,N,N,N,N,N,N,N,N,N,N,N,N,N] rfl rfl (any_of HT_.out (by kernel_rfl)) (fun _ _ _ h => h) (Or.inl ⟨by rfl, ?_⟩) ?_ ?_; rotate_left
         ·intro w'; go_simp
          with_reducible rfl
         rotate_left
         ·simp only [Act.put, sA, sB, sC, i64_w, i32_w]
          rfl
         refine pure_ (i := 16) (N := some 112) (v := ?_) (a' := ?_) #[Y,Y,Y,Y,Y,Y,Y,Y,Y,Y,Y,Y,Y,Y,Y,Y,Y,N,N,N,N,N,N,N,N,N,N,N,N,N,N,N,N,N] rfl rfl (any_of HT_.out (by kernel_rfl)) (fun _ _ _ h => h) (Or.inl ⟨by rfl, ?_⟩) ?_ ?_; rotate_left
         ·intro w'; go_simp
          with_reducible rfl
         rotate_left
         ·simp only [Act.put, sA, sB, sC, i64_w, i32_w]
          rfl
         refine pure_ (i := 17) (N := some 113) (v := ?_) (a' := ?_) #[Y,Y,Y,Y,Y,Y,Y,Y,Y,Y,Y,Y,Y,Y,Y,Y,Y,Y,N,N,N,N,N,N,N,N,N,N,N,N,N,N,N,N] rfl rfl (any_of HT_.out (by kernel_rfl)) (fun _ _ _ h => h) (Or.inl ⟨by rfl, ?_⟩) ?_ ?_; rotate_left
         ·intro w'; go_simp
          with_reducible rfl
         rotate_left
         ·simp only [Act.put, sA, sB, sC, i64_w, i32_w]
          rfl
         refine pure_ (i := 18) (N := some 114) (v := ?_) (a' := ?_) #[Y,Y,Y,Y,Y,Y,Y,Y,Y,Y,Y,Y,Y,Y,Y,Y,Y,Y,Y,N,N,N,N,N,N,N,N,N,N,N,N,N,N,N] rfl rfl (any_of HT_.out (by kernel_rfl)) (fun _ _ _ h => h) (Or.inl ⟨by rfl, ?_⟩) ?_ ?_; rotate_left
         ·intro w'; go_simp
          with_reducible rfl
         rotate_left
         ·simp only [Act.put, sA, sB, sC, i64_w, i32_w]
          rfl
         refine pure_ (i := 19) (N := some 115) (v := ?_) (a' := ?_) #[Y,Y,Y,Y,Y,Y,Y,Y,Y,Y,Y,Y,Y,Y,Y,Y,Y,Y,Y,Y,N,N,N,N,N,N,N,N,N,N,N,N,N,N] rfl rfl (any_of HT_.out (by kernel_rfl)) (fun _ _ _ h => h) (Or.inl ⟨by rfl, ?_⟩) ?_ ?_; rotate_left
         ·intro w'; go_simp
          with_reducible rfl
         rotate_left
         ·simp only [Act.put, sA, sB, sC, i64_w, i32_w]
          rfl
         refine take_ (i := 21) (N := some 117) (v := ?_) (a' := ?_) #[Y,Y,Y,Y,Y,Y,Y,Y,Y,Y,Y,Y,Y,Y,Y,Y,Y,Y,Y,Y,N,Y,N,N,N,N,N,N,N,N,N,N,N,N] rfl rfl (take_ofW HT_.out HW_.out (by kernel_rfl)) (fun _ _ _ h => h) (Or.inl ⟨by rfl, ?_⟩) hHeld ?_ ?_; rotate_left
         ·rintro w' ⟨s0, s1, s2⟩; go_simp
          with_reducible rfl
         rotate_left
         ·simp only [Act.put, sA, sB, sC, i64_w, i32_w]
          rfl
         refine one_ (i := 20) (N := some 116) #[Y,Y,Y,Y,Y,Y,Y,Y,Y,Y,Y,Y,Y,Y,Y,Y,Y,Y,Y,Y,Y,Y,N,N,N,N,N,N,N,N,N,N,N,N] rfl rfl (one_of HT_.out (by kernel_rfl)) (by decide) (fun K hK => ?_); refine goesA_ Try.func25 rfl #[.int .i64 t361, .int .i64 a2] (by rfl) rfl rfl ?_
         with_reducible refine (sawtoothref02_MulS.calls t361 a2 t371 t372 t373 _ A42.out).mono ?_
         rintro e w52 ⟨rfl, hb⟩; refine ⟨_, rfl, ?_⟩; replace BK370 := bbZ BK370 hb; replace HB := Aside0.mk (below_step HB.out hb); (try clear hb); (try clear hb2); (try clear hk); (try clear hi); refine hK.out _ _ ⟨(blk_cell BK370.out 0).trans rfl, (blk_cell BK370.out 1).trans rfl, (blk_cell BK370.out 2).trans rfl⟩ (fun hHeld => ?_); clear hK K; refine norm_ (a' := ?_) ?_ ?_; rotate_left
         ·show Act.put _ (some 116) _ = _
          simp only [Act.put, sA, sB, sC, i64_w, i32_w]
          rfl
         refine one_ (i := 22) (N := some 118) #[Y,Y,Y,Y,Y,Y,Y,Y,Y,Y,Y,Y,Y,Y,Y,Y,Y,Y,Y,Y,Y,Y,Y,N,N,N,N,N,N,N,N,N,N,N] rfl rfl (one_of HT_.out (by kernel_rfl)) (by decide) (fun K hK => ?_); refine goesA_ Try.func29 rfl #[.agg #[.bool t371, .int .u64 t372, .int .u64 t373], .agg #[.bool t367, .int .u64 t368, .int .u64 t369]] (by rfl) rfl rfl ?_
         with_reducible refine (sawtoothref02_CmpS.calls t371 t372 t373 t367 t368 t369 t374 _ A43.out).mono ?_
         rintro e w53 ⟨rfl, hb⟩; refine ⟨_, rfl, ?_⟩; replace BK370 := bbZ BK370 hb; replace HB := Aside0.mk (below_step HB.out hb); (try clear hb); (try clear hb2); (try clear hk); (try clear hi); refine hK.out _ _ ⟨(blk_cell BK370.out 0).trans rfl, (blk_cell BK370.out 1).trans rfl, (blk_cell BK370.out 2).trans rfl⟩ (fun hHeld => ?_); clear hK K; refine norm_ (a' := ?_) ?_ ?_; rotate_left
         ·show Act.put _ (some 118) _ = _
          simp only [Act.put, sA, sB, sC, i64_w, i32_w]
          rfl
         refine pure_ (i := 23) (N := some 119) (v := ?_) (a' := ?_) #[Y,Y,Y,Y,Y,Y,Y,Y,Y,Y,Y,Y,Y,Y,Y,Y,Y,Y,Y,Y,Y,Y,Y,Y,N,N,N,N,N,N,N,N,N,N] rfl rfl (any_of HT_.out (by kernel_rfl)) (fun _ _ _ h => h) (Or.inl ⟨by rfl, ?_⟩) ?_ ?_; rotate_left
         ·intro w'; go_simp
          with_reducible rfl
         rotate_left
         ·simp only [Act.put, sA, sB, sC, i64_w, i32_w]
          rfl
         refine pure_ (i := 24) (N := some 120) (v := ?_) (a' := ?_) #[Y,Y,Y,Y,Y,Y,Y,Y,Y,Y,Y,Y,Y,Y,Y,Y,Y,Y,Y,Y,Y,Y,Y,Y,Y,N,N,N,N,N,N,N,N,N] rfl rfl (any_of HT_.out (by kernel_rfl)) (fun _ _ _ h => h) (Or.inl ⟨by rfl, ?_⟩) ?_ ?_; rotate_left
         ·intro w'; go_simp
          with_reducible rfl
         rotate_left
         ·simp only [Act.put, sA, sB, sC, i64_w, i32_w]
          rfl
         refine pure_ (i := 25) (N := some 121) (v := ?_) (a' := ?_) #[Y,Y,Y,Y,Y,Y,Y,Y,Y,Y,Y,Y,Y,Y,Y,Y,Y,Y,Y,Y,Y,Y,Y,Y,Y,Y,N,N,N,N,N,N,N,N] rfl rfl (any_of HT_.out (by kernel_rfl)) (fun _ _ _ h => h) (Or.inl ⟨by rfl, ?_⟩) ?_ ?_; rotate_left
         ·intro w'; go_simp
          with_reducible rfl
         rotate_left
         ·simp only [Act.put, sA, sB, sC, i64_w, i32_w]
          rfl
         refine pure_ (i := 26) (N := some 122) (v := ?_) (a' := ?_) #[Y,Y,Y,Y,Y,Y,Y,Y,Y,Y,Y,Y,Y,Y,Y,Y,Y,Y,Y,Y,Y,Y,Y,Y,Y,Y,Y,N,N,N,N,N,N,N] rfl rfl (any_of HT_.out (by kernel_rfl)) (fun _ _ _ h => h) (Or.inl ⟨by rfl, ?_⟩) ?_ ?_; rotate_left
         ·intro w'; go_simp
          with_reducible rfl
         rotate_left
         ·simp only [Act.put, sA, sB, sC, i64_w, i32_w]
          rfl
         refine pure_ (i := 27) (N := some 123) (v := ?_) (a' := ?_) #[Y,Y,Y,Y,Y,Y,Y,Y,Y,Y,Y,Y,Y,Y,Y,Y,Y,Y,Y,Y,Y,Y,Y,Y,Y,Y,Y,Y,N,N,N,N,N,N] rfl rfl (any_of HT_.out (by kernel_rfl)) (fun _ _ _ h => h) (Or.inl ⟨by rfl, ?_⟩) ?_ ?_; rotate_left
         ·intro w'; go_simp
          with_reducible rfl
         rotate_left
         ·simp only [Act.put, sA, sB, sC, i64_w, i32_w]
          rfl
         refine take_ (i := 29) (N := some 125) (v := ?_) (a' := ?_) #[Y,Y,Y,Y,Y,Y,Y,Y,Y,Y,Y,Y,Y,Y,Y,Y,Y,Y,Y,Y,Y,Y,Y,Y,Y,Y,Y,Y,N,Y,N,N,N,N] rfl rfl (take_ofW HT_.out HW_.out (by kernel_rfl)) (fun _ _ _ h => h) (Or.inl ⟨by rfl, ?_⟩) hHeld ?_ ?_; rotate_left
         ·rintro w' ⟨s0, s1, s2⟩; go_simp
          with_reducible rfl
         rotate_left
         ·simp only [Act.put, sA, sB, sC, i64_w, i32_w]
          rfl
         refine one_ (i := 28) (N := some 124) #[Y,Y,Y,Y,Y,Y,Y,Y,Y,Y,Y,Y,Y,Y,Y,Y,Y,Y,Y,Y,Y,Y,Y,Y,Y,Y,Y,Y,Y,Y,N,N,N,N] rfl rfl (one_of HT_.out (by kernel_rfl)) (by decide) (fun K hK => ?_); refine goesA_ Try.func25 rfl #[.int .i64 t365, .int .i64 a2] (by rfl) rfl rfl ?_
         with_reducible refine (sawtoothref02_MulS.calls t365 a2 t375 t376 t377 _ A45.out).mono ?_
         rintro e w54 ⟨rfl, hb⟩; refine ⟨_, rfl, ?_⟩; replace BK370 := bbZ BK370 hb; replace HB := Aside0.mk (below_step HB.out hb); (try clear hb); (try clear hb2); (try clear hk); (try clear hi); refine hK.out _ _ ⟨(blk_cell BK370.out 0).trans rfl, (blk_cell BK370.out 1).trans rfl, (blk_cell BK370.out 2).trans rfl⟩ (fun hHeld => ?_); clear hK K; refine norm_ (a' := ?_) ?_ ?_; rotate_left
         ·show Act.put _ (some 124) _ = _
          simp only [Act.put, sA, sB, sC, i64_w, i32_w]
          rfl
         refine one_ (i := 30) (N := some 126) #[Y,Y,Y,Y,Y,Y,Y,Y,Y,Y,Y,Y,Y,Y,Y,Y,Y,Y,Y,Y,Y,Y,Y,Y,Y,Y,Y,Y,Y,Y,Y,N,N,N] rfl rfl (one_of HT_.out (by kernel_rfl)) (by decide) (fun K hK => ?_); refine goesA_ Try.func29 rfl #[.agg #[.bool t375, .int .u64 t376, .int .u64 t377], .agg #[.bool t367, .int .u64 t368, .int .u64 t369]] (by rfl) rfl rfl ?_
         with_reducible refine (sawtoothref02_CmpS.calls t375 t376 t377 t367 t368 t369 t378 _ A46.out).mono ?_
         rintro e w55 ⟨rfl, hb⟩; refine ⟨_, rfl, ?_⟩; replace BK370 := bbZ BK370 hb; replace HB := Aside0.mk (below_step HB.out hb); (try clear hb); (try clear hb2); (try clear hk); (try clear hi); refine hK.out _ _ ⟨(blk_cell BK370.out 0).trans rfl, (blk_cell BK370.out 1).trans rfl, (blk_cell BK370.out 2).trans rfl⟩ (fun hHeld => ?_); clear hK K; refine norm_ (a' := ?_) ?_ ?_; rotate_left
         ·show Act.put _ (some 126) _ = _
          simp only [Act.put, sA, sB, sC, i64_w, i32_w]
          rfl
         refine pure_ (i := 31) (N := some 127) (v := ?_) (a' := ?_) #[Y,Y,Y,Y,Y,Y,Y,Y,Y,Y,Y,Y,Y,Y,Y,Y,Y,Y,Y,Y,Y,Y,Y,Y,Y,Y,Y,Y,Y,Y,Y,Y,N,N] rfl rfl (any_of HT_.out (by kernel_rfl)) (fun _ _ _ h => h) (Or.inl ⟨by rfl, ?_⟩) ?_ ?_; rotate_left
         ·intro w'; go_simp
          with_reducible rfl
         rotate_left
         ·simp only [Act.put, sA, sB, sC, i64_w, i32_w]
          rfl
         refine pure_ (i := 32) (N := some 128) (v := ?_) (a' := ?_) #[Y,Y,Y,Y,Y,Y,Y,Y,Y,Y,Y,Y,Y,Y,Y,Y,Y,Y,Y,Y,Y,Y,Y,Y,Y,Y,Y,Y,Y,Y,Y,Y,Y,N] rfl rfl (any_of HT_.out (by kernel_rfl)) (fun _ _ _ h => h) (Or.inl ⟨by rfl, ?_⟩) ?_ ?_; rotate_left
         ·intro w'; go_simp
          with_reducible rfl
         rotate_left
         ·simp only [Act.put, sA, sB, sC, i64_w, i32_w]
          rfl
         refine pure_ (i := 33) (N := some 6) (v := ?_) (a' := ?_) #[Y,Y,Y,Y,Y,Y,Y,Y,Y,Y,Y,Y,Y,Y,Y,Y,Y,Y,Y,Y,Y,Y,Y,Y,Y,Y,Y,Y,Y,Y,Y,Y,Y,Y] rfl rfl (any_of HT_.out (by kernel_rfl)) (fun _ _ _ h => h) (Or.inl ⟨by rfl, ?_⟩) ?_ ?_; rotate_left
         ·intro w'; go_simp
          with_reducible rfl
         rotate_left
         ·simp only [Act.put, sA, sB, sC, i64_w, i32_w]
          rfl
         refine done_ (done_of HT_.out (by kernel_rfl)) ?_
         try go_wp2
         go_ret
         exact ⟨by first | rfl | (simp [errW_none, errW_some] <;> rfl) | (simp [*, errW_none, errW_some] <;> rfl), by repeat (first | (with_reducible first | exact HB.out | apply below_alloc | apply pw_below_drewN | apply below_drew1 | refine below_set ?_ GE370.out) | exact HB.out)⟩
        ·rw [if_neg c44] at H
         have c44b0 : decide (t374 ≤ 0) = false := decide_eq_false c44; clear c44; exact absurd H (by simp)
       ·rw [if_neg c41] at H
        have c41b0 : decide ((wrap64 (t365 - t361)) ≤ 1) = false := decide_eq_false c41; clear c41; exact absurd H (by simp)
      ·rw [if_neg c40] at H
       have c40b0 : decide (t363 ≤ t365) = false := decide_eq_false c40; clear c40; exact absurd H (by simp)
     ·rw [if_neg c39] at H
      have c39b0 : decide (t361 ≤ t363) = false := decide_eq_false c39; clear c39; exact absurd H (by simp)
    ·replace c38 := Bool.eq_false_iff.mpr c38
     subst c38
     have H1 : (none) = some r := by rw [if_neg (show ¬ (false = true) by decide)] at H; exact H
     clear H; have H := H1; clear H1; exact absurd H (by simp)

/-- THE ONE PURE STATEMENT of sawtoothlaw04_FracParts: yours. -/
def sawtoothlaw04_FracParts.Pure : Prop := ∀ (a0 : Int) (a1 : Int) (a2 : Int), (Lit.int .i64 a0).wf = true → (Lit.int .i64 a1).wf = true → (Lit.int .i64 a2).wf = true → ∃ k, sawtoothlaw04_FracParts.f k a0 a1 a2 = some true
theorem sawtoothlaw04_FracParts.walk (P : sawtoothlaw04_FracParts.Pure) (a0 : Int) (a1 : Int) (a2 : Int) (w : World) (w0 : (Lit.int .i64 a0).wf = true) (w1 : (Lit.int .i64 a1).wf = true) (w2 : (Lit.int .i64 a2).wf = true) :
  Calls Try.prog 10 #[.int .i64 a0, .int .i64 a1, .int .i64 a2] w fun e w' => e = .returned (.bool true) ∧ Below w.heap.size w w' := by
 obtain ⟨k, h⟩ := P a0 a1 a2 w0 w1 w2; refine (sawtoothlaw04_FracParts.calls k a0 a1 a2 true w h).mono ?_; rintro e w' ⟨rfl, hd⟩; exact ⟨rfl, hd⟩

end Go.Proofs.Ytkoeehacildioaa.Px
