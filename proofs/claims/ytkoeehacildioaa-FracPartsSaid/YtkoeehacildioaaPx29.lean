/- Printed by a program of this session (wip/tool/px.py), over the kit's print: for each Go function a Lean function, and the proof that the machine's call answers as that function says. Conditions: none beside what the theorems state. -/
import Derived.Test.YtkoeehacildioaaPx0
import Derived.Test.YtkoeehacildioaaPx26
import Derived.Test.YtkoeehacildioaaPx27
import Derived.Test.YtkoeehacildioaaPx28
import Derived.Test.YtkoeehacildioaaSpec
namespace Go.Proofs.Ytkoeehacildioaa.Px
open Go.RowKit Go.Proofs.YtkoeehacildioaaW.PrintWords Go.Proofs.YtkoeehacildioaaW.PrintLast Go.Proofs.YtkoeehacildioaaW.PrintMore
attribute [local go_sem] max2_int min2_int max_two min_two max_three min_three max_four min_four   -- for this text's walks alone
set_option linter.unusedVariables false
set_option linter.unusedSimpArgs false

/-! ### sawtoothlaw04_awake: function 32 -/
noncomputable def sawtoothlaw04_awake.f  : Option (Bool) := (frac_FloorS.f (-7) 1 2).bind fun bt340 => ((frac_CeilS.f (-7) 1 2).bind fun bt342 => ((frac_NearS.f (-7) 1 2).bind fun bt344 => ((frac_FloorS.f 4611686018427387904 4 1).bind fun bt346 => ((frac_FloorS.f 1 1 0).bind fun bt348 => ((frac_CeilS.f 1 1 (-5)).bind fun bt350 => ((frac_NearS.f 9223372036854775807 9223372036854775807 9223372036854775807).bind fun bt352 => ((frac_SegsS.f 3000 1500).bind fun bt354 => ((frac_BytesS.f 98304 1500).bind fun bt356 => (if bt340.1 = (-4) then (if bt340.2 = 0 then (if bt342.1 = (-3) then (if bt344.1 = (-3) then (if bt346.2 = 10 then (if bt348.2 = 20 then (if bt350.2 = 20 then (if bt352.1 = 9223372036854775807 then (if bt354.1 = 131072 then (if bt356.1 = 2250 then ((frac_Whole.f (-1)).bind fun t358 => (if t358 = (-1) then ((frac_Whole.f 327679).bind fun t359 => (if t359 = 4 then (some true) else (none))) else (none))) else (none)) else (none)) else (none)) else (none)) else (none)) else (none)) else (none)) else (none)) else (none)) else (none))))))))))
set_option maxHeartbeats 8000000 in
set_option maxRecDepth 100000 in
theorem sawtoothlaw04_awake.calls  (r : Bool) (w : World) (h : sawtoothlaw04_awake.f  = some r) :
  Calls Try.prog 32 #[] w fun e w' => e = .returned (.bool r) ∧ Below w.heap.size w w' := by
 have HB := Aside0.mk (Below.refl w.heap.size w); have H : ((frac_FloorS.f (-7) 1 2).bind fun bt340 => ((frac_CeilS.f (-7) 1 2).bind fun bt342 => ((frac_NearS.f (-7) 1 2).bind fun bt344 => ((frac_FloorS.f 4611686018427387904 4 1).bind fun bt346 => ((frac_FloorS.f 1 1 0).bind fun bt348 => ((frac_CeilS.f 1 1 (-5)).bind fun bt350 => ((frac_NearS.f 9223372036854775807 9223372036854775807 9223372036854775807).bind fun bt352 => ((frac_SegsS.f 3000 1500).bind fun bt354 => ((frac_BytesS.f 98304 1500).bind fun bt356 => (if bt340.1 = (-4) then (if bt340.2 = 0 then (if bt342.1 = (-3) then (if bt344.1 = (-3) then (if bt346.2 = 10 then (if bt348.2 = 20 then (if bt350.2 = 20 then (if bt352.1 = 9223372036854775807 then (if bt354.1 = 131072 then (if bt356.1 = 2250 then ((frac_Whole.f (-1)).bind fun t358 => (if t358 = (-1) then ((frac_Whole.f 327679).bind fun t359 => (if t359 = 4 then (some true) else (none))) else (none))) else (none)) else (none)) else (none)) else (none)) else (none)) else (none)) else (none)) else (none)) else (none)) else (none))))))))))) = some r := h; clear h; replace H := Option.bind_eq_some_iff.mp H; obtain ⟨⟨t340, t341⟩, A10, H⟩ := H; (try dsimp only at H); have A1 := Aside0.mk A10; clear A10; replace H := Option.bind_eq_some_iff.mp H; obtain ⟨⟨t342, t343⟩, A20, H⟩ := H; (try dsimp only at H); have A2 := Aside0.mk A20; clear A20; replace H := Option.bind_eq_some_iff.mp H; obtain ⟨⟨t344, t345⟩, A30, H⟩ := H; (try dsimp only at H); have A3 := Aside0.mk A30; clear A30; replace H := Option.bind_eq_some_iff.mp H; obtain ⟨⟨t346, t347⟩, A40, H⟩ := H; (try dsimp only at H); have A4 := Aside0.mk A40; clear A40; replace H := Option.bind_eq_some_iff.mp H; obtain ⟨⟨t348, t349⟩, A50, H⟩ := H; (try dsimp only at H); have A5 := Aside0.mk A50; clear A50; replace H := Option.bind_eq_some_iff.mp H; obtain ⟨⟨t350, t351⟩, A60, H⟩ := H; (try dsimp only at H); have A6 := Aside0.mk A60; clear A60; replace H := Option.bind_eq_some_iff.mp H; obtain ⟨⟨t352, t353⟩, A70, H⟩ := H; (try dsimp only at H); have A7 := Aside0.mk A70; clear A70; replace H := Option.bind_eq_some_iff.mp H; obtain ⟨⟨t354, t355⟩, A80, H⟩ := H; (try dsimp only at H); have A8 := Aside0.mk A80; clear A80; replace H := Option.bind_eq_some_iff.mp H; obtain ⟨⟨t356, t357⟩, A90, H⟩ := H; (try dsimp only at H); have A9 := Aside0.mk A90; clear A90
 by_cases c10 : t340 = (-4)
 ·rw [if_pos c10] at H
  have c10b0 : (t340 == (-4)) = true := beq_iff_eq.mpr c10; have c10b1 : (t340 != (-4)) = false := bne_eq_false_iff_eq.mpr c10; clear c10
  by_cases c11 : t341 = 0
  ·rw [if_pos c11] at H
   have c11b0 : (t341 == 0) = true := beq_iff_eq.mpr c11; have c11b1 : (t341 != 0) = false := bne_eq_false_iff_eq.mpr c11; clear c11
   by_cases c12 : t342 = (-3)
   ·rw [if_pos c12] at H
    have c12b0 : (t342 == (-3)) = true := beq_iff_eq.mpr c12; have c12b1 : (t342 != (-3)) = false := bne_eq_false_iff_eq.mpr c12; clear c12
    by_cases c13 : t344 = (-3)
    ·rw [if_pos c13] at H
     have c13b0 : (t344 == (-3)) = true := beq_iff_eq.mpr c13; have c13b1 : (t344 != (-3)) = false := bne_eq_false_iff_eq.mpr c13; clear c13
     by_cases c14 : t347 = 10
     ·rw [if_pos c14] at H
      have c14b0 : (t347 == 10) = true := beq_iff_eq.mpr c14; have c14b1 : (t347 != 10) = false := bne_eq_false_iff_eq.mpr c14; clear c14
      by_cases c15 : t349 = 20
      ·rw [if_pos c15] at H
       have c15b0 : (t349 == 20) = true := beq_iff_eq.mpr c15; have c15b1 : (t349 != 20) = false := bne_eq_false_iff_eq.mpr c15; clear c15
       by_cases c16 : t351 = 20
       ·rw [if_pos c16] at H
        have c16b0 : (t351 == 20) = true := beq_iff_eq.mpr c16; have c16b1 : (t351 != 20) = false := bne_eq_false_iff_eq.mpr c16; clear c16
        by_cases c17 : t352 = 9223372036854775807
        ·rw [if_pos c17] at H
         have c17b0 : (t352 == 9223372036854775807) = true := beq_iff_eq.mpr c17; have c17b1 : (t352 != 9223372036854775807) = false := bne_eq_false_iff_eq.mpr c17; clear c17
         by_cases c18 : t354 = 131072
         ·rw [if_pos c18] at H
          have c18b0 : (t354 == 131072) = true := beq_iff_eq.mpr c18; have c18b1 : (t354 != 131072) = false := bne_eq_false_iff_eq.mpr c18; clear c18
          by_cases c19 : t356 = 2250
          ·rw [if_pos c19] at H
           have c19b0 : (t356 == 2250) = true := beq_iff_eq.mpr c19; have c19b1 : (t356 != 2250) = false := bne_eq_false_iff_eq.mpr c19; clear c19; replace H := Option.bind_eq_some_iff.mp H; obtain ⟨t358, A200, H⟩ := H; replace H : (if t358 = (-1) then ((frac_Whole.f 327679).bind fun t359 => (if t359 = 4 then (some true) else (none))) else (none)) = some r := H; have A20 := Aside0.mk A200; clear A200
           by_cases c21 : t358 = (-1)
           ·rw [if_pos c21] at H
            have c21b0 : (t358 == (-1)) = true := beq_iff_eq.mpr c21; have c21b1 : (t358 != (-1)) = false := bne_eq_false_iff_eq.mpr c21; clear c21; replace H := Option.bind_eq_some_iff.mp H; obtain ⟨t359, A220, H⟩ := H; replace H : (if t359 = 4 then (some true) else (none)) = some r := H; have A22 := Aside0.mk A220; clear A220
            by_cases c23 : t359 = 4
            ·rw [if_pos c23] at H
             have c23b0 : (t359 == 4) = true := beq_iff_eq.mpr c23; have c23b1 : (t359 != 4) = false := bne_eq_false_iff_eq.mpr c23; clear c23; obtain rfl := Option.some.inj H
             go_enter Try.func32, Try.ntmps32
             go_wp2_with (first | ((with_reducible refine gate_callee (f := 33) rfl ?_); refine goesLA_ (some 20) rfl rfl Try.func33 rfl #[.int .i64 (-7), .int .i64 1, .int .i64 2] rfl ?_; (with_reducible refine (frac_FloorS.calls (-7) 1 2 t340 t341 _ A1.out).mono ?_); rintro e w24 ⟨rfl, hb⟩; refine ⟨_, rfl, ?_⟩; replace HB := stA hb; (try clear hb); (try clear hb2); (try clear hk); (try clear hi)) | ((with_reducible refine gate_callee (f := 35) rfl ?_); refine goesLA_ (some 24) rfl rfl Try.func35 rfl #[.int .i64 (-7), .int .i64 1, .int .i64 2] rfl ?_; (with_reducible refine (frac_CeilS.calls (-7) 1 2 t342 t343 _ A2.out).mono ?_); rintro e w25 ⟨rfl, hb⟩; refine ⟨_, rfl, ?_⟩; replace HB := stA hb; (try clear hb); (try clear hb2); (try clear hk); (try clear hi)) | ((with_reducible refine gate_callee (f := 37) rfl ?_); refine goesLA_ (some 28) rfl rfl Try.func37 rfl #[.int .i64 (-7), .int .i64 1, .int .i64 2] rfl ?_; (with_reducible refine (frac_NearS.calls (-7) 1 2 t344 t345 _ A3.out).mono ?_); rintro e w26 ⟨rfl, hb⟩; refine ⟨_, rfl, ?_⟩; replace HB := stA hb; (try clear hb); (try clear hb2); (try clear hk); (try clear hi)) | ((with_reducible refine gate_callee (f := 33) rfl ?_); refine goesLA_ (some 32) rfl rfl Try.func33 rfl #[.int .i64 4611686018427387904, .int .i64 4, .int .i64 1] rfl ?_; (with_reducible refine (frac_FloorS.calls 4611686018427387904 4 1 t346 t347 _ A4.out).mono ?_); rintro e w27 ⟨rfl, hb⟩; refine ⟨_, rfl, ?_⟩; replace HB := stA hb; (try clear hb); (try clear hb2); (try clear hk); (try clear hi)) | ((with_reducible refine gate_callee (f := 33) rfl ?_); refine goesLA_ (some 36) rfl rfl Try.func33 rfl #[.int .i64 1, .int .i64 1, .int .i64 0] rfl ?_; (with_reducible refine (frac_FloorS.calls 1 1 0 t348 t349 _ A5.out).mono ?_); rintro e w28 ⟨rfl, hb⟩; refine ⟨_, rfl, ?_⟩; replace HB := stA hb; (try clear hb); (try clear hb2); (try clear hk); (try clear hi)) | ((with_reducible refine gate_callee (f := 35) rfl ?_); refine goesLA_ (some 40) rfl rfl Try.func35 rfl #[.int .i64 1, .int .i64 1, .int .i64 (-5)] rfl ?_; (with_reducible refine (frac_CeilS.calls 1 1 (-5) t350 t351 _ A6.out).mono ?_); rintro e w29 ⟨rfl, hb⟩; refine ⟨_, rfl, ?_⟩; replace HB := stA hb; (try clear hb); (try clear hb2); (try clear hk); (try clear hi)) | ((with_reducible refine gate_callee (f := 37) rfl ?_); refine goesLA_ (some 44) rfl rfl Try.func37 rfl #[.int .i64 9223372036854775807, .int .i64 9223372036854775807, .int .i64 9223372036854775807] rfl ?_; (with_reducible refine (frac_NearS.calls 9223372036854775807 9223372036854775807 9223372036854775807 t352 t353 _ A7.out).mono ?_); rintro e w30 ⟨rfl, hb⟩; refine ⟨_, rfl, ?_⟩; replace HB := stA hb; (try clear hb); (try clear hb2); (try clear hk); (try clear hi)) | ((with_reducible refine gate_callee (f := 39) rfl ?_); refine goesLA_ (some 48) rfl rfl Try.func39 rfl #[.int .i64 3000, .int .i64 1500] rfl ?_; (with_reducible refine (frac_SegsS.calls 3000 1500 t354 t355 _ A8.out).mono ?_); rintro e w31 ⟨rfl, hb⟩; refine ⟨_, rfl, ?_⟩; replace HB := stA hb; (try clear hb); (try clear hb2); (try clear hk); (try clear hi)) | ((with_reducible refine gate_callee (f := 41) rfl ?_); refine goesLA_ (some 52) rfl rfl Try.func41 rfl #[.int .i64 98304, .int .i64 1500] rfl ?_; (with_reducible refine (frac_BytesS.calls 98304 1500 t356 t357 _ A9.out).mono ?_); rintro e w32 ⟨rfl, hb⟩; refine ⟨_, rfl, ?_⟩; replace HB := stA hb; (try clear hb); (try clear hb2); (try clear hk); (try clear hi)) | (go_at_call 43; (with_reducible refine (frac_Whole.calls (-1) t358 _ A20.out).mono ?_); rintro e w' ⟨rfl, ⟨nd, rfl⟩⟩) | (go_at_call 43; (with_reducible refine (frac_Whole.calls 327679 t359 _ A22.out).mono ?_); rintro e w' ⟨rfl, ⟨nd, rfl⟩⟩))
             go_ret
             exact ⟨by first | rfl | (simp [errW_none, errW_some] <;> rfl) | (simp [*, errW_none, errW_some] <;> rfl), by repeat (first | (with_reducible first | exact HB.out | apply below_alloc | apply pw_below_drewN | apply below_drew1) | exact HB.out)⟩
            ·rw [if_neg c23] at H
             exact absurd H (by simp)
           ·rw [if_neg c21] at H
            exact absurd H (by simp)
          ·rw [if_neg c19] at H
           exact absurd H (by simp)
         ·rw [if_neg c18] at H
          exact absurd H (by simp)
        ·rw [if_neg c17] at H
         exact absurd H (by simp)
       ·rw [if_neg c16] at H
        exact absurd H (by simp)
      ·rw [if_neg c15] at H
       exact absurd H (by simp)
     ·rw [if_neg c14] at H
      exact absurd H (by simp)
    ·rw [if_neg c13] at H
     exact absurd H (by simp)
   ·rw [if_neg c12] at H
    exact absurd H (by simp)
  ·rw [if_neg c11] at H
   exact absurd H (by simp)
 ·rw [if_neg c10] at H
  exact absurd H (by simp)

/-! ### sawtoothlaw04_awakeS: pure, behind function 32 -/
noncomputable def sawtoothlaw04_awakeS.f : Option Bool := some true
section Awake04
open Go.Proofs.Ytkoeehacildioaa.Sp
theorem sawtoothlaw04_awake.main : sawtoothlaw04_awake.f = some true := by
 have f1 : frac_FloorS.f (-7) (1) (2) = some (-4, 0) := by rw [frac_FloorS.eq (by omega) (by omega) (by omega)]; unfold floorQ; rw [if_neg (by omega), show ((-7) * (1) / (2) : Int) = -4 by omega, fit_in (by omega)]
 have f2 : frac_CeilS.f (-7) (1) (2) = some (-3, 0) := by rw [frac_CeilS.eq (by omega) (by omega) (by omega)]; unfold ceilQ; rw [if_neg (by omega), show (-(-((-7) * (1)) / (2)) : Int) = -3 by omega, fit_in (by omega)]
 have f3 : frac_NearS.f (-7) (1) (2) = some (-3, 0) := by rw [frac_NearS.eq (by omega) (by omega) (by omega)]; unfold nearQ; rw [if_neg (by omega), show (((-7) * (1) + (2) / 2) / (2) : Int) = -3 by omega, fit_in (by omega)]
 have f4 : frac_FloorS.f 4611686018427387904 4 1 = some (0, 10) := by rw [frac_FloorS.eq (by omega) (by omega) (by omega)]; unfold floorQ; rw [if_neg (by omega), fit_out (by omega)]
 have f5 : frac_FloorS.f 1 1 0 = some (0, 20) := by rw [frac_FloorS.eq (by omega) (by omega) (by omega)]; unfold floorQ; rw [if_pos (by omega)]
 have f6 : frac_CeilS.f 1 1 (-5) = some (0, 20) := by rw [frac_CeilS.eq (by omega) (by omega) (by omega)]; unfold ceilQ; rw [if_pos (by omega)]
 have f7 : frac_NearS.f (9223372036854775807) (9223372036854775807) (9223372036854775807) = some (9223372036854775807, 0) := by rw [frac_NearS.eq (by omega) (by omega) (by omega)]; unfold nearQ; rw [if_neg (by omega), show (((9223372036854775807) * (9223372036854775807) + (9223372036854775807) / 2) / (9223372036854775807) : Int) = 9223372036854775807 by omega, fit_in (by omega)]
 have f8 : frac_SegsS.f 3000 1500 = some (131072, 0) := by rw [frac_SegsS.eq (by omega) (by omega)]; unfold floorQ; rw [if_neg (by omega), show (3000 * 65536 / 1500 : Int) = 131072 by omega, fit_in (by omega)]
 have f9 : frac_BytesS.f 98304 1500 = some (2250, 0) := by rw [frac_BytesS.eq (by omega) (by omega)]; unfold floorQ; rw [if_neg (by omega), show (98304 * 1500 / 65536 : Int) = 2250 by omega, fit_in (by omega)]
 have g1 : (-1 / 65536 : Int) = -1 := by omega
 have g2 : (327679 / 65536 : Int) = 4 := by omega
 unfold sawtoothlaw04_awake.f frac_Whole.f
 simp only [f1, f2, f3, f4, f5, f6, f7, f8, f9, g1, g2, Option.bind_some, if_true, eq_self]
end Awake04
theorem sawtoothlaw04_awakeS.calls (r : Bool) (w : World) (h : sawtoothlaw04_awakeS.f = some r) :
  Calls Try.prog 32 #[] w fun e w' => e = .returned (.bool r) ∧ Below w.heap.size w w' :=
 sawtoothlaw04_awake.calls r w (by rw [sawtoothlaw04_awake.main]; exact h)

end Go.Proofs.Ytkoeehacildioaa.Px
