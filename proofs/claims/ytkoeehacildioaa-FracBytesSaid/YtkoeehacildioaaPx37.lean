/- Printed by a program of this session (wip/tool/px.py), over the kit's print: for each Go function a Lean function, and the proof that the machine's call answers as that function says. Conditions: none beside what the theorems state. -/
import Derived.Test.YtkoeehacildioaaPx0
import Derived.Test.YtkoeehacildioaaPx28
import Derived.Test.YtkoeehacildioaaPx30
import Derived.Test.YtkoeehacildioaaPx32
import Derived.Test.YtkoeehacildioaaPx34
import Derived.Test.YtkoeehacildioaaPx36
namespace Go.Proofs.Ytkoeehacildioaa.Px
open Go.RowKit Go.Proofs.YtkoeehacildioaaW.PrintWords Go.Proofs.YtkoeehacildioaaW.PrintLast Go.Proofs.YtkoeehacildioaaW.PrintMore
attribute [local go_sem] max2_int min2_int max_two min_two max_three min_three max_four min_four   -- for this text's walks alone
set_option linter.unusedVariables false
set_option linter.unusedSimpArgs false

/-! ### frac_Whole: function 43 -/
noncomputable def frac_Whole.f (a0 : Int) : Option (Int) := some (a0 / 65536)
set_option maxHeartbeats 8000000 in
set_option maxRecDepth 100000 in
theorem frac_Whole.calls (a0 : Int) (r : Int) (w : World) (h : frac_Whole.f a0 = some r) :
  Calls Try.prog 43 #[.int .i64 a0] w fun e w' => e = .returned (.int .i64 r) ∧ Drawn0 w w' := by
 have H : (some (a0 / 65536)) = some r := h
 clear h
 obtain rfl := Option.some.inj H
 go_enter Try.func43, Try.ntmps43
 go_wp2
 go_ret
 exact ⟨by first | rfl | (simp; done) | (simp [*]; done), by repeat (first | exact Drawn0.refl _ | apply Drawn0.step)⟩

/-! ### sawtoothlaw04_awake: function 32 -/
noncomputable def sawtoothlaw04_awake.f  : Option (Bool) := (frac_FloorS.f (-7) 1 2).bind fun bt289 => ((frac_CeilS.f (-7) 1 2).bind fun bt291 => ((frac_NearS.f (-7) 1 2).bind fun bt293 => ((frac_FloorS.f 4611686018427387904 4 1).bind fun bt295 => ((frac_FloorS.f 1 1 0).bind fun bt297 => ((frac_CeilS.f 1 1 (-5)).bind fun bt299 => ((frac_NearS.f 9223372036854775807 9223372036854775807 9223372036854775807).bind fun bt301 => ((frac_SegsS.f 3000 1500).bind fun bt303 => ((frac_BytesS.f 98304 1500).bind fun bt305 => (if bt289.1 = (-4) then (if bt289.2 = 0 then (if bt291.1 = (-3) then (if bt293.1 = (-3) then (if bt295.2 = 10 then (if bt297.2 = 20 then (if bt299.2 = 20 then (if bt301.1 = 9223372036854775807 then (if bt303.1 = 131072 then (if bt305.1 = 2250 then ((frac_Whole.f (-1)).bind fun t307 => (if t307 = (-1) then ((frac_Whole.f 327679).bind fun t308 => (if t308 = 4 then (some true) else (none))) else (none))) else (none)) else (none)) else (none)) else (none)) else (none)) else (none)) else (none)) else (none)) else (none)) else (none))))))))))
set_option maxHeartbeats 8000000 in
set_option maxRecDepth 100000 in
theorem sawtoothlaw04_awake.calls  (r : Bool) (w : World) (h : sawtoothlaw04_awake.f  = some r) :
  Calls Try.prog 32 #[] w fun e w' => e = .returned (.bool r) ∧ Below w.heap.size w w' := by
 have HB := Aside0.mk (Below.refl w.heap.size w)
 have H : ((frac_FloorS.f (-7) 1 2).bind fun bt289 => ((frac_CeilS.f (-7) 1 2).bind fun bt291 => ((frac_NearS.f (-7) 1 2).bind fun bt293 => ((frac_FloorS.f 4611686018427387904 4 1).bind fun bt295 => ((frac_FloorS.f 1 1 0).bind fun bt297 => ((frac_CeilS.f 1 1 (-5)).bind fun bt299 => ((frac_NearS.f 9223372036854775807 9223372036854775807 9223372036854775807).bind fun bt301 => ((frac_SegsS.f 3000 1500).bind fun bt303 => ((frac_BytesS.f 98304 1500).bind fun bt305 => (if bt289.1 = (-4) then (if bt289.2 = 0 then (if bt291.1 = (-3) then (if bt293.1 = (-3) then (if bt295.2 = 10 then (if bt297.2 = 20 then (if bt299.2 = 20 then (if bt301.1 = 9223372036854775807 then (if bt303.1 = 131072 then (if bt305.1 = 2250 then ((frac_Whole.f (-1)).bind fun t307 => (if t307 = (-1) then ((frac_Whole.f 327679).bind fun t308 => (if t308 = 4 then (some true) else (none))) else (none))) else (none)) else (none)) else (none)) else (none)) else (none)) else (none)) else (none)) else (none)) else (none)) else (none))))))))))) = some r := h
 clear h
 replace H := Option.bind_eq_some_iff.mp H
 obtain ⟨⟨t289, t290⟩, A10, H⟩ := H
 try dsimp only at H
 have A1 := Aside0.mk A10
 clear A10
 replace H := Option.bind_eq_some_iff.mp H
 obtain ⟨⟨t291, t292⟩, A20, H⟩ := H
 try dsimp only at H
 have A2 := Aside0.mk A20
 clear A20
 replace H := Option.bind_eq_some_iff.mp H
 obtain ⟨⟨t293, t294⟩, A30, H⟩ := H
 try dsimp only at H
 have A3 := Aside0.mk A30
 clear A30
 replace H := Option.bind_eq_some_iff.mp H
 obtain ⟨⟨t295, t296⟩, A40, H⟩ := H
 try dsimp only at H
 have A4 := Aside0.mk A40
 clear A40
 replace H := Option.bind_eq_some_iff.mp H
 obtain ⟨⟨t297, t298⟩, A50, H⟩ := H
 try dsimp only at H
 have A5 := Aside0.mk A50
 clear A50
 replace H := Option.bind_eq_some_iff.mp H
 obtain ⟨⟨t299, t300⟩, A60, H⟩ := H
 try dsimp only at H
 have A6 := Aside0.mk A60
 clear A60
 replace H := Option.bind_eq_some_iff.mp H
 obtain ⟨⟨t301, t302⟩, A70, H⟩ := H
 try dsimp only at H
 have A7 := Aside0.mk A70
 clear A70
 replace H := Option.bind_eq_some_iff.mp H
 obtain ⟨⟨t303, t304⟩, A80, H⟩ := H
 try dsimp only at H
 have A8 := Aside0.mk A80
 clear A80
 replace H := Option.bind_eq_some_iff.mp H
 obtain ⟨⟨t305, t306⟩, A90, H⟩ := H
 try dsimp only at H
 have A9 := Aside0.mk A90
 clear A90
 by_cases c10 : t289 = (-4)
 ·rw [if_pos c10] at H
  have c10b0 : (t289 == (-4)) = true := beq_iff_eq.mpr c10
  have c10b1 : (t289 != (-4)) = false := bne_eq_false_iff_eq.mpr c10
  clear c10
  by_cases c11 : t290 = 0
  ·rw [if_pos c11] at H
   have c11b0 : (t290 == 0) = true := beq_iff_eq.mpr c11
   have c11b1 : (t290 != 0) = false := bne_eq_false_iff_eq.mpr c11
   clear c11
   by_cases c12 : t291 = (-3)
   ·rw [if_pos c12] at H
    have c12b0 : (t291 == (-3)) = true := beq_iff_eq.mpr c12
    have c12b1 : (t291 != (-3)) = false := bne_eq_false_iff_eq.mpr c12
    clear c12
    by_cases c13 : t293 = (-3)
    ·rw [if_pos c13] at H
     have c13b0 : (t293 == (-3)) = true := beq_iff_eq.mpr c13
     have c13b1 : (t293 != (-3)) = false := bne_eq_false_iff_eq.mpr c13
     clear c13
     by_cases c14 : t296 = 10
     ·rw [if_pos c14] at H
      have c14b0 : (t296 == 10) = true := beq_iff_eq.mpr c14
      have c14b1 : (t296 != 10) = false := bne_eq_false_iff_eq.mpr c14
      clear c14
      by_cases c15 : t298 = 20
      ·rw [if_pos c15] at H
       have c15b0 : (t298 == 20) = true := beq_iff_eq.mpr c15
       have c15b1 : (t298 != 20) = false := bne_eq_false_iff_eq.mpr c15
       clear c15
       by_cases c16 : t300 = 20
       ·rw [if_pos c16] at H
        have c16b0 : (t300 == 20) = true := beq_iff_eq.mpr c16
        have c16b1 : (t300 != 20) = false := bne_eq_false_iff_eq.mpr c16
        clear c16
        by_cases c17 : t301 = 9223372036854775807
        ·rw [if_pos c17] at H
         have c17b0 : (t301 == 9223372036854775807) = true := beq_iff_eq.mpr c17
         have c17b1 : (t301 != 9223372036854775807) = false := bne_eq_false_iff_eq.mpr c17
         clear c17
         by_cases c18 : t303 = 131072
         ·rw [if_pos c18] at H
          have c18b0 : (t303 == 131072) = true := beq_iff_eq.mpr c18
          have c18b1 : (t303 != 131072) = false := bne_eq_false_iff_eq.mpr c18
          clear c18
          by_cases c19 : t305 = 2250
          ·rw [if_pos c19] at H
           have c19b0 : (t305 == 2250) = true := beq_iff_eq.mpr c19
           have c19b1 : (t305 != 2250) = false := bne_eq_false_iff_eq.mpr c19
           clear c19
           replace H := Option.bind_eq_some_iff.mp H
           obtain ⟨t307, A200, H⟩ := H
           replace H : (if t307 = (-1) then ((frac_Whole.f 327679).bind fun t308 => (if t308 = 4 then (some true) else (none))) else (none)) = some r := H
           have A20 := Aside0.mk A200
           clear A200
           by_cases c21 : t307 = (-1)
           ·rw [if_pos c21] at H
            have c21b0 : (t307 == (-1)) = true := beq_iff_eq.mpr c21
            have c21b1 : (t307 != (-1)) = false := bne_eq_false_iff_eq.mpr c21
            clear c21
            replace H := Option.bind_eq_some_iff.mp H
            obtain ⟨t308, A220, H⟩ := H
            replace H : (if t308 = 4 then (some true) else (none)) = some r := H
            have A22 := Aside0.mk A220
            clear A220
            by_cases c23 : t308 = 4
            ·rw [if_pos c23] at H
             have c23b0 : (t308 == 4) = true := beq_iff_eq.mpr c23
             have c23b1 : (t308 != 4) = false := bne_eq_false_iff_eq.mpr c23
             clear c23
             obtain rfl := Option.some.inj H
             go_enter Try.func32, Try.ntmps32
             go_wp2_with (first | ((with_reducible refine gate_callee (f := 33) rfl ?_); refine goesL_ (some 20) rfl rfl Try.func33 (by kernel_rfl) rfl #[.int .i64 (-7), .int .i64 1, .int .i64 2] rfl (by (try simp only [List.map_toArray, List.map_cons, List.map_nil]); first | done | rfl | (simp only [List.length_drop, List.length_take]; rfl)) ?_; (with_reducible refine (frac_FloorS.calls (-7) 1 2 t289 t290 _ A1.out).mono ?_); rintro e w24 ⟨rfl, hb⟩; refine ⟨_, rfl, ?_⟩; replace HB := Aside0.mk (below_step (by repeat (first | (with_reducible first | exact HB.out | apply below_alloc | apply pw_below_drewN | apply below_drew1) | exact HB.out)) hb); (try clear hb); (try clear hb2); (try clear hk); (try clear hi)) | ((with_reducible refine gate_callee (f := 35) rfl ?_); refine goesL_ (some 24) rfl rfl Try.func35 (by kernel_rfl) rfl #[.int .i64 (-7), .int .i64 1, .int .i64 2] rfl (by (try simp only [List.map_toArray, List.map_cons, List.map_nil]); first | done | rfl | (simp only [List.length_drop, List.length_take]; rfl)) ?_; (with_reducible refine (frac_CeilS.calls (-7) 1 2 t291 t292 _ A2.out).mono ?_); rintro e w25 ⟨rfl, hb⟩; refine ⟨_, rfl, ?_⟩; replace HB := Aside0.mk (below_step (by repeat (first | (with_reducible first | exact HB.out | apply below_alloc | apply pw_below_drewN | apply below_drew1) | exact HB.out)) hb); (try clear hb); (try clear hb2); (try clear hk); (try clear hi)) | ((with_reducible refine gate_callee (f := 37) rfl ?_); refine goesL_ (some 28) rfl rfl Try.func37 (by kernel_rfl) rfl #[.int .i64 (-7), .int .i64 1, .int .i64 2] rfl (by (try simp only [List.map_toArray, List.map_cons, List.map_nil]); first | done | rfl | (simp only [List.length_drop, List.length_take]; rfl)) ?_; (with_reducible refine (frac_NearS.calls (-7) 1 2 t293 t294 _ A3.out).mono ?_); rintro e w26 ⟨rfl, hb⟩; refine ⟨_, rfl, ?_⟩; replace HB := Aside0.mk (below_step (by repeat (first | (with_reducible first | exact HB.out | apply below_alloc | apply pw_below_drewN | apply below_drew1) | exact HB.out)) hb); (try clear hb); (try clear hb2); (try clear hk); (try clear hi)) | ((with_reducible refine gate_callee (f := 33) rfl ?_); refine goesL_ (some 32) rfl rfl Try.func33 (by kernel_rfl) rfl #[.int .i64 4611686018427387904, .int .i64 4, .int .i64 1] rfl (by (try simp only [List.map_toArray, List.map_cons, List.map_nil]); first | done | rfl | (simp only [List.length_drop, List.length_take]; rfl)) ?_; (with_reducible refine (frac_FloorS.calls 4611686018427387904 4 1 t295 t296 _ A4.out).mono ?_); rintro e w27 ⟨rfl, hb⟩; refine ⟨_, rfl, ?_⟩; replace HB := Aside0.mk (below_step (by repeat (first | (with_reducible first | exact HB.out | apply below_alloc | apply pw_below_drewN | apply below_drew1) | exact HB.out)) hb); (try clear hb); (try clear hb2); (try clear hk); (try clear hi)) | ((with_reducible refine gate_callee (f := 33) rfl ?_); refine goesL_ (some 36) rfl rfl Try.func33 (by kernel_rfl) rfl #[.int .i64 1, .int .i64 1, .int .i64 0] rfl (by (try simp only [List.map_toArray, List.map_cons, List.map_nil]); first | done | rfl | (simp only [List.length_drop, List.length_take]; rfl)) ?_; (with_reducible refine (frac_FloorS.calls 1 1 0 t297 t298 _ A5.out).mono ?_); rintro e w28 ⟨rfl, hb⟩; refine ⟨_, rfl, ?_⟩; replace HB := Aside0.mk (below_step (by repeat (first | (with_reducible first | exact HB.out | apply below_alloc | apply pw_below_drewN | apply below_drew1) | exact HB.out)) hb); (try clear hb); (try clear hb2); (try clear hk); (try clear hi)) | ((with_reducible refine gate_callee (f := 35) rfl ?_); refine goesL_ (some 40) rfl rfl Try.func35 (by kernel_rfl) rfl #[.int .i64 1, .int .i64 1, .int .i64 (-5)] rfl (by (try simp only [List.map_toArray, List.map_cons, List.map_nil]); first | done | rfl | (simp only [List.length_drop, List.length_take]; rfl)) ?_; (with_reducible refine (frac_CeilS.calls 1 1 (-5) t299 t300 _ A6.out).mono ?_); rintro e w29 ⟨rfl, hb⟩; refine ⟨_, rfl, ?_⟩; replace HB := Aside0.mk (below_step (by repeat (first | (with_reducible first | exact HB.out | apply below_alloc | apply pw_below_drewN | apply below_drew1) | exact HB.out)) hb); (try clear hb); (try clear hb2); (try clear hk); (try clear hi)) | ((with_reducible refine gate_callee (f := 37) rfl ?_); refine goesL_ (some 44) rfl rfl Try.func37 (by kernel_rfl) rfl #[.int .i64 9223372036854775807, .int .i64 9223372036854775807, .int .i64 9223372036854775807] rfl (by (try simp only [List.map_toArray, List.map_cons, List.map_nil]); first | done | rfl | (simp only [List.length_drop, List.length_take]; rfl)) ?_; (with_reducible refine (frac_NearS.calls 9223372036854775807 9223372036854775807 9223372036854775807 t301 t302 _ A7.out).mono ?_); rintro e w30 ⟨rfl, hb⟩; refine ⟨_, rfl, ?_⟩; replace HB := Aside0.mk (below_step (by repeat (first | (with_reducible first | exact HB.out | apply below_alloc | apply pw_below_drewN | apply below_drew1) | exact HB.out)) hb); (try clear hb); (try clear hb2); (try clear hk); (try clear hi)) | ((with_reducible refine gate_callee (f := 39) rfl ?_); refine goesL_ (some 48) rfl rfl Try.func39 (by kernel_rfl) rfl #[.int .i64 3000, .int .i64 1500] rfl (by (try simp only [List.map_toArray, List.map_cons, List.map_nil]); first | done | rfl | (simp only [List.length_drop, List.length_take]; rfl)) ?_; (with_reducible refine (frac_SegsS.calls 3000 1500 t303 t304 _ A8.out).mono ?_); rintro e w31 ⟨rfl, hb⟩; refine ⟨_, rfl, ?_⟩; replace HB := Aside0.mk (below_step (by repeat (first | (with_reducible first | exact HB.out | apply below_alloc | apply pw_below_drewN | apply below_drew1) | exact HB.out)) hb); (try clear hb); (try clear hb2); (try clear hk); (try clear hi)) | ((with_reducible refine gate_callee (f := 41) rfl ?_); refine goesL_ (some 52) rfl rfl Try.func41 (by kernel_rfl) rfl #[.int .i64 98304, .int .i64 1500] rfl (by (try simp only [List.map_toArray, List.map_cons, List.map_nil]); first | done | rfl | (simp only [List.length_drop, List.length_take]; rfl)) ?_; (with_reducible refine (frac_BytesS.calls 98304 1500 t305 t306 _ A9.out).mono ?_); rintro e w32 ⟨rfl, hb⟩; refine ⟨_, rfl, ?_⟩; replace HB := Aside0.mk (below_step (by repeat (first | (with_reducible first | exact HB.out | apply below_alloc | apply pw_below_drewN | apply below_drew1) | exact HB.out)) hb); (try clear hb); (try clear hb2); (try clear hk); (try clear hi)) | (go_at_call 43; (with_reducible refine (frac_Whole.calls (-1) t307 _ A20.out).mono ?_); rintro e w' ⟨rfl, ⟨nd, rfl⟩⟩) | (go_at_call 43; (with_reducible refine (frac_Whole.calls 327679 t308 _ A22.out).mono ?_); rintro e w' ⟨rfl, ⟨nd, rfl⟩⟩))
             go_ret
             exact ⟨by first | rfl | (simp [errW_none, errW_some] <;> rfl) | (simp [*, errW_none, errW_some] <;> rfl), by repeat (first | (with_reducible first | exact HB.out | apply below_alloc | apply pw_below_drewN | apply below_drew1) | exact HB.out)⟩
            ·rw [if_neg c23] at H
             exact absurd H (by simp)
           ·rw [if_neg c21] at H
            exact absurd H (by simp)
          ·rw [if_neg c19] at H
           exact absurd H (by simp)
         ·rw [if_neg c18] at H
          exact absurd H (by simp)
        ·rw [if_neg c17] at H
         exact absurd H (by simp)
       ·rw [if_neg c16] at H
        exact absurd H (by simp)
      ·rw [if_neg c15] at H
       exact absurd H (by simp)
     ·rw [if_neg c14] at H
      exact absurd H (by simp)
    ·rw [if_neg c13] at H
     exact absurd H (by simp)
   ·rw [if_neg c12] at H
    exact absurd H (by simp)
  ·rw [if_neg c11] at H
   exact absurd H (by simp)
 ·rw [if_neg c10] at H
  exact absurd H (by simp)

end Go.Proofs.Ytkoeehacildioaa.Px
