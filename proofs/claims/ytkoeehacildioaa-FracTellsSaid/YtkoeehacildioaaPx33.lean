/- Printed by a program of this session (wip/tool/px.py), over the kit's print: for each Go function a Lean function, and the proof that the machine's call answers as that function says. Conditions: none beside what the theorems state. -/
import Derived.Test.YtkoeehacildioaaPx0
import Derived.Test.YtkoeehacildioaaPx22
import Derived.Test.YtkoeehacildioaaPx23
import Derived.Test.YtkoeehacildioaaPx24
import Derived.Test.YtkoeehacildioaaPx25
import Derived.Test.YtkoeehacildioaaPx32
namespace Go.Proofs.Ytkoeehacildioaa.Px
open Go.RowKit Go.Proofs.YtkoeehacildioaaW.PrintWords Go.Proofs.YtkoeehacildioaaW.PrintLast Go.Proofs.YtkoeehacildioaaW.PrintMore
attribute [local go_sem] max2_int min2_int max_two min_two max_three min_three max_four min_four   -- for this text's walks alone
set_option linter.unusedVariables false
set_option linter.unusedSimpArgs false

/-! ### sawtoothlaw04_FracTells: function 9 -/
noncomputable def sawtoothlaw04_FracTells.f (a0 : Int) (a1 : Int) (a2 : Int) : Option (Bool) := (sawtoothlaw04_awakeS.f).bind fun t452 => ((frac_FloorS.f a0 a1 a2).bind fun bt453 => ((sawtoothref04_FloorS.f a0 a1 a2).bind fun bt455 => ((frac_CeilS.f a0 a1 a2).bind fun bt457 => ((sawtoothref04_CeilS.f a0 a1 a2).bind fun bt459 => ((frac_NearS.f a0 a1 a2).bind fun bt461 => ((sawtoothref04_NearS.f a0 a1 a2).bind fun bt463 => ((frac_SegsS.f a0 a2).bind fun bt465 => ((sawtoothref04_SegsS.f a0 a2).bind fun bt467 => ((frac_BytesS.f a0 a1).bind fun bt469 => ((sawtoothref04_BytesS.f a0 a1).bind fun bt471 => (if t452 = true then (if bt453.1 = bt455.1 then (if bt453.2 = bt455.2 then (if bt457.1 = bt459.1 then (if bt457.2 = bt459.2 then (if bt461.1 = bt463.1 then (if bt461.2 = bt463.2 then (if bt465.1 = bt467.1 then (if bt465.2 = bt467.2 then (if bt469.1 = bt471.1 then (if bt469.2 = bt471.2 then ((frac_Whole.f a0).bind fun t473 => ((sawtoothref04_WholeS.f a0).bind fun t474 => (some (t473 == t474)))) else (none)) else (none)) else (none)) else (none)) else (none)) else (none)) else (none)) else (none)) else (none)) else (none)) else (none))))))))))))
set_option maxHeartbeats 8000000 in
set_option maxRecDepth 100000 in
theorem sawtoothlaw04_FracTells.calls (a0 : Int) (a1 : Int) (a2 : Int) (r : Bool) (w : World) (h : sawtoothlaw04_FracTells.f a0 a1 a2 = some r) :
  Calls Try.prog 9 #[.int .i64 a0, .int .i64 a1, .int .i64 a2] w fun e w' => e = .returned (.bool r) ∧ Below w.heap.size w w' := by
 have HB := Aside0.mk (Below.refl w.heap.size w); have H : ((sawtoothlaw04_awakeS.f).bind fun t452 => ((frac_FloorS.f a0 a1 a2).bind fun bt453 => ((sawtoothref04_FloorS.f a0 a1 a2).bind fun bt455 => ((frac_CeilS.f a0 a1 a2).bind fun bt457 => ((sawtoothref04_CeilS.f a0 a1 a2).bind fun bt459 => ((frac_NearS.f a0 a1 a2).bind fun bt461 => ((sawtoothref04_NearS.f a0 a1 a2).bind fun bt463 => ((frac_SegsS.f a0 a2).bind fun bt465 => ((sawtoothref04_SegsS.f a0 a2).bind fun bt467 => ((frac_BytesS.f a0 a1).bind fun bt469 => ((sawtoothref04_BytesS.f a0 a1).bind fun bt471 => (if t452 = true then (if bt453.1 = bt455.1 then (if bt453.2 = bt455.2 then (if bt457.1 = bt459.1 then (if bt457.2 = bt459.2 then (if bt461.1 = bt463.1 then (if bt461.2 = bt463.2 then (if bt465.1 = bt467.1 then (if bt465.2 = bt467.2 then (if bt469.1 = bt471.1 then (if bt469.2 = bt471.2 then ((frac_Whole.f a0).bind fun t473 => ((sawtoothref04_WholeS.f a0).bind fun t474 => (some (t473 == t474)))) else (none)) else (none)) else (none)) else (none)) else (none)) else (none)) else (none)) else (none)) else (none)) else (none)) else (none))))))))))))) = some r := h; clear h; replace H := Option.bind_eq_some_iff.mp H; obtain ⟨t452, A40, H⟩ := H; (try dsimp only at H); have A4 := Aside0.mk A40; clear A40; replace H := Option.bind_eq_some_iff.mp H; obtain ⟨⟨t453, t454⟩, A50, H⟩ := H; (try dsimp only at H); have A5 := Aside0.mk A50; clear A50; replace H := Option.bind_eq_some_iff.mp H; obtain ⟨⟨t455, t456⟩, A60, H⟩ := H; (try dsimp only at H); have A6 := Aside0.mk A60; clear A60; replace H := Option.bind_eq_some_iff.mp H; obtain ⟨⟨t457, t458⟩, A70, H⟩ := H; (try dsimp only at H); have A7 := Aside0.mk A70; clear A70; replace H := Option.bind_eq_some_iff.mp H; obtain ⟨⟨t459, t460⟩, A80, H⟩ := H; (try dsimp only at H); have A8 := Aside0.mk A80; clear A80; replace H := Option.bind_eq_some_iff.mp H; obtain ⟨⟨t461, t462⟩, A90, H⟩ := H; (try dsimp only at H); have A9 := Aside0.mk A90; clear A90; replace H := Option.bind_eq_some_iff.mp H; obtain ⟨⟨t463, t464⟩, A100, H⟩ := H; (try dsimp only at H); have A10 := Aside0.mk A100; clear A100; replace H := Option.bind_eq_some_iff.mp H; obtain ⟨⟨t465, t466⟩, A110, H⟩ := H; (try dsimp only at H); have A11 := Aside0.mk A110; clear A110; replace H := Option.bind_eq_some_iff.mp H; obtain ⟨⟨t467, t468⟩, A120, H⟩ := H; (try dsimp only at H); have A12 := Aside0.mk A120; clear A120; replace H := Option.bind_eq_some_iff.mp H; obtain ⟨⟨t469, t470⟩, A130, H⟩ := H; (try dsimp only at H); have A13 := Aside0.mk A130; clear A130; replace H := Option.bind_eq_some_iff.mp H; obtain ⟨⟨t471, t472⟩, A140, H⟩ := H; (try dsimp only at H); have A14 := Aside0.mk A140; clear A140
 by_cases c15 : t452 = true
 ·subst c15
  have H1 : (if t453 = t455 then (if t454 = t456 then (if t457 = t459 then (if t458 = t460 then (if t461 = t463 then (if t462 = t464 then (if t465 = t467 then (if t466 = t468 then (if t469 = t471 then (if t470 = t472 then ((frac_Whole.f a0).bind fun t473 => ((sawtoothref04_WholeS.f a0).bind fun t474 => (some (t473 == t474)))) else (none)) else (none)) else (none)) else (none)) else (none)) else (none)) else (none)) else (none)) else (none)) else (none)) = some r := by rw [if_pos rfl] at H; exact H
  clear H; have H := H1; clear H1
  by_cases c16 : t453 = t455
  ·rw [if_pos c16] at H
   have c16b0 : (t453 == t455) = true := beq_iff_eq.mpr c16; have c16b1 : (t453 != t455) = false := bne_eq_false_iff_eq.mpr c16; clear c16
   by_cases c17 : t454 = t456
   ·rw [if_pos c17] at H
    have c17b0 : (t454 == t456) = true := beq_iff_eq.mpr c17; have c17b1 : (t454 != t456) = false := bne_eq_false_iff_eq.mpr c17; clear c17
    by_cases c18 : t457 = t459
    ·rw [if_pos c18] at H
     have c18b0 : (t457 == t459) = true := beq_iff_eq.mpr c18; have c18b1 : (t457 != t459) = false := bne_eq_false_iff_eq.mpr c18; clear c18
     by_cases c19 : t458 = t460
     ·rw [if_pos c19] at H
      have c19b0 : (t458 == t460) = true := beq_iff_eq.mpr c19; have c19b1 : (t458 != t460) = false := bne_eq_false_iff_eq.mpr c19; clear c19
      by_cases c20 : t461 = t463
      ·rw [if_pos c20] at H
       have c20b0 : (t461 == t463) = true := beq_iff_eq.mpr c20; have c20b1 : (t461 != t463) = false := bne_eq_false_iff_eq.mpr c20; clear c20
       by_cases c21 : t462 = t464
       ·rw [if_pos c21] at H
        have c21b0 : (t462 == t464) = true := beq_iff_eq.mpr c21; have c21b1 : (t462 != t464) = false := bne_eq_false_iff_eq.mpr c21; clear c21
        by_cases c22 : t465 = t467
        ·rw [if_pos c22] at H
         have c22b0 : (t465 == t467) = true := beq_iff_eq.mpr c22; have c22b1 : (t465 != t467) = false := bne_eq_false_iff_eq.mpr c22; clear c22
         by_cases c23 : t466 = t468
         ·rw [if_pos c23] at H
          have c23b0 : (t466 == t468) = true := beq_iff_eq.mpr c23; have c23b1 : (t466 != t468) = false := bne_eq_false_iff_eq.mpr c23; clear c23
          by_cases c24 : t469 = t471
          ·rw [if_pos c24] at H
           have c24b0 : (t469 == t471) = true := beq_iff_eq.mpr c24; have c24b1 : (t469 != t471) = false := bne_eq_false_iff_eq.mpr c24; clear c24
           by_cases c25 : t470 = t472
           ·rw [if_pos c25] at H
            have c25b0 : (t470 == t472) = true := beq_iff_eq.mpr c25; have c25b1 : (t470 != t472) = false := bne_eq_false_iff_eq.mpr c25; clear c25; replace H := Option.bind_eq_some_iff.mp H; obtain ⟨t473, A260, H⟩ := H; replace H : ((sawtoothref04_WholeS.f a0).bind fun t474 => (some (t473 == t474))) = some r := H; have A26 := Aside0.mk A260; clear A260; replace H := Option.bind_eq_some_iff.mp H; obtain ⟨t474, A270, H⟩ := H; replace H : (some (t473 == t474)) = some r := H; have A27 := Aside0.mk A270; clear A270; obtain rfl := Option.some.inj H
            go_enter Try.func9, Try.ntmps9
            go_wp2_with (first | ((with_reducible refine gate_callee (f := 32) rfl ?_); refine goesLA_ (some 28) rfl rfl Try.func32 rfl #[] rfl ?_; (with_reducible refine (sawtoothlaw04_awakeS.calls  true _ A4.out).mono ?_); rintro e w28 ⟨rfl, hb⟩; refine ⟨_, rfl, ?_⟩; replace HB := stA hb; clear hb) | ((with_reducible refine gate_callee (f := 33) rfl ?_); refine goesLA_ (some 33) rfl rfl Try.func33 rfl #[.int .i64 a0, .int .i64 a1, .int .i64 a2] rfl ?_; (with_reducible refine (frac_FloorS.calls a0 a1 a2 t453 t454 _ A5.out).mono ?_); rintro e w29 ⟨rfl, hb⟩; refine ⟨_, rfl, ?_⟩; replace HB := stA hb; clear hb) | ((with_reducible refine gate_callee (f := 34) rfl ?_); refine goesLA_ (some 40) rfl rfl Try.func34 rfl #[.int .i64 a0, .int .i64 a1, .int .i64 a2] rfl ?_; (with_reducible refine (sawtoothref04_FloorS.calls a0 a1 a2 t455 t456 _ A6.out).mono ?_); rintro e w30 ⟨rfl, hb⟩; refine ⟨_, rfl, ?_⟩; replace HB := stA hb; clear hb) | ((with_reducible refine gate_callee (f := 35) rfl ?_); refine goesLA_ (some 47) rfl rfl Try.func35 rfl #[.int .i64 a0, .int .i64 a1, .int .i64 a2] rfl ?_; (with_reducible refine (frac_CeilS.calls a0 a1 a2 t457 t458 _ A7.out).mono ?_); rintro e w31 ⟨rfl, hb⟩; refine ⟨_, rfl, ?_⟩; replace HB := stA hb; clear hb) | ((with_reducible refine gate_callee (f := 36) rfl ?_); refine goesLA_ (some 54) rfl rfl Try.func36 rfl #[.int .i64 a0, .int .i64 a1, .int .i64 a2] rfl ?_; (with_reducible refine (sawtoothref04_CeilS.calls a0 a1 a2 t459 t460 _ A8.out).mono ?_); rintro e w32 ⟨rfl, hb⟩; refine ⟨_, rfl, ?_⟩; replace HB := stA hb; clear hb) | ((with_reducible refine gate_callee (f := 37) rfl ?_); refine goesLA_ (some 61) rfl rfl Try.func37 rfl #[.int .i64 a0, .int .i64 a1, .int .i64 a2] rfl ?_; (with_reducible refine (frac_NearS.calls a0 a1 a2 t461 t462 _ A9.out).mono ?_); rintro e w33 ⟨rfl, hb⟩; refine ⟨_, rfl, ?_⟩; replace HB := stA hb; clear hb) | ((with_reducible refine gate_callee (f := 38) rfl ?_); refine goesLA_ (some 68) rfl rfl Try.func38 rfl #[.int .i64 a0, .int .i64 a1, .int .i64 a2] rfl ?_; (with_reducible refine (sawtoothref04_NearS.calls a0 a1 a2 t463 t464 _ A10.out).mono ?_); rintro e w34 ⟨rfl, hb⟩; refine ⟨_, rfl, ?_⟩; replace HB := stA hb; clear hb) | ((with_reducible refine gate_callee (f := 39) rfl ?_); refine goesLA_ (some 74) rfl rfl Try.func39 rfl #[.int .i64 a0, .int .i64 a2] rfl ?_; (with_reducible refine (frac_SegsS.calls a0 a2 t465 t466 _ A11.out).mono ?_); rintro e w35 ⟨rfl, hb⟩; refine ⟨_, rfl, ?_⟩; replace HB := stA hb; clear hb) | ((with_reducible refine gate_callee (f := 40) rfl ?_); refine goesLA_ (some 80) rfl rfl Try.func40 rfl #[.int .i64 a0, .int .i64 a2] rfl ?_; (with_reducible refine (sawtoothref04_SegsS.calls a0 a2 t467 t468 _ A12.out).mono ?_); rintro e w36 ⟨rfl, hb⟩; refine ⟨_, rfl, ?_⟩; replace HB := stA hb; clear hb) | ((with_reducible refine gate_callee (f := 41) rfl ?_); refine goesLA_ (some 86) rfl rfl Try.func41 rfl #[.int .i64 a0, .int .i64 a1] rfl ?_; (with_reducible refine (frac_BytesS.calls a0 a1 t469 t470 _ A13.out).mono ?_); rintro e w37 ⟨rfl, hb⟩; refine ⟨_, rfl, ?_⟩; replace HB := stA hb; clear hb) | ((with_reducible refine gate_callee (f := 42) rfl ?_); refine goesLA_ (some 92) rfl rfl Try.func42 rfl #[.int .i64 a0, .int .i64 a1] rfl ?_; (with_reducible refine (sawtoothref04_BytesS.calls a0 a1 t471 t472 _ A14.out).mono ?_); rintro e w38 ⟨rfl, hb⟩; refine ⟨_, rfl, ?_⟩; replace HB := stA hb; clear hb) | (go_at_call 43; (with_reducible refine (frac_Whole.calls a0 t473 _ A26.out).mono ?_); rintro e w' ⟨rfl, ⟨nd, rfl⟩⟩) | (go_at_call 44; (with_reducible refine (sawtoothref04_WholeS.calls a0 t474 _ A27.out).mono ?_); rintro e w39 ⟨rfl, hb⟩; replace HB := stA hb; clear hb))
            go_ret
            exact ⟨by first | rfl | (simp [errW_none, errW_some] <;> rfl) | (simp [*, errW_none, errW_some] <;> rfl), by repeat (first | (with_reducible first | exact HB.out | apply below_alloc | apply pw_below_drewN | apply below_drew1) | exact HB.out)⟩
           ·rw [if_neg c25] at H
            exact absurd H (by simp)
          ·rw [if_neg c24] at H
           exact absurd H (by simp)
         ·rw [if_neg c23] at H
          exact absurd H (by simp)
        ·rw [if_neg c22] at H
         exact absurd H (by simp)
       ·rw [if_neg c21] at H
        exact absurd H (by simp)
      ·rw [if_neg c20] at H
       exact absurd H (by simp)
     ·rw [if_neg c19] at H
      exact absurd H (by simp)
    ·rw [if_neg c18] at H
     exact absurd H (by simp)
   ·rw [if_neg c17] at H
    exact absurd H (by simp)
  ·rw [if_neg c16] at H
   exact absurd H (by simp)
 ·replace c15 := Bool.eq_false_iff.mpr c15
  subst c15
  have H1 : (none) = some r := by rw [if_neg (show ¬ (false = true) by decide)] at H; exact H
  clear H; have H := H1; clear H1; exact absurd H (by simp)

/-- THE ONE PURE STATEMENT of sawtoothlaw04_FracTells: yours. -/
def sawtoothlaw04_FracTells.Pure : Prop := ∀ (a0 : Int) (a1 : Int) (a2 : Int), (Lit.int .i64 a0).wf = true → (Lit.int .i64 a1).wf = true → (Lit.int .i64 a2).wf = true → sawtoothlaw04_FracTells.f a0 a1 a2 = some true
theorem sawtoothlaw04_FracTells.walk (P : sawtoothlaw04_FracTells.Pure) (a0 : Int) (a1 : Int) (a2 : Int) (w : World) (w0 : (Lit.int .i64 a0).wf = true) (w1 : (Lit.int .i64 a1).wf = true) (w2 : (Lit.int .i64 a2).wf = true) :
  Calls Try.prog 9 #[.int .i64 a0, .int .i64 a1, .int .i64 a2] w fun e w' => e = .returned (.bool true) ∧ Below w.heap.size w w' := by
 have h := P a0 a1 a2 w0 w1 w2; refine (sawtoothlaw04_FracTells.calls a0 a1 a2 true w h).mono ?_; rintro e w' ⟨rfl, hd⟩; exact ⟨rfl, hd⟩

end Go.Proofs.Ytkoeehacildioaa.Px
