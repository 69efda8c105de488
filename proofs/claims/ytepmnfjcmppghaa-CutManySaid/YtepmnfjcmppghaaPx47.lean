/- Printed by a program of this session (wip/tool/px.py), over the kit's print: for each Go function a Lean function, and the proof that the machine's call answers as that function says. Conditions: none beside what the theorems state. -/
import Derived.Test.YtepmnfjcmppghaaPx0
import Derived.Test.YtepmnfjcmppghaaPx35
import Derived.Test.YtepmnfjcmppghaaPx39
import Derived.Test.YtepmnfjcmppghaaPx41
import Derived.Test.YtepmnfjcmppghaaPx42
import Derived.Test.YtepmnfjcmppghaaPx44
namespace Go.Proofs.Ytepmnfjcmppghaa.Px
open Go.RowKit Go.Proofs.YtepmnfjcmppghaaW.PrintWords Go.Proofs.YtepmnfjcmppghaaW.PrintLast Go.Proofs.YtepmnfjcmppghaaW.PrintMore
attribute [local go_sem] max2_int min2_int max_two min_two max_three min_three max_four min_four   -- for this text's walks alone
set_option linter.unusedVariables false
set_option linter.unusedSimpArgs false

/-! ### sawtoothlaw15_CutBounds: function 5 -/
noncomputable def sawtoothlaw15_CutBounds.f (a0 : Int) (a1 : Int) : Option (Bool) := (sawtoothlaw15_awakeS.f).bind fun t370 => ((cut_LeastS.f a0).bind fun t371 => (if t370 = true then (if t371 ≥ 131072 then (if t371 ≤ 68719476736 then (if a0 < 131072 then (if a0 ≤ 131072 then ((cut_LeastS.f (mn a0 a1)).bind fun t372 => ((cut_LeastS.f (mx a0 a1)).bind fun t373 => (some (decide (t372 ≤ t373))))) else (if t371 < a0 then ((cut_LeastS.f (mn a0 a1)).bind fun t374 => ((cut_LeastS.f (mx a0 a1)).bind fun t375 => (some (decide (t374 ≤ t375))))) else (none))) else (if t371 ≤ a0 then (if a0 ≤ 131072 then ((cut_LeastS.f (mn a0 a1)).bind fun t376 => ((cut_LeastS.f (mx a0 a1)).bind fun t377 => (some (decide (t376 ≤ t377))))) else (if t371 < a0 then ((cut_LeastS.f (mn a0 a1)).bind fun t378 => ((cut_LeastS.f (mx a0 a1)).bind fun t379 => (some (decide (t378 ≤ t379))))) else (none))) else (none))) else (none)) else (none)) else (none)))
set_option maxHeartbeats 8000000 in
set_option maxRecDepth 100000 in
theorem sawtoothlaw15_CutBounds.calls (a0 : Int) (a1 : Int) (r : Bool) (w : World) (h : sawtoothlaw15_CutBounds.f a0 a1 = some r) :
  Calls Try.prog 5 #[.int .i64 a0, .int .i64 a1] w fun e w' => e = .returned (.bool r) ∧ Below w.heap.size w w' := by
 have HB := Aside0.mk (Below.refl w.heap.size w)
 have H : ((sawtoothlaw15_awakeS.f).bind fun t370 => ((cut_LeastS.f a0).bind fun t371 => (if t370 = true then (if t371 ≥ 131072 then (if t371 ≤ 68719476736 then (if a0 < 131072 then (if a0 ≤ 131072 then ((cut_LeastS.f (mn a0 a1)).bind fun t372 => ((cut_LeastS.f (mx a0 a1)).bind fun t373 => (some (decide (t372 ≤ t373))))) else (if t371 < a0 then ((cut_LeastS.f (mn a0 a1)).bind fun t374 => ((cut_LeastS.f (mx a0 a1)).bind fun t375 => (some (decide (t374 ≤ t375))))) else (none))) else (if t371 ≤ a0 then (if a0 ≤ 131072 then ((cut_LeastS.f (mn a0 a1)).bind fun t376 => ((cut_LeastS.f (mx a0 a1)).bind fun t377 => (some (decide (t376 ≤ t377))))) else (if t371 < a0 then ((cut_LeastS.f (mn a0 a1)).bind fun t378 => ((cut_LeastS.f (mx a0 a1)).bind fun t379 => (some (decide (t378 ≤ t379))))) else (none))) else (none))) else (none)) else (none)) else (none)))) = some r := h
 clear h
 replace H := Option.bind_eq_some_iff.mp H
 obtain ⟨t370, A30, H⟩ := H
 try dsimp only at H
 have A3 := Aside0.mk A30
 clear A30
 replace H := Option.bind_eq_some_iff.mp H
 obtain ⟨t371, A40, H⟩ := H
 try dsimp only at H
 have A4 := Aside0.mk A40
 clear A40
 by_cases c5 : t370 = true
 ·subst c5
  have H1 : (if t371 ≥ 131072 then (if t371 ≤ 68719476736 then (if a0 < 131072 then (if a0 ≤ 131072 then ((cut_LeastS.f (mn a0 a1)).bind fun t372 => ((cut_LeastS.f (mx a0 a1)).bind fun t373 => (some (decide (t372 ≤ t373))))) else (if t371 < a0 then ((cut_LeastS.f (mn a0 a1)).bind fun t374 => ((cut_LeastS.f (mx a0 a1)).bind fun t375 => (some (decide (t374 ≤ t375))))) else (none))) else (if t371 ≤ a0 then (if a0 ≤ 131072 then ((cut_LeastS.f (mn a0 a1)).bind fun t376 => ((cut_LeastS.f (mx a0 a1)).bind fun t377 => (some (decide (t376 ≤ t377))))) else (if t371 < a0 then ((cut_LeastS.f (mn a0 a1)).bind fun t378 => ((cut_LeastS.f (mx a0 a1)).bind fun t379 => (some (decide (t378 ≤ t379))))) else (none))) else (none))) else (none)) else (none)) = some r := by rw [if_pos rfl] at H; exact H
  clear H
  have H := H1
  clear H1
  by_cases c6 : t371 ≥ 131072
  ·rw [if_pos c6] at H
   have c6b0 : decide (131072 ≤ t371) = true := decide_eq_true c6
   clear c6
   by_cases c7 : t371 ≤ 68719476736
   ·rw [if_pos c7] at H
    have c7b0 : decide (t371 ≤ 68719476736) = true := decide_eq_true c7
    clear c7
    by_cases c8 : a0 < 131072
    ·rw [if_pos c8] at H
     have c8b0 : decide (a0 < 131072) = true := decide_eq_true c8
     clear c8
     by_cases c9 : a0 ≤ 131072
     ·rw [if_pos c9] at H
      have c9b0 : decide (a0 ≤ 131072) = true := decide_eq_true c9
      clear c9
      obtain ⟨ji10, hji10⟩ : ∃ j_ : Int, (mn a0 a1) = j_ := ⟨_, rfl⟩
      replace H : ((cut_LeastS.f (ji10)).bind fun t372 => ((cut_LeastS.f (mx a0 a1)).bind fun t373 => (some (decide (t372 ≤ t373))))) = some r := by first | (rw [hji10] at H; exact H) | (simp only [hji10] at H ⊢; exact H)
      (try rw [hji10] at A3)
      (try rw [hji10] at A4)
      have hji10_ : (if a1 < a0 then a1 else a0) = ji10 := hji10
      replace H := Option.bind_eq_some_iff.mp H
      obtain ⟨t372, A110, H⟩ := H
      replace H : ((cut_LeastS.f (mx a0 a1)).bind fun t373 => (some (decide (t372 ≤ t373)))) = some r := H
      have A11 := Aside0.mk A110
      clear A110
      obtain ⟨ji12, hji12⟩ : ∃ j_ : Int, (mx a0 a1) = j_ := ⟨_, rfl⟩
      replace H : ((cut_LeastS.f (ji12)).bind fun t373 => (some (decide (t372 ≤ t373)))) = some r := by first | (rw [hji12] at H; exact H) | (simp only [hji12] at H ⊢; exact H)
      (try rw [hji12] at A3)
      (try rw [hji12] at A4)
      (try rw [hji12] at A11)
      have hji12_ : (if a0 < a1 then a1 else a0) = ji12 := hji12
      replace H := Option.bind_eq_some_iff.mp H
      obtain ⟨t373, A130, H⟩ := H
      replace H : (some (decide (t372 ≤ t373))) = some r := H
      have A13 := Aside0.mk A130
      clear A130
      obtain rfl := Option.some.inj H
      go_enter Try.func5, Try.ntmps5
      go_wp2_with (first | ((with_reducible refine gate_callee (f := 13) rfl ?_); refine goesL_ (some 7) rfl rfl Try.func13 (by kernel_rfl) rfl #[] rfl (by (try simp only [List.map_toArray, List.map_cons, List.map_nil]); first | done | rfl | (simp only [List.length_drop, List.length_take]; rfl)) ?_; (with_reducible refine (sawtoothlaw15_awakeS.calls  true _ A3.out).mono ?_); rintro e w14 ⟨rfl, hb⟩; refine ⟨_, rfl, ?_⟩; replace HB := Aside0.mk (below_step (by repeat (first | (with_reducible first | exact HB.out | apply below_alloc | apply pw_below_drewN | apply below_drew1) | exact HB.out)) hb); (try clear hb); (try clear hb2); (try clear hk); (try clear hi)) | ((with_reducible refine gate_callee (f := 17) rfl ?_); refine goesL_ (some 9) rfl rfl Try.func17 (by kernel_rfl) rfl #[.int .i64 a0] rfl (by (try simp only [List.map_toArray, List.map_cons, List.map_nil]); first | done | rfl | (simp only [List.length_drop, List.length_take]; rfl)) ?_; (with_reducible refine (cut_LeastS.calls a0 t371 _ A4.out).mono ?_); rintro e w15 ⟨rfl, hb⟩; refine ⟨_, rfl, ?_⟩; replace HB := Aside0.mk (below_step (by repeat (first | (with_reducible first | exact HB.out | apply below_alloc | apply pw_below_drewN | apply below_drew1) | exact HB.out)) hb); (try clear hb); (try clear hb2); (try clear hk); (try clear hi)) | (go_at_call 17; (with_reducible refine (cut_LeastS.calls ji10 t372 _ A11.out).mono ?_); rintro e w16 ⟨rfl, hb⟩; replace HB := Aside0.mk (below_step (by repeat (first | (with_reducible first | exact HB.out | apply below_alloc | apply pw_below_drewN | apply below_drew1) | exact HB.out)) hb); (try clear hb); (try clear hb2); (try clear hk); (try clear hi)) | (go_at_call 17; (with_reducible refine (cut_LeastS.calls ji12 t373 _ A13.out).mono ?_); rintro e w17 ⟨rfl, hb⟩; replace HB := Aside0.mk (below_step (by repeat (first | (with_reducible first | exact HB.out | apply below_alloc | apply pw_below_drewN | apply below_drew1) | exact HB.out)) hb); (try clear hb); (try clear hb2); (try clear hk); (try clear hi)))
      go_ret
      exact ⟨by first | rfl | (simp [errW_none, errW_some] <;> rfl) | (simp only [← hji10, ← hji12]; first | rfl | (simp [errW_none, errW_some] <;> rfl)) | (simp [*, errW_none, errW_some] <;> rfl), by repeat (first | (with_reducible first | exact HB.out | apply below_alloc | apply pw_below_drewN | apply below_drew1) | exact HB.out)⟩
     ·rw [if_neg c9] at H
      have c9b0 : decide (a0 ≤ 131072) = false := decide_eq_false c9
      clear c9
      by_cases c18 : t371 < a0
      ·rw [if_pos c18] at H
       have c18b0 : decide (t371 < a0) = true := decide_eq_true c18
       clear c18
       obtain ⟨ji19, hji19⟩ : ∃ j_ : Int, (mn a0 a1) = j_ := ⟨_, rfl⟩
       replace H : ((cut_LeastS.f (ji19)).bind fun t374 => ((cut_LeastS.f (mx a0 a1)).bind fun t375 => (some (decide (t374 ≤ t375))))) = some r := by first | (rw [hji19] at H; exact H) | (simp only [hji19] at H ⊢; exact H)
       (try rw [hji19] at A3)
       (try rw [hji19] at A4)
       have hji19_ : (if a1 < a0 then a1 else a0) = ji19 := hji19
       replace H := Option.bind_eq_some_iff.mp H
       obtain ⟨t374, A200, H⟩ := H
       replace H : ((cut_LeastS.f (mx a0 a1)).bind fun t375 => (some (decide (t374 ≤ t375)))) = some r := H
       have A20 := Aside0.mk A200
       clear A200
       obtain ⟨ji21, hji21⟩ : ∃ j_ : Int, (mx a0 a1) = j_ := ⟨_, rfl⟩
       replace H : ((cut_LeastS.f (ji21)).bind fun t375 => (some (decide (t374 ≤ t375)))) = some r := by first | (rw [hji21] at H; exact H) | (simp only [hji21] at H ⊢; exact H)
       (try rw [hji21] at A3)
       (try rw [hji21] at A4)
       (try rw [hji21] at A20)
       have hji21_ : (if a0 < a1 then a1 else a0) = ji21 := hji21
       replace H := Option.bind_eq_some_iff.mp H
       obtain ⟨t375, A220, H⟩ := H
       replace H : (some (decide (t374 ≤ t375))) = some r := H
       have A22 := Aside0.mk A220
       clear A220
       obtain rfl := Option.some.inj H
       go_enter Try.func5, Try.ntmps5
       go_wp2_with (first | ((with_reducible refine gate_callee (f := 13) rfl ?_); refine goesL_ (some 7) rfl rfl Try.func13 (by kernel_rfl) rfl #[] rfl (by (try simp only [List.map_toArray, List.map_cons, List.map_nil]); first | done | rfl | (simp only [List.length_drop, List.length_take]; rfl)) ?_; (with_reducible refine (sawtoothlaw15_awakeS.calls  true _ A3.out).mono ?_); rintro e w23 ⟨rfl, hb⟩; refine ⟨_, rfl, ?_⟩; replace HB := Aside0.mk (below_step (by repeat (first | (with_reducible first | exact HB.out | apply below_alloc | apply pw_below_drewN | apply below_drew1) | exact HB.out)) hb); (try clear hb); (try clear hb2); (try clear hk); (try clear hi)) | ((with_reducible refine gate_callee (f := 17) rfl ?_); refine goesL_ (some 9) rfl rfl Try.func17 (by kernel_rfl) rfl #[.int .i64 a0] rfl (by (try simp only [List.map_toArray, List.map_cons, List.map_nil]); first | done | rfl | (simp only [List.length_drop, List.length_take]; rfl)) ?_; (with_reducible refine (cut_LeastS.calls a0 t371 _ A4.out).mono ?_); rintro e w24 ⟨rfl, hb⟩; refine ⟨_, rfl, ?_⟩; replace HB := Aside0.mk (below_step (by repeat (first | (with_reducible first | exact HB.out | apply below_alloc | apply pw_below_drewN | apply below_drew1) | exact HB.out)) hb); (try clear hb); (try clear hb2); (try clear hk); (try clear hi)) | (go_at_call 17; (with_reducible refine (cut_LeastS.calls ji19 t374 _ A20.out).mono ?_); rintro e w25 ⟨rfl, hb⟩; replace HB := Aside0.mk (below_step (by repeat (first | (with_reducible first | exact HB.out | apply below_alloc | apply pw_below_drewN | apply below_drew1) | exact HB.out)) hb); (try clear hb); (try clear hb2); (try clear hk); (try clear hi)) | (go_at_call 17; (with_reducible refine (cut_LeastS.calls ji21 t375 _ A22.out).mono ?_); rintro e w26 ⟨rfl, hb⟩; replace HB := Aside0.mk (below_step (by repeat (first | (with_reducible first | exact HB.out | apply below_alloc | apply pw_below_drewN | apply below_drew1) | exact HB.out)) hb); (try clear hb); (try clear hb2); (try clear hk); (try clear hi)))
       go_ret
       exact ⟨by first | rfl | (simp [errW_none, errW_some] <;> rfl) | (simp only [← hji19, ← hji21]; first | rfl | (simp [errW_none, errW_some] <;> rfl)) | (simp [*, errW_none, errW_some] <;> rfl), by repeat (first | (with_reducible first | exact HB.out | apply below_alloc | apply pw_below_drewN | apply below_drew1) | exact HB.out)⟩
      ·rw [if_neg c18] at H
       exact absurd H (by simp)
    ·rw [if_neg c8] at H
     have c8b0 : decide (a0 < 131072) = false := decide_eq_false c8
     clear c8
     by_cases c27 : t371 ≤ a0
     ·rw [if_pos c27] at H
      have c27b0 : decide (t371 ≤ a0) = true := decide_eq_true c27
      clear c27
      by_cases c28 : a0 ≤ 131072
      ·rw [if_pos c28] at H
       have c28b0 : decide (a0 ≤ 131072) = true := decide_eq_true c28
       clear c28
       obtain ⟨ji29, hji29⟩ : ∃ j_ : Int, (mn a0 a1) = j_ := ⟨_, rfl⟩
       replace H : ((cut_LeastS.f (ji29)).bind fun t376 => ((cut_LeastS.f (mx a0 a1)).bind fun t377 => (some (decide (t376 ≤ t377))))) = some r := by first | (rw [hji29] at H; exact H) | (simp only [hji29] at H ⊢; exact H)
       (try rw [hji29] at A3)
       (try rw [hji29] at A4)
       have hji29_ : (if a1 < a0 then a1 else a0) = ji29 := hji29
       replace H := Option.bind_eq_some_iff.mp H
       obtain ⟨t376, A300, H⟩ := H
       replace H : ((cut_LeastS.f (mx a0 a1)).bind fun t377 => (some (decide (t376 ≤ t377)))) = some r := H
       have A30 := Aside0.mk A300
       clear A300
       obtain ⟨ji31, hji31⟩ : ∃ j_ : Int, (mx a0 a1) = j_ := ⟨_, rfl⟩
       replace H : ((cut_LeastS.f (ji31)).bind fun t377 => (some (decide (t376 ≤ t377)))) = some r := by first | (rw [hji31] at H; exact H) | (simp only [hji31] at H ⊢; exact H)
       (try rw [hji31] at A3)
       (try rw [hji31] at A4)
       (try rw [hji31] at A30)
       have hji31_ : (if a0 < a1 then a1 else a0) = ji31 := hji31
       replace H := Option.bind_eq_some_iff.mp H
       obtain ⟨t377, A320, H⟩ := H
       replace H : (some (decide (t376 ≤ t377))) = some r := H
       have A32 := Aside0.mk A320
       clear A320
       obtain rfl := Option.some.inj H
       go_enter Try.func5, Try.ntmps5
       go_wp2_with (first | ((with_reducible refine gate_callee (f := 13) rfl ?_); refine goesL_ (some 7) rfl rfl Try.func13 (by kernel_rfl) rfl #[] rfl (by (try simp only [List.map_toArray, List.map_cons, List.map_nil]); first | done | rfl | (simp only [List.length_drop, List.length_take]; rfl)) ?_; (with_reducible refine (sawtoothlaw15_awakeS.calls  true _ A3.out).mono ?_); rintro e w33 ⟨rfl, hb⟩; refine ⟨_, rfl, ?_⟩; replace HB := Aside0.mk (below_step (by repeat (first | (with_reducible first | exact HB.out | apply below_alloc | apply pw_below_drewN | apply below_drew1) | exact HB.out)) hb); (try clear hb); (try clear hb2); (try clear hk); (try clear hi)) | ((with_reducible refine gate_callee (f := 17) rfl ?_); refine goesL_ (some 9) rfl rfl Try.func17 (by kernel_rfl) rfl #[.int .i64 a0] rfl (by (try simp only [List.map_toArray, List.map_cons, List.map_nil]); first | done | rfl | (simp only [List.length_drop, List.length_take]; rfl)) ?_; (with_reducible refine (cut_LeastS.calls a0 t371 _ A4.out).mono ?_); rintro e w34 ⟨rfl, hb⟩; refine ⟨_, rfl, ?_⟩; replace HB := Aside0.mk (below_step (by repeat (first | (with_reducible first | exact HB.out | apply below_alloc | apply pw_below_drewN | apply below_drew1) | exact HB.out)) hb); (try clear hb); (try clear hb2); (try clear hk); (try clear hi)) | (go_at_call 17; (with_reducible refine (cut_LeastS.calls ji29 t376 _ A30.out).mono ?_); rintro e w35 ⟨rfl, hb⟩; replace HB := Aside0.mk (below_step (by repeat (first | (with_reducible first | exact HB.out | apply below_alloc | apply pw_below_drewN | apply below_drew1) | exact HB.out)) hb); (try clear hb); (try clear hb2); (try clear hk); (try clear hi)) | (go_at_call 17; (with_reducible refine (cut_LeastS.calls ji31 t377 _ A32.out).mono ?_); rintro e w36 ⟨rfl, hb⟩; replace HB := Aside0.mk (below_step (by repeat (first | (with_reducible first | exact HB.out | apply below_alloc | apply pw_below_drewN | apply below_drew1) | exact HB.out)) hb); (try clear hb); (try clear hb2); (try clear hk); (try clear hi)))
       go_ret
       exact ⟨by first | rfl | (simp [errW_none, errW_some] <;> rfl) | (simp only [← hji29, ← hji31]; first | rfl | (simp [errW_none, errW_some] <;> rfl)) | (simp [*, errW_none, errW_some] <;> rfl), by repeat (first | (with_reducible first | exact HB.out | apply below_alloc | apply pw_below_drewN | apply below_drew1) | exact HB.out)⟩
      ·rw [if_neg c28] at H
       have c28b0 : decide (a0 ≤ 131072) = false := decide_eq_false c28
       clear c28
       by_cases c37 : t371 < a0
       ·rw [if_pos c37] at H
        have c37b0 : decide (t371 < a0) = true := decide_eq_true c37
        clear c37
        obtain ⟨ji38, hji38⟩ : ∃ j_ : Int, (mn a0 a1) = j_ := ⟨_, rfl⟩
        replace H : ((cut_LeastS.f (ji38)).bind fun t378 => ((cut_LeastS.f (mx a0 a1)).bind fun t379 => (some (decide (t378 ≤ t379))))) = some r := by first | (rw [hji38] at H; exact H) | (simp only [hji38] at H ⊢; exact H)
        (try rw [hji38] at A3)
        (try rw [hji38] at A4)
        have hji38_ : (if a1 < a0 then a1 else a0) = ji38 := hji38
        replace H := Option.bind_eq_some_iff.mp H
        obtain ⟨t378, A390, H⟩ := H
        replace H : ((cut_LeastS.f (mx a0 a1)).bind fun t379 => (some (decide (t378 ≤ t379)))) = some r := H
        have A39 := Aside0.mk A390
        clear A390
        obtain ⟨ji40, hji40⟩ : ∃ j_ : Int, (mx a0 a1) = j_ := ⟨_, rfl⟩
        replace H : ((cut_LeastS.f (ji40)).bind fun t379 => (some (decide (t378 ≤ t379)))) = some r := by first | (rw [hji40] at H; exact H) | (simp only [hji40] at H ⊢; exact H)
        (try rw [hji40] at A3)
        (try rw [hji40] at A4)
        (try rw [hji40] at A39)
        have hji40_ : (if a0 < a1 then a1 else a0) = ji40 := hji40
        replace H := Option.bind_eq_some_iff.mp H
        obtain ⟨t379, A410, H⟩ := H
        replace H : (some (decide (t378 ≤ t379))) = some r := H
        have A41 := Aside0.mk A410
        clear A410
        obtain rfl := Option.some.inj H
        go_enter Try.func5, Try.ntmps5
        go_wp2_with (first | ((with_reducible refine gate_callee (f := 13) rfl ?_); refine goesL_ (some 7) rfl rfl Try.func13 (by kernel_rfl) rfl #[] rfl (by (try simp only [List.map_toArray, List.map_cons, List.map_nil]); first | done | rfl | (simp only [List.length_drop, List.length_take]; rfl)) ?_; (with_reducible refine (sawtoothlaw15_awakeS.calls  true _ A3.out).mono ?_); rintro e w42 ⟨rfl, hb⟩; refine ⟨_, rfl, ?_⟩; replace HB := Aside0.mk (below_step (by repeat (first | (with_reducible first | exact HB.out | apply below_alloc | apply pw_below_drewN | apply below_drew1) | exact HB.out)) hb); (try clear hb); (try clear hb2); (try clear hk); (try clear hi)) | ((with_reducible refine gate_callee (f := 17) rfl ?_); refine goesL_ (some 9) rfl rfl Try.func17 (by kernel_rfl) rfl #[.int .i64 a0] rfl (by (try simp only [List.map_toArray, List.map_cons, List.map_nil]); first | done | rfl | (simp only [List.length_drop, List.length_take]; rfl)) ?_; (with_reducible refine (cut_LeastS.calls a0 t371 _ A4.out).mono ?_); rintro e w43 ⟨rfl, hb⟩; refine ⟨_, rfl, ?_⟩; replace HB := Aside0.mk (below_step (by repeat (first | (with_reducible first | exact HB.out | apply below_alloc | apply pw_below_drewN | apply below_drew1) | exact HB.out)) hb); (try clear hb); (try clear hb2); (try clear hk); (try clear hi)) | (go_at_call 17; (with_reducible refine (cut_LeastS.calls ji38 t378 _ A39.out).mono ?_); rintro e w44 ⟨rfl, hb⟩; replace HB := Aside0.mk (below_step (by repeat (first | (with_reducible first | exact HB.out | apply below_alloc | apply pw_below_drewN | apply below_drew1) | exact HB.out)) hb); (try clear hb); (try clear hb2); (try clear hk); (try clear hi)) | (go_at_call 17; (with_reducible refine (cut_LeastS.calls ji40 t379 _ A41.out).mono ?_); rintro e w45 ⟨rfl, hb⟩; replace HB := Aside0.mk (below_step (by repeat (first | (with_reducible first | exact HB.out | apply below_alloc | apply pw_below_drewN | apply below_drew1) | exact HB.out)) hb); (try clear hb); (try clear hb2); (try clear hk); (try clear hi)))
        go_ret
        exact ⟨by first | rfl | (simp [errW_none, errW_some] <;> rfl) | (simp only [← hji38, ← hji40]; first | rfl | (simp [errW_none, errW_some] <;> rfl)) | (simp [*, errW_none, errW_some] <;> rfl), by repeat (first | (with_reducible first | exact HB.out | apply below_alloc | apply pw_below_drewN | apply below_drew1) | exact HB.out)⟩
       ·rw [if_neg c37] at H
        exact absurd H (by simp)
     ·rw [if_neg c27] at H
      exact absurd H (by simp)
   ·rw [if_neg c7] at H
    exact absurd H (by simp)
  ·rw [if_neg c6] at H
   exact absurd H (by simp)
 ·replace c5 := Bool.eq_false_iff.mpr c5
  subst c5
  have H1 : (none) = some r := by rw [if_neg (show ¬ (false = true) by decide)] at H; exact H
  clear H
  have H := H1
  clear H1
  exact absurd H (by simp)

/-- THE ONE PURE STATEMENT of sawtoothlaw15_CutBounds: yours. -/
def sawtoothlaw15_CutBounds.Pure : Prop := ∀ (a0 : Int) (a1 : Int), (Lit.int .i64 a0).wf = true → (Lit.int .i64 a1).wf = true → sawtoothlaw15_CutBounds.f a0 a1 = some true
theorem sawtoothlaw15_CutBounds.walk (P : sawtoothlaw15_CutBounds.Pure) (a0 : Int) (a1 : Int) (w : World) (w0 : (Lit.int .i64 a0).wf = true) (w1 : (Lit.int .i64 a1).wf = true) :
  Calls Try.prog 5 #[.int .i64 a0, .int .i64 a1] w fun e w' => e = .returned (.bool true) ∧ Below w.heap.size w w' := by
 have h := P a0 a1 w0 w1
 refine (sawtoothlaw15_CutBounds.calls a0 a1 true w h).mono ?_
 rintro e w' ⟨rfl, hd⟩
 exact ⟨rfl, hd⟩

/-! ### sawtoothlaw15_CutMany: function 6 -/
noncomputable def sawtoothlaw15_CutMany.f (a0 : Int) (a1 : Int) (a2 : Int) : Option (Bool) := (sawtoothlaw15_awakeS.f).bind fun t380 => ((cut_Many.f a0 (wrap64 (a1))).bind fun t381 => ((cut_Many.f t381 (wrap64 (a2))).bind fun t382 => (if t380 = true then ((cut_Many.f a0 (wrap64 ((wrap64 (a1)) + (wrap64 (a2))))).bind fun t383 => (if t382 = t383 then ((cut_Many.f a0 50).bind fun t384 => (if t384 = 131072 then ((cut_Many.f a0 1).bind fun t385 => ((cut_LeastS.f a0).bind fun t386 => (if t385 = t386 then ((cut_Many.f a0 (wrap64 ((wrap64 (a1)) + 1))).bind fun t387 => ((cut_Many.f a0 (wrap64 (a1))).bind fun t388 => (some (decide (t387 ≤ t388))))) else (none)))) else (none))) else (none))) else (none))))
set_option maxHeartbeats 8000000 in
set_option maxRecDepth 100000 in
theorem sawtoothlaw15_CutMany.calls (a0 : Int) (a1 : Int) (a2 : Int) (r : Bool) (w : World) (h : sawtoothlaw15_CutMany.f a0 a1 a2 = some r) :
  Calls Try.prog 6 #[.int .i64 a0, .int .u8 a1, .int .u8 a2] w fun e w' => e = .returned (.bool r) ∧ Below w.heap.size w w' := by
 have HB := Aside0.mk (Below.refl w.heap.size w)
 have H : ((sawtoothlaw15_awakeS.f).bind fun t380 => ((cut_Many.f a0 (wrap64 (a1))).bind fun t381 => ((cut_Many.f t381 (wrap64 (a2))).bind fun t382 => (if t380 = true then ((cut_Many.f a0 (wrap64 ((wrap64 (a1)) + (wrap64 (a2))))).bind fun t383 => (if t382 = t383 then ((cut_Many.f a0 50).bind fun t384 => (if t384 = 131072 then ((cut_Many.f a0 1).bind fun t385 => ((cut_LeastS.f a0).bind fun t386 => (if t385 = t386 then ((cut_Many.f a0 (wrap64 ((wrap64 (a1)) + 1))).bind fun t387 => ((cut_Many.f a0 (wrap64 (a1))).bind fun t388 => (some (decide (t387 ≤ t388))))) else (none)))) else (none))) else (none))) else (none))))) = some r := h
 clear h
 replace H := Option.bind_eq_some_iff.mp H
 obtain ⟨t380, A40, H⟩ := H
 try dsimp only at H
 have A4 := Aside0.mk A40
 clear A40
 replace H := Option.bind_eq_some_iff.mp H
 obtain ⟨t381, A50, H⟩ := H
 try dsimp only at H
 have A5 := Aside0.mk A50
 clear A50
 replace H := Option.bind_eq_some_iff.mp H
 obtain ⟨t382, A60, H⟩ := H
 try dsimp only at H
 have A6 := Aside0.mk A60
 clear A60
 by_cases c7 : t380 = true
 ·subst c7
  have H1 : ((cut_Many.f a0 (wrap64 ((wrap64 (a1)) + (wrap64 (a2))))).bind fun t383 => (if t382 = t383 then ((cut_Many.f a0 50).bind fun t384 => (if t384 = 131072 then ((cut_Many.f a0 1).bind fun t385 => ((cut_LeastS.f a0).bind fun t386 => (if t385 = t386 then ((cut_Many.f a0 (wrap64 ((wrap64 (a1)) + 1))).bind fun t387 => ((cut_Many.f a0 (wrap64 (a1))).bind fun t388 => (some (decide (t387 ≤ t388))))) else (none)))) else (none))) else (none))) = some r := by rw [if_pos rfl] at H; exact H
  clear H
  have H := H1
  clear H1
  replace H := Option.bind_eq_some_iff.mp H
  obtain ⟨t383, A80, H⟩ := H
  try dsimp only at H
  have A8 := Aside0.mk A80
  clear A80
  by_cases c9 : t382 = t383
  ·rw [if_pos c9] at H
   have c9b0 : (t382 == t383) = true := beq_iff_eq.mpr c9
   have c9b1 : (t382 != t383) = false := bne_eq_false_iff_eq.mpr c9
   clear c9
   replace H := Option.bind_eq_some_iff.mp H
   obtain ⟨t384, A100, H⟩ := H
   try dsimp only at H
   have A10 := Aside0.mk A100
   clear A100
   by_cases c11 : t384 = 131072
   ·rw [if_pos c11] at H
    have c11b0 : (t384 == 131072) = true := beq_iff_eq.mpr c11
    have c11b1 : (t384 != 131072) = false := bne_eq_false_iff_eq.mpr c11
    clear c11
    replace H := Option.bind_eq_some_iff.mp H
    obtain ⟨t385, A120, H⟩ := H
    try dsimp only at H
    have A12 := Aside0.mk A120
    clear A120
    replace H := Option.bind_eq_some_iff.mp H
    obtain ⟨t386, A130, H⟩ := H
    replace H : (if t385 = t386 then ((cut_Many.f a0 (wrap64 ((wrap64 (a1)) + 1))).bind fun t387 => ((cut_Many.f a0 (wrap64 (a1))).bind fun t388 => (some (decide (t387 ≤ t388))))) else (none)) = some r := H
    have A13 := Aside0.mk A130
    clear A130
    by_cases c14 : t385 = t386
    ·rw [if_pos c14] at H
     have c14b0 : (t385 == t386) = true := beq_iff_eq.mpr c14
     have c14b1 : (t385 != t386) = false := bne_eq_false_iff_eq.mpr c14
     clear c14
     replace H := Option.bind_eq_some_iff.mp H
     obtain ⟨t387, A150, H⟩ := H
     replace H : ((cut_Many.f a0 (wrap64 (a1))).bind fun t388 => (some (decide (t387 ≤ t388)))) = some r := H
     have A15 := Aside0.mk A150
     clear A150
     replace H := Option.bind_eq_some_iff.mp H
     obtain ⟨t388, A160, H⟩ := H
     replace H : (some (decide (t387 ≤ t388))) = some r := H
     have A16 := Aside0.mk A160
     clear A160
     obtain rfl := Option.some.inj H
     go_enter Try.func6, Try.ntmps6
     go_wp2_with (first | ((with_reducible refine gate_callee (f := 13) rfl ?_); refine goesL_ (some 9) rfl rfl Try.func13 (by kernel_rfl) rfl #[] rfl (by (try simp only [List.map_toArray, List.map_cons, List.map_nil]); first | done | rfl | (simp only [List.length_drop, List.length_take]; rfl)) ?_; (with_reducible refine (sawtoothlaw15_awakeS.calls  true _ A4.out).mono ?_); rintro e w17 ⟨rfl, hb⟩; refine ⟨_, rfl, ?_⟩; replace HB := Aside0.mk (below_step (by repeat (first | (with_reducible first | exact HB.out | apply below_alloc | apply pw_below_drewN | apply below_drew1) | exact HB.out)) hb); (try clear hb); (try clear hb2); (try clear hk); (try clear hi)) | ((with_reducible refine gate_callee (f := 19) rfl ?_); refine goesL_ (some 13) rfl rfl Try.func19 (by kernel_rfl) rfl #[.int .i64 a0, .int .i64 (wrap64 (a1))] rfl (by (try simp only [List.map_toArray, List.map_cons, List.map_nil]); first | done | rfl | (simp only [List.length_drop, List.length_take]; rfl)) ?_; (with_reducible refine (cut_Many.calls a0 (wrap64 (a1)) t381 _ A5.out).mono ?_); rintro e w18 ⟨rfl, hb⟩; refine ⟨_, rfl, ?_⟩; replace HB := Aside0.mk (below_step (by repeat (first | (with_reducible first | exact HB.out | apply below_alloc | apply pw_below_drewN | apply below_drew1) | exact HB.out)) hb); (try clear hb); (try clear hb2); (try clear hk); (try clear hi)) | ((with_reducible refine gate_callee (f := 19) rfl ?_); refine goesL_ (some 16) rfl rfl Try.func19 (by kernel_rfl) rfl #[.int .i64 t381, .int .i64 (wrap64 (a2))] rfl (by (try simp only [List.map_toArray, List.map_cons, List.map_nil]); first | done | rfl | (simp only [List.length_drop, List.length_take]; rfl)) ?_; (with_reducible refine (cut_Many.calls t381 (wrap64 (a2)) t382 _ A6.out).mono ?_); rintro e w19 ⟨rfl, hb⟩; refine ⟨_, rfl, ?_⟩; replace HB := Aside0.mk (below_step (by repeat (first | (with_reducible first | exact HB.out | apply below_alloc | apply pw_below_drewN | apply below_drew1) | exact HB.out)) hb); (try clear hb); (try clear hb2); (try clear hk); (try clear hi)) | (go_at_call 19; (with_reducible refine (cut_Many.calls a0 (wrap64 ((wrap64 (a1)) + (wrap64 (a2)))) t383 _ A8.out).mono ?_); rintro e w20 ⟨rfl, hb⟩; replace HB := Aside0.mk (below_step (by repeat (first | (with_reducible first | exact HB.out | apply below_alloc | apply pw_below_drewN | apply below_drew1) | exact HB.out)) hb); (try clear hb); (try clear hb2); (try clear hk); (try clear hi)) | (go_at_call 19; (with_reducible refine (cut_Many.calls a0 50 t384 _ A10.out).mono ?_); rintro e w21 ⟨rfl, hb⟩; replace HB := Aside0.mk (below_step (by repeat (first | (with_reducible first | exact HB.out | apply below_alloc | apply pw_below_drewN | apply below_drew1) | exact HB.out)) hb); (try clear hb); (try clear hb2); (try clear hk); (try clear hi)) | (go_at_call 19; (with_reducible refine (cut_Many.calls a0 1 t385 _ A12.out).mono ?_); rintro e w22 ⟨rfl, hb⟩; replace HB := Aside0.mk (below_step (by repeat (first | (with_reducible first | exact HB.out | apply below_alloc | apply pw_below_drewN | apply below_drew1) | exact HB.out)) hb); (try clear hb); (try clear hb2); (try clear hk); (try clear hi)) | (go_at_call 17; (with_reducible refine (cut_LeastS.calls a0 t386 _ A13.out).mono ?_); rintro e w23 ⟨rfl, hb⟩; replace HB := Aside0.mk (below_step (by repeat (first | (with_reducible first | exact HB.out | apply below_alloc | apply pw_below_drewN | apply below_drew1) | exact HB.out)) hb); (try clear hb); (try clear hb2); (try clear hk); (try clear hi)) | (go_at_call 19; (with_reducible refine (cut_Many.calls a0 (wrap64 ((wrap64 (a1)) + 1)) t387 _ A15.out).mono ?_); rintro e w24 ⟨rfl, hb⟩; replace HB := Aside0.mk (below_step (by repeat (first | (with_reducible first | exact HB.out | apply below_alloc | apply pw_below_drewN | apply below_drew1) | exact HB.out)) hb); (try clear hb); (try clear hb2); (try clear hk); (try clear hi)) | (go_at_call 19; (with_reducible refine (cut_Many.calls a0 (wrap64 (a1)) t388 _ A16.out).mono ?_); rintro e w25 ⟨rfl, hb⟩; replace HB := Aside0.mk (below_step (by repeat (first | (with_reducible first | exact HB.out | apply below_alloc | apply pw_below_drewN | apply below_drew1) | exact HB.out)) hb); (try clear hb); (try clear hb2); (try clear hk); (try clear hi)))
     go_ret
     exact ⟨by first | rfl | (simp [errW_none, errW_some] <;> rfl) | (simp [*, errW_none, errW_some] <;> rfl), by repeat (first | (with_reducible first | exact HB.out | apply below_alloc | apply pw_below_drewN | apply below_drew1) | exact HB.out)⟩
    ·rw [if_neg c14] at H
     exact absurd H (by simp)
   ·rw [if_neg c11] at H
    exact absurd H (by simp)
  ·rw [if_neg c9] at H
   exact absurd H (by simp)
 ·replace c7 := Bool.eq_false_iff.mpr c7
  subst c7
  have H1 : (none) = some r := by rw [if_neg (show ¬ (false = true) by decide)] at H; exact H
  clear H
  have H := H1
  clear H1
  exact absurd H (by simp)

/-- THE ONE PURE STATEMENT of sawtoothlaw15_CutMany: yours. -/
def sawtoothlaw15_CutMany.Pure : Prop := ∀ (a0 : Int) (a1 : Int) (a2 : Int), (Lit.int .i64 a0).wf = true → (Lit.int .u8 a1).wf = true → (Lit.int .u8 a2).wf = true → sawtoothlaw15_CutMany.f a0 a1 a2 = some true
theorem sawtoothlaw15_CutMany.walk (P : sawtoothlaw15_CutMany.Pure) (a0 : Int) (a1 : Int) (a2 : Int) (w : World) (w0 : (Lit.int .i64 a0).wf = true) (w1 : (Lit.int .u8 a1).wf = true) (w2 : (Lit.int .u8 a2).wf = true) :
  Calls Try.prog 6 #[.int .i64 a0, .int .u8 a1, .int .u8 a2] w fun e w' => e = .returned (.bool true) ∧ Below w.heap.size w w' := by
 have h := P a0 a1 a2 w0 w1 w2
 refine (sawtoothlaw15_CutMany.calls a0 a1 a2 true w h).mono ?_
 rintro e w' ⟨rfl, hd⟩
 exact ⟨rfl, hd⟩

/-! ### sawtoothlaw15_CutLoss: function 7 -/
noncomputable def sawtoothlaw15_CutLoss.f (a0 : Int) (a1 : Int) : Option (Bool) := (sawtoothlaw15_awakeS.f).bind fun t389 => ((cut_LossS.f (wrap64 (131072 + (wrap64 (Int.tmod a0 68719345665)))) a1).bind fun bt390 => ((cut_TimeoutS.f (wrap64 (131072 + (wrap64 (Int.tmod a0 68719345665)))) a1).bind fun bt392 => (if t389 = true then (if bt390.2 ≤ (wrap64 (131072 + (wrap64 (Int.tmod a0 68719345665)))) then (if (wrap64 (131072 + (wrap64 (Int.tmod a0 68719345665)))) = 131072 then (if bt392.1 = 131072 then (if bt392.2.1 = bt390.1 then (if bt392.2.2 = bt390.2 then (if 2621440 > (wrap64 (17 * (wrap64 (131072 + (wrap64 (Int.tmod a0 68719345665)))))) then (some true) else (some (decide (bt390.1 ≤ bt390.2)))) else (none)) else (none)) else (none)) else (if bt390.1 ≤ (wrap64 (131072 + (wrap64 (Int.tmod a0 68719345665)))) then (if bt392.1 = 131072 then (if bt392.2.1 = bt390.1 then (if bt392.2.2 = bt390.2 then (if 2621440 > (wrap64 (17 * (wrap64 (131072 + (wrap64 (Int.tmod a0 68719345665)))))) then (some true) else (some (decide (bt390.1 ≤ bt390.2)))) else (none)) else (none)) else (none)) else (none))) else (none)) else (none))))
set_option maxHeartbeats 8000000 in
set_option maxRecDepth 100000 in
theorem sawtoothlaw15_CutLoss.calls (a0 : Int) (a1 : Int) (r : Bool) (w : World) (h : sawtoothlaw15_CutLoss.f a0 a1 = some r) :
  Calls Try.prog 7 #[.int .u64 a0, .int .i64 a1] w fun e w' => e = .returned (.bool r) ∧ Below w.heap.size w w' := by
 have HB := Aside0.mk (Below.refl w.heap.size w)
 have H : ((sawtoothlaw15_awakeS.f).bind fun t389 => ((cut_LossS.f (wrap64 (131072 + (wrap64 (Int.tmod a0 68719345665)))) a1).bind fun bt390 => ((cut_TimeoutS.f (wrap64 (131072 + (wrap64 (Int.tmod a0 68719345665)))) a1).bind fun bt392 => (if t389 = true then (if bt390.2 ≤ (wrap64 (131072 + (wrap64 (Int.tmod a0 68719345665)))) then (if (wrap64 (131072 + (wrap64 (Int.tmod a0 68719345665)))) = 131072 then (if bt392.1 = 131072 then (if bt392.2.1 = bt390.1 then (if bt392.2.2 = bt390.2 then (if 2621440 > (wrap64 (17 * (wrap64 (131072 + (wrap64 (Int.tmod a0 68719345665)))))) then (some true) else (some (decide (bt390.1 ≤ bt390.2)))) else (none)) else (none)) else (none)) else (if bt390.1 ≤ (wrap64 (131072 + (wrap64 (Int.tmod a0 68719345665)))) then (if bt392.1 = 131072 then (if bt392.2.1 = bt390.1 then (if bt392.2.2 = bt390.2 then (if 2621440 > (wrap64 (17 * (wrap64 (131072 + (wrap64 (Int.tmod a0 68719345665)))))) then (some true) else (some (decide (bt390.1 ≤ bt390.2)))) else (none)) else (none)) else (none)) else (none))) else (none)) else (none))))) = some r := h
 clear h
 replace H := Option.bind_eq_some_iff.mp H
 obtain ⟨t389, A30, H⟩ := H
 try dsimp only at H
 have A3 := Aside0.mk A30
 clear A30
 replace H := Option.bind_eq_some_iff.mp H
 obtain ⟨⟨t390, t391⟩, A40, H⟩ := H
 try dsimp only at H
 have A4 := Aside0.mk A40
 clear A40
 replace H := Option.bind_eq_some_iff.mp H
 obtain ⟨⟨t392, t393, t394⟩, A50, H⟩ := H
 try dsimp only at H
 have A5 := Aside0.mk A50
 clear A50
 by_cases c6 : t389 = true
 ·subst c6
  have H1 : (if t391 ≤ (wrap64 (131072 + (wrap64 (Int.tmod a0 68719345665)))) then (if (wrap64 (131072 + (wrap64 (Int.tmod a0 68719345665)))) = 131072 then (if t392 = 131072 then (if t393 = t390 then (if t394 = t391 then (if 2621440 > (wrap64 (17 * (wrap64 (131072 + (wrap64 (Int.tmod a0 68719345665)))))) then (some true) else (some (decide (t390 ≤ t391)))) else (none)) else (none)) else (none)) else (if t390 ≤ (wrap64 (131072 + (wrap64 (Int.tmod a0 68719345665)))) then (if t392 = 131072 then (if t393 = t390 then (if t394 = t391 then (if 2621440 > (wrap64 (17 * (wrap64 (131072 + (wrap64 (Int.tmod a0 68719345665)))))) then (some true) else (some (decide (t390 ≤ t391)))) else (none)) else (none)) else (none)) else (none))) else (none)) = some r := by rw [if_pos rfl] at H; exact H
  clear H
  have H := H1
  clear H1
  by_cases c7 : t391 ≤ (wrap64 (131072 + (wrap64 (Int.tmod a0 68719345665))))
  ·rw [if_pos c7] at H
   have c7b0 : decide (t391 ≤ (wrap64 (131072 + (wrap64 (Int.tmod a0 68719345665))))) = true := decide_eq_true c7
   clear c7
   by_cases c8 : (wrap64 (131072 + (wrap64 (Int.tmod a0 68719345665)))) = 131072
   ·rw [if_pos c8] at H
    have c8b0 : ((wrap64 (131072 + (wrap64 (Int.tmod a0 68719345665)))) == 131072) = true := beq_iff_eq.mpr c8
    have c8b1 : ((wrap64 (131072 + (wrap64 (Int.tmod a0 68719345665)))) != 131072) = false := bne_eq_false_iff_eq.mpr c8
    clear c8
    by_cases c9 : t392 = 131072
    ·rw [if_pos c9] at H
     have c9b0 : (t392 == 131072) = true := beq_iff_eq.mpr c9
     have c9b1 : (t392 != 131072) = false := bne_eq_false_iff_eq.mpr c9
     clear c9
     by_cases c10 : t393 = t390
     ·rw [if_pos c10] at H
      have c10b0 : (t393 == t390) = true := beq_iff_eq.mpr c10
      have c10b1 : (t393 != t390) = false := bne_eq_false_iff_eq.mpr c10
      clear c10
      by_cases c11 : t394 = t391
      ·rw [if_pos c11] at H
       have c11b0 : (t394 == t391) = true := beq_iff_eq.mpr c11
       have c11b1 : (t394 != t391) = false := bne_eq_false_iff_eq.mpr c11
       clear c11
       by_cases c12 : 2621440 > (wrap64 (17 * (wrap64 (131072 + (wrap64 (Int.tmod a0 68719345665))))))
       ·rw [if_pos c12] at H
        have c12b0 : decide ((wrap64 (17 * (wrap64 (131072 + (wrap64 (Int.tmod a0 68719345665)))))) < 2621440) = true := decide_eq_true c12
        clear c12
        obtain rfl := Option.some.inj H
        go_enter Try.func7, Try.ntmps7
        go_wp2_with (first | ((with_reducible refine gate_callee (f := 13) rfl ?_); refine goesL_ (some 12) rfl rfl Try.func13 (by kernel_rfl) rfl #[] rfl (by (try simp only [List.map_toArray, List.map_cons, List.map_nil]); first | done | rfl | (simp only [List.length_drop, List.length_take]; rfl)) ?_; (with_reducible refine (sawtoothlaw15_awakeS.calls  true _ A3.out).mono ?_); rintro e w13 ⟨rfl, hb⟩; refine ⟨_, rfl, ?_⟩; replace HB := Aside0.mk (below_step (by repeat (first | (with_reducible first | exact HB.out | apply below_alloc | apply pw_below_drewN | apply below_drew1) | exact HB.out)) hb); (try clear hb); (try clear hb2); (try clear hk); (try clear hi)) | ((with_reducible refine gate_callee (f := 14) rfl ?_); refine goesL_ (some 20) rfl rfl Try.func14 (by kernel_rfl) rfl #[.int .i64 (wrap64 (131072 + (wrap64 (Int.tmod a0 68719345665)))), .int .i64 a1] rfl (by (try simp only [List.map_toArray, List.map_cons, List.map_nil]); first | done | rfl | (simp only [List.length_drop, List.length_take]; rfl)) ?_; (with_reducible refine (cut_LossS.calls (wrap64 (131072 + (wrap64 (Int.tmod a0 68719345665)))) a1 t390 t391 _ A4.out).mono ?_); rintro e w14 ⟨rfl, hb⟩; refine ⟨_, rfl, ?_⟩; replace HB := Aside0.mk (below_step (by repeat (first | (with_reducible first | exact HB.out | apply below_alloc | apply pw_below_drewN | apply below_drew1) | exact HB.out)) hb); (try clear hb); (try clear hb2); (try clear hk); (try clear hi)) | ((with_reducible refine gate_callee (f := 16) rfl ?_); refine goesL_ (some 26) rfl rfl Try.func16 (by kernel_rfl) rfl #[.int .i64 (wrap64 (131072 + (wrap64 (Int.tmod a0 68719345665)))), .int .i64 a1] rfl (by (try simp only [List.map_toArray, List.map_cons, List.map_nil]); first | done | rfl | (simp only [List.length_drop, List.length_take]; rfl)) ?_; (with_reducible refine (cut_TimeoutS.calls (wrap64 (131072 + (wrap64 (Int.tmod a0 68719345665)))) a1 t392 t393 t394 _ A5.out).mono ?_); rintro e w15 ⟨rfl, hb⟩; refine ⟨_, rfl, ?_⟩; replace HB := Aside0.mk (below_step (by repeat (first | (with_reducible first | exact HB.out | apply below_alloc | apply pw_below_drewN | apply below_drew1) | exact HB.out)) hb); (try clear hb); (try clear hb2); (try clear hk); (try clear hi)))
        go_ret
        exact ⟨by first | rfl | (simp [errW_none, errW_some] <;> rfl) | (simp [*, errW_none, errW_some] <;> rfl), by repeat (first | (with_reducible first | exact HB.out | apply below_alloc | apply pw_below_drewN | apply below_drew1) | exact HB.out)⟩
       ·rw [if_neg c12] at H
        have c12b0 : decide ((wrap64 (17 * (wrap64 (131072 + (wrap64 (Int.tmod a0 68719345665)))))) < 2621440) = false := decide_eq_false c12
        clear c12
        obtain rfl := Option.some.inj H
        go_enter Try.func7, Try.ntmps7
        go_wp2_with (first | ((with_reducible refine gate_callee (f := 13) rfl ?_); refine goesL_ (some 12) rfl rfl Try.func13 (by kernel_rfl) rfl #[] rfl (by (try simp only [List.map_toArray, List.map_cons, List.map_nil]); first | done | rfl | (simp only [List.length_drop, List.length_take]; rfl)) ?_; (with_reducible refine (sawtoothlaw15_awakeS.calls  true _ A3.out).mono ?_); rintro e w16 ⟨rfl, hb⟩; refine ⟨_, rfl, ?_⟩; replace HB := Aside0.mk (below_step (by repeat (first | (with_reducible first | exact HB.out | apply below_alloc | apply pw_below_drewN | apply below_drew1) | exact HB.out)) hb); (try clear hb); (try clear hb2); (try clear hk); (try clear hi)) | ((with_reducible refine gate_callee (f := 14) rfl ?_); refine goesL_ (some 20) rfl rfl Try.func14 (by kernel_rfl) rfl #[.int .i64 (wrap64 (131072 + (wrap64 (Int.tmod a0 68719345665)))), .int .i64 a1] rfl (by (try simp only [List.map_toArray, List.map_cons, List.map_nil]); first | done | rfl | (simp only [List.length_drop, List.length_take]; rfl)) ?_; (with_reducible refine (cut_LossS.calls (wrap64 (131072 + (wrap64 (Int.tmod a0 68719345665)))) a1 t390 t391 _ A4.out).mono ?_); rintro e w17 ⟨rfl, hb⟩; refine ⟨_, rfl, ?_⟩; replace HB := Aside0.mk (below_step (by repeat (first | (with_reducible first | exact HB.out | apply below_alloc | apply pw_below_drewN | apply below_drew1) | exact HB.out)) hb); (try clear hb); (try clear hb2); (try clear hk); (try clear hi)) | ((with_reducible refine gate_callee (f := 16) rfl ?_); refine goesL_ (some 26) rfl rfl Try.func16 (by kernel_rfl) rfl #[.int .i64 (wrap64 (131072 + (wrap64 (Int.tmod a0 68719345665)))), .int .i64 a1] rfl (by (try simp only [List.map_toArray, List.map_cons, List.map_nil]); first | done | rfl | (simp only [List.length_drop, List.length_take]; rfl)) ?_; (with_reducible refine (cut_TimeoutS.calls (wrap64 (131072 + (wrap64 (Int.tmod a0 68719345665)))) a1 t392 t393 t394 _ A5.out).mono ?_); rintro e w18 ⟨rfl, hb⟩; refine ⟨_, rfl, ?_⟩; replace HB := Aside0.mk (below_step (by repeat (first | (with_reducible first | exact HB.out | apply below_alloc | apply pw_below_drewN | apply below_drew1) | exact HB.out)) hb); (try clear hb); (try clear hb2); (try clear hk); (try clear hi)))
        go_ret
        exact ⟨by first | rfl | (simp [errW_none, errW_some] <;> rfl) | (simp [*, errW_none, errW_some] <;> rfl), by repeat (first | (with_reducible first | exact HB.out | apply below_alloc | apply pw_below_drewN | apply below_drew1) | exact HB.out)⟩
      ·rw [if_neg c11] at H
       exact absurd H (by simp)
     ·rw [if_neg c10] at H
      exact absurd H (by simp)
    ·rw [if_neg c9] at H
     exact absurd H (by simp)
   ·rw [if_neg c8] at H
    have c8b0 : ((wrap64 (131072 + (wrap64 (Int.tmod a0 68719345665)))) == 131072) = false := beq_eq_false_iff_ne.mpr c8
    have c8b1 : ((wrap64 (131072 + (wrap64 (Int.tmod a0 68719345665)))) != 131072) = true := bne_iff_ne.mpr c8
    by_cases c19 : t390 ≤ (wrap64 (131072 + (wrap64 (Int.tmod a0 68719345665))))
    ·rw [if_pos c19] at H
     have c19b0 : decide (t390 ≤ (wrap64 (131072 + (wrap64 (Int.tmod a0 68719345665))))) = true := decide_eq_true c19
     clear c19
     by_cases c20 : t392 = 131072
     ·rw [if_pos c20] at H
      have c20b0 : (t392 == 131072) = true := beq_iff_eq.mpr c20
      have c20b1 : (t392 != 131072) = false := bne_eq_false_iff_eq.mpr c20
      clear c20
      by_cases c21 : t393 = t390
      ·rw [if_pos c21] at H
       have c21b0 : (t393 == t390) = true := beq_iff_eq.mpr c21
       have c21b1 : (t393 != t390) = false := bne_eq_false_iff_eq.mpr c21
       clear c21
       by_cases c22 : t394 = t391
       ·rw [if_pos c22] at H
        have c22b0 : (t394 == t391) = true := beq_iff_eq.mpr c22
        have c22b1 : (t394 != t391) = false := bne_eq_false_iff_eq.mpr c22
        clear c22
        by_cases c23 : 2621440 > (wrap64 (17 * (wrap64 (131072 + (wrap64 (Int.tmod a0 68719345665))))))
        ·rw [if_pos c23] at H
         have c23b0 : decide ((wrap64 (17 * (wrap64 (131072 + (wrap64 (Int.tmod a0 68719345665)))))) < 2621440) = true := decide_eq_true c23
         clear c23
         obtain rfl := Option.some.inj H
         go_enter Try.func7, Try.ntmps7
         go_wp2_with (first | ((with_reducible refine gate_callee (f := 13) rfl ?_); refine goesL_ (some 12) rfl rfl Try.func13 (by kernel_rfl) rfl #[] rfl (by (try simp only [List.map_toArray, List.map_cons, List.map_nil]); first | done | rfl | (simp only [List.length_drop, List.length_take]; rfl)) ?_; (with_reducible refine (sawtoothlaw15_awakeS.calls  true _ A3.out).mono ?_); rintro e w24 ⟨rfl, hb⟩; refine ⟨_, rfl, ?_⟩; replace HB := Aside0.mk (below_step (by repeat (first | (with_reducible first | exact HB.out | apply below_alloc | apply pw_below_drewN | apply below_drew1) | exact HB.out)) hb); (try clear hb); (try clear hb2); (try clear hk); (try clear hi)) | ((with_reducible refine gate_callee (f := 14) rfl ?_); refine goesL_ (some 20) rfl rfl Try.func14 (by kernel_rfl) rfl #[.int .i64 (wrap64 (131072 + (wrap64 (Int.tmod a0 68719345665)))), .int .i64 a1] rfl (by (try simp only [List.map_toArray, List.map_cons, List.map_nil]); first | done | rfl | (simp only [List.length_drop, List.length_take]; rfl)) ?_; (with_reducible refine (cut_LossS.calls (wrap64 (131072 + (wrap64 (Int.tmod a0 68719345665)))) a1 t390 t391 _ A4.out).mono ?_); rintro e w25 ⟨rfl, hb⟩; refine ⟨_, rfl, ?_⟩; replace HB := Aside0.mk (below_step (by repeat (first | (with_reducible first | exact HB.out | apply below_alloc | apply pw_below_drewN | apply below_drew1) | exact HB.out)) hb); (try clear hb); (try clear hb2); (try clear hk); (try clear hi)) | ((with_reducible refine gate_callee (f := 16) rfl ?_); refine goesL_ (some 26) rfl rfl Try.func16 (by kernel_rfl) rfl #[.int .i64 (wrap64 (131072 + (wrap64 (Int.tmod a0 68719345665)))), .int .i64 a1] rfl (by (try simp only [List.map_toArray, List.map_cons, List.map_nil]); first | done | rfl | (simp only [List.length_drop, List.length_take]; rfl)) ?_; (with_reducible refine (cut_TimeoutS.calls (wrap64 (131072 + (wrap64 (Int.tmod a0 68719345665)))) a1 t392 t393 t394 _ A5.out).mono ?_); rintro e w26 ⟨rfl, hb⟩; refine ⟨_, rfl, ?_⟩; replace HB := Aside0.mk (below_step (by repeat (first | (with_reducible first | exact HB.out | apply below_alloc | apply pw_below_drewN | apply below_drew1) | exact HB.out)) hb); (try clear hb); (try clear hb2); (try clear hk); (try clear hi)))
         go_ret
         exact ⟨by first | rfl | (simp [errW_none, errW_some] <;> rfl) | (simp [*, errW_none, errW_some] <;> rfl), by repeat (first | (with_reducible first | exact HB.out | apply below_alloc | apply pw_below_drewN | apply below_drew1) | exact HB.out)⟩
        ·rw [if_neg c23] at H
         have c23b0 : decide ((wrap64 (17 * (wrap64 (131072 + (wrap64 (Int.tmod a0 68719345665)))))) < 2621440) = false := decide_eq_false c23
         clear c23
         obtain rfl := Option.some.inj H
         go_enter Try.func7, Try.ntmps7
         go_wp2_with (first | ((with_reducible refine gate_callee (f := 13) rfl ?_); refine goesL_ (some 12) rfl rfl Try.func13 (by kernel_rfl) rfl #[] rfl (by (try simp only [List.map_toArray, List.map_cons, List.map_nil]); first | done | rfl | (simp only [List.length_drop, List.length_take]; rfl)) ?_; (with_reducible refine (sawtoothlaw15_awakeS.calls  true _ A3.out).mono ?_); rintro e w27 ⟨rfl, hb⟩; refine ⟨_, rfl, ?_⟩; replace HB := Aside0.mk (below_step (by repeat (first | (with_reducible first | exact HB.out | apply below_alloc | apply pw_below_drewN | apply below_drew1) | exact HB.out)) hb); (try clear hb); (try clear hb2); (try clear hk); (try clear hi)) | ((with_reducible refine gate_callee (f := 14) rfl ?_); refine goesL_ (some 20) rfl rfl Try.func14 (by kernel_rfl) rfl #[.int .i64 (wrap64 (131072 + (wrap64 (Int.tmod a0 68719345665)))), .int .i64 a1] rfl (by (try simp only [List.map_toArray, List.map_cons, List.map_nil]); first | done | rfl | (simp only [List.length_drop, List.length_take]; rfl)) ?_; (with_reducible refine (cut_LossS.calls (wrap64 (131072 + (wrap64 (Int.tmod a0 68719345665)))) a1 t390 t391 _ A4.out).mono ?_); rintro e w28 ⟨rfl, hb⟩; refine ⟨_, rfl, ?_⟩; replace HB := Aside0.mk (below_step (by repeat (first | (with_reducible first | exact HB.out | apply below_alloc | apply pw_below_drewN | apply below_drew1) | exact HB.out)) hb); (try clear hb); (try clear hb2); (try clear hk); (try clear hi)) | ((with_reducible refine gate_callee (f := 16) rfl ?_); refine goesL_ (some 26) rfl rfl Try.func16 (by kernel_rfl) rfl #[.int .i64 (wrap64 (131072 + (wrap64 (Int.tmod a0 68719345665)))), .int .i64 a1] rfl (by (try simp only [List.map_toArray, List.map_cons, List.map_nil]); first | done | rfl | (simp only [List.length_drop, List.length_take]; rfl)) ?_; (with_reducible refine (cut_TimeoutS.calls (wrap64 (131072 + (wrap64 (Int.tmod a0 68719345665)))) a1 t392 t393 t394 _ A5.out).mono ?_); rintro e w29 ⟨rfl, hb⟩; refine ⟨_, rfl, ?_⟩; replace HB := Aside0.mk (below_step (by repeat (first | (with_reducible first | exact HB.out | apply below_alloc | apply pw_below_drewN | apply below_drew1) | exact HB.out)) hb); (try clear hb); (try clear hb2); (try clear hk); (try clear hi)))
         go_ret
         exact ⟨by first | rfl | (simp [errW_none, errW_some] <;> rfl) | (simp [*, errW_none, errW_some] <;> rfl), by repeat (first | (with_reducible first | exact HB.out | apply below_alloc | apply pw_below_drewN | apply below_drew1) | exact HB.out)⟩
       ·rw [if_neg c22] at H
        exact absurd H (by simp)
      ·rw [if_neg c21] at H
       exact absurd H (by simp)
     ·rw [if_neg c20] at H
      exact absurd H (by simp)
    ·rw [if_neg c19] at H
     exact absurd H (by simp)
  ·rw [if_neg c7] at H
   exact absurd H (by simp)
 ·replace c6 := Bool.eq_false_iff.mpr c6
  subst c6
  have H1 : (none) = some r := by rw [if_neg (show ¬ (false = true) by decide)] at H; exact H
  clear H
  have H := H1
  clear H1
  exact absurd H (by simp)

/-- THE ONE PURE STATEMENT of sawtoothlaw15_CutLoss: yours. -/
def sawtoothlaw15_CutLoss.Pure : Prop := ∀ (a0 : Int) (a1 : Int), (Lit.int .u64 a0).wf = true → (Lit.int .i64 a1).wf = true → sawtoothlaw15_CutLoss.f a0 a1 = some true
theorem sawtoothlaw15_CutLoss.walk (P : sawtoothlaw15_CutLoss.Pure) (a0 : Int) (a1 : Int) (w : World) (w0 : (Lit.int .u64 a0).wf = true) (w1 : (Lit.int .i64 a1).wf = true) :
  Calls Try.prog 7 #[.int .u64 a0, .int .i64 a1] w fun e w' => e = .returned (.bool true) ∧ Below w.heap.size w w' := by
 have h := P a0 a1 w0 w1
 refine (sawtoothlaw15_CutLoss.calls a0 a1 true w h).mono ?_
 rintro e w' ⟨rfl, hd⟩
 exact ⟨rfl, hd⟩

/-! ### reno_Part: function 22 -/
noncomputable def reno_Part.f (a0 : Int) (a1 : Int) : Option (Int × Int) := if a0 < a1 then (some (9, 17)) else (some (1, 1))
set_option maxHeartbeats 8000000 in
set_option maxRecDepth 100000 in
theorem reno_Part.calls (a0 : Int) (a1 : Int) (r1 : Int) (r2 : Int) (w : World) (h : reno_Part.f a0 a1 = some (r1, r2)) :
  Calls Try.prog 22 #[.int .i64 a0, .int .i64 a1] w fun e w' => e = .returned (.tuple #[.int .i64 r1, .int .i64 r2]) ∧ Drawn0 w w' := by
 have H : (if a0 < a1 then (some (9, 17)) else (some (1, 1))) = some (r1, r2) := h
 clear h
 by_cases c3 : a0 < a1
 ·rw [if_pos c3] at H
  have c3b0 : decide (a0 < a1) = true := decide_eq_true c3
  clear c3
  simp only [Option.some.injEq, Prod.mk.injEq] at H
  obtain ⟨rfl, rfl⟩ := H
  go_enter Try.func22, Try.ntmps22
  go_wp2
  go_ret2
  exact ⟨by first | rfl | (simp; done) | (simp [*]; done), by repeat (first | exact Drawn0.refl _ | apply Drawn0.step)⟩
 ·rw [if_neg c3] at H
  have c3b0 : decide (a0 < a1) = false := decide_eq_false c3
  clear c3
  simp only [Option.some.injEq, Prod.mk.injEq] at H
  obtain ⟨rfl, rfl⟩ := H
  go_enter Try.func22, Try.ntmps22
  go_wp2
  go_ret2
  exact ⟨by first | rfl | (simp; done) | (simp [*]; done), by repeat (first | exact Drawn0.refl _ | apply Drawn0.step)⟩

/-! ### reno_between_int: function 35 -/
noncomputable def reno_between_int.f (a0 : Int) (a1 : Int) (a2 : Int) : Option (Int) := some (mn (mx a0 a1) a2)
set_option maxHeartbeats 8000000 in
set_option maxRecDepth 100000 in
theorem reno_between_int.calls (a0 : Int) (a1 : Int) (a2 : Int) (r : Int) (w : World) (h : reno_between_int.f a0 a1 a2 = some r) :
  Calls Try.prog 35 #[.int .i64 a0, .int .i64 a1, .int .i64 a2] w fun e w' => e = .returned (.int .i64 r) ∧ Below w.heap.size w w' := by
 have HB := Aside0.mk (Below.refl w.heap.size w)
 have H : (some (mn (mx a0 a1) a2)) = some r := h
 clear h
 obtain ⟨ji4, hji4⟩ : ∃ j_ : Int, (mx a0 a1) = j_ := ⟨_, rfl⟩
 replace H : (some (mn (ji4) a2)) = some r := by first | (rw [hji4] at H; exact H) | (simp only [hji4] at H ⊢; exact H)
 have hji4_ : (if a0 < a1 then a1 else a0) = ji4 := hji4
 obtain ⟨ji5, hji5⟩ : ∃ j_ : Int, (mn (ji4) a2) = j_ := ⟨_, rfl⟩
 replace H : (some ji5) = some r := by first | (rw [hji5] at H; exact H) | (simp only [hji5] at H ⊢; exact H)
 have hji5_ : (if a2 < (ji4) then a2 else (ji4)) = ji5 := hji5
 obtain rfl := Option.some.inj H
 go_enter Try.func35, Try.ntmps35
 go_wp2
 go_ret
 exact ⟨by first | rfl | (simp [errW_none, errW_some] <;> rfl) | (simp only [← hji4, ← hji5]; first | rfl | (simp [errW_none, errW_some] <;> rfl)) | (simp [*, errW_none, errW_some] <;> rfl), by repeat (first | (with_reducible first | exact HB.out | apply below_alloc | apply pw_below_drewN | apply below_drew1) | exact HB.out)⟩

-- NOT PRINTED: function 43 (safe_held)

/-! ### safe_Plus: function 44 -/
noncomputable def safe_Plus.f (a0 : Int) (a1 : Int) : Option (Int × Int) := if ((decide (a0 ≥ 0)) == (decide (a1 ≥ 0))) = true then (if ((decide ((wrap64 (a0 + a1)) ≥ 0)) != (decide (a0 ≥ 0))) = true then (some (0, 10)) else (some (wrap64 (a0 + a1), 0))) else (some (wrap64 (a0 + a1), 0))
set_option maxHeartbeats 8000000 in
set_option maxRecDepth 100000 in
theorem safe_Plus.calls (a0 : Int) (a1 : Int) (r1 : Int) (r2 : Int) (w : World) (h : safe_Plus.f a0 a1 = some (r1, r2)) :
  Calls Try.prog 44 #[.int .i64 a0, .int .i64 a1] w fun e w' => e = .returned (.tuple #[.int .i64 r1, .int .i64 r2]) ∧ Drawn0 w w' := by
 have H : (if ((decide (a0 ≥ 0)) == (decide (a1 ≥ 0))) = true then (if ((decide ((wrap64 (a0 + a1)) ≥ 0)) != (decide (a0 ≥ 0))) = true then (some (0, 10)) else (some (wrap64 (a0 + a1), 0))) else (some (wrap64 (a0 + a1), 0))) = some (r1, r2) := h
 clear h
 by_cases c3 : ((decide (a0 ≥ 0)) == (decide (a1 ≥ 0))) = true
 ·rw [if_pos c3] at H
  have c3b0 : ((decide (a0 ≥ 0)) == (decide (a1 ≥ 0))) = true := c3
  (try (have c3b1 : decide ((decide (a0 ≥ 0)) = (decide (a1 ≥ 0))) = true := by simpa using c3))
  (try (have c3b2 : ((decide (a0 ≥ 0)) == (decide (a1 ≥ 0))) = true := by simpa using c3))
  clear c3
  by_cases c4 : ((decide ((wrap64 (a0 + a1)) ≥ 0)) != (decide (a0 ≥ 0))) = true
  ·rw [if_pos c4] at H
   have c4b0 : ((decide ((wrap64 (a0 + a1)) ≥ 0)) != (decide (a0 ≥ 0))) = true := c4
   (try (have c4b1 : decide ((decide ((wrap64 (a0 + a1)) ≥ 0)) = (decide (a0 ≥ 0))) = false := by simpa using c4))
   (try (have c4b2 : ((decide ((wrap64 (a0 + a1)) ≥ 0)) == (decide (a0 ≥ 0))) = false := by simpa using c4))
   (try (have c4b3 : ¬ ((decide ((wrap64 (a0 + a1)) ≥ 0)) = (decide (a0 ≥ 0))) := by simpa using c4))
   clear c4
   simp only [Option.some.injEq, Prod.mk.injEq] at H
   obtain ⟨rfl, rfl⟩ := H
   go_enter Try.func44, Try.ntmps44
   go_wp2
   go_ret2
   exact ⟨by first | rfl | (simp; done) | (simp [*]; done), by repeat (first | exact Drawn0.refl _ | apply Drawn0.step)⟩
  ·rw [if_neg c4] at H
   have c4b0 : ((decide ((wrap64 (a0 + a1)) ≥ 0)) != (decide (a0 ≥ 0))) = false := by simpa using c4
   (try (have c4b1 : decide ((decide ((wrap64 (a0 + a1)) ≥ 0)) = (decide (a0 ≥ 0))) = true := by simpa using c4))
   (try (have c4b2 : ((decide ((wrap64 (a0 + a1)) ≥ 0)) == (decide (a0 ≥ 0))) = true := by simpa using c4))
   clear c4
   simp only [Option.some.injEq, Prod.mk.injEq] at H
   obtain ⟨rfl, rfl⟩ := H
   go_enter Try.func44, Try.ntmps44
   go_wp2
   go_ret2
   exact ⟨by first | rfl | (simp; done) | (simp [*]; done), by repeat (first | exact Drawn0.refl _ | apply Drawn0.step)⟩
 ·rw [if_neg c3] at H
  have c3b0 : ((decide (a0 ≥ 0)) == (decide (a1 ≥ 0))) = false := by simpa using c3
  (try (have c3b1 : decide ((decide (a0 ≥ 0)) = (decide (a1 ≥ 0))) = false := by simpa using c3))
  (try (have c3b2 : ((decide (a0 ≥ 0)) == (decide (a1 ≥ 0))) = false := by simpa using c3))
  (try (have c3b3 : ¬ ((decide (a0 ≥ 0)) = (decide (a1 ≥ 0))) := by simpa using c3))
  clear c3
  simp only [Option.some.injEq, Prod.mk.injEq] at H
  obtain ⟨rfl, rfl⟩ := H
  go_enter Try.func44, Try.ntmps44
  go_wp2
  go_ret2
  exact ⟨by first | rfl | (simp; done) | (simp [*]; done), by repeat (first | exact Drawn0.refl _ | apply Drawn0.step)⟩

end Go.Proofs.Ytepmnfjcmppghaa.Px
