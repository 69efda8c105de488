/- Printed by a program of this session (wip/tool/px.py), over the kit's print: for each Go function a Lean function, and the proof that the machine's call answers as that function says. Conditions: none beside what the theorems state. -/
import Derived.Test.YtepmnfjcmppghaaPx0
import Derived.Test.YtepmnfjcmppghaaPx22
import Derived.Test.YtepmnfjcmppghaaPx23
import Derived.Test.YtepmnfjcmppghaaPx24
import Derived.Test.YtepmnfjcmppghaaPx25
import Derived.Test.YtepmnfjcmppghaaSpec
namespace Go.Proofs.Ytepmnfjcmppghaa.Px
open Go.RowKit Go.Proofs.YtepmnfjcmppghaaW.PrintWords Go.Proofs.YtepmnfjcmppghaaW.PrintLast Go.Proofs.YtepmnfjcmppghaaW.PrintMore
attribute [local go_sem] max2_int min2_int max_two min_two max_three min_three max_four min_four   -- for this text's walks alone
set_option linter.unusedVariables false
set_option linter.unusedSimpArgs false

/-! ### sawtoothlaw15_CutBounds: function 5 -/
noncomputable def sawtoothlaw15_CutBounds.f (a0 : Int) (a1 : Int) : Option (Bool) := (sawtoothlaw15_awakeS.f).bind fun t276 => ((cut_LeastS.f a0).bind fun t277 => (if t276 = true then (if t277 ≥ 131072 then (if t277 ≤ 68719476736 then (if a0 < 131072 then (if a0 ≤ 131072 then ((cut_LeastS.f (mn a0 a1)).bind fun t278 => ((cut_LeastS.f (mx a0 a1)).bind fun t279 => (some (decide (t278 ≤ t279))))) else (if t277 < a0 then ((cut_LeastS.f (mn a0 a1)).bind fun t280 => ((cut_LeastS.f (mx a0 a1)).bind fun t281 => (some (decide (t280 ≤ t281))))) else (none))) else (if t277 ≤ a0 then (if a0 ≤ 131072 then ((cut_LeastS.f (mn a0 a1)).bind fun t282 => ((cut_LeastS.f (mx a0 a1)).bind fun t283 => (some (decide (t282 ≤ t283))))) else (if t277 < a0 then ((cut_LeastS.f (mn a0 a1)).bind fun t284 => ((cut_LeastS.f (mx a0 a1)).bind fun t285 => (some (decide (t284 ≤ t285))))) else (none))) else (none))) else (none)) else (none)) else (none)))
set_option maxHeartbeats 8000000 in
set_option maxRecDepth 100000 in
theorem sawtoothlaw15_CutBounds.calls (a0 : Int) (a1 : Int) (r : Bool) (w : World) (h : sawtoothlaw15_CutBounds.f a0 a1 = some r) :
  Calls Try.prog 5 #[.int .i64 a0, .int .i64 a1] w fun e w' => e = .returned (.bool r) ∧ Below w.heap.size w w' := by
 have HB := Aside0.mk (Below.refl w.heap.size w)
 have H : ((sawtoothlaw15_awakeS.f).bind fun t276 => ((cut_LeastS.f a0).bind fun t277 => (if t276 = true then (if t277 ≥ 131072 then (if t277 ≤ 68719476736 then (if a0 < 131072 then (if a0 ≤ 131072 then ((cut_LeastS.f (mn a0 a1)).bind fun t278 => ((cut_LeastS.f (mx a0 a1)).bind fun t279 => (some (decide (t278 ≤ t279))))) else (if t277 < a0 then ((cut_LeastS.f (mn a0 a1)).bind fun t280 => ((cut_LeastS.f (mx a0 a1)).bind fun t281 => (some (decide (t280 ≤ t281))))) else (none))) else (if t277 ≤ a0 then (if a0 ≤ 131072 then ((cut_LeastS.f (mn a0 a1)).bind fun t282 => ((cut_LeastS.f (mx a0 a1)).bind fun t283 => (some (decide (t282 ≤ t283))))) else (if t277 < a0 then ((cut_LeastS.f (mn a0 a1)).bind fun t284 => ((cut_LeastS.f (mx a0 a1)).bind fun t285 => (some (decide (t284 ≤ t285))))) else (none))) else (none))) else (none)) else (none)) else (none)))) = some r := h
 clear h
 replace H := Option.bind_eq_some_iff.mp H
 obtain ⟨t276, A30, H⟩ := H
 try dsimp only at H
 have A3 := Aside0.mk A30
 clear A30
 replace H := Option.bind_eq_some_iff.mp H
 obtain ⟨t277, A40, H⟩ := H
 try dsimp only at H
 have A4 := Aside0.mk A40
 clear A40
 by_cases c5 : t276 = true
 ·subst c5
  have H1 : (if t277 ≥ 131072 then (if t277 ≤ 68719476736 then (if a0 < 131072 then (if a0 ≤ 131072 then ((cut_LeastS.f (mn a0 a1)).bind fun t278 => ((cut_LeastS.f (mx a0 a1)).bind fun t279 => (some (decide (t278 ≤ t279))))) else (if t277 < a0 then ((cut_LeastS.f (mn a0 a1)).bind fun t280 => ((cut_LeastS.f (mx a0 a1)).bind fun t281 => (some (decide (t280 ≤ t281))))) else (none))) else (if t277 ≤ a0 then (if a0 ≤ 131072 then ((cut_LeastS.f (mn a0 a1)).bind fun t282 => ((cut_LeastS.f (mx a0 a1)).bind fun t283 => (some (decide (t282 ≤ t283))))) else (if t277 < a0 then ((cut_LeastS.f (mn a0 a1)).bind fun t284 => ((cut_LeastS.f (mx a0 a1)).bind fun t285 => (some (decide (t284 ≤ t285))))) else (none))) else (none))) else (none)) else (none)) = some r := by rw [if_pos rfl] at H; exact H
  clear H
  have H := H1
  clear H1
  by_cases c6 : t277 ≥ 131072
  ·rw [if_pos c6] at H
   have c6b0 : decide (131072 ≤ t277) = true := decide_eq_true c6
   clear c6
   by_cases c7 : t277 ≤ 68719476736
   ·rw [if_pos c7] at H
    have c7b0 : decide (t277 ≤ 68719476736) = true := decide_eq_true c7
    clear c7
    by_cases c8 : a0 < 131072
    ·rw [if_pos c8] at H
     have c8b0 : decide (a0 < 131072) = true := decide_eq_true c8
     clear c8
     by_cases c9 : a0 ≤ 131072
     ·rw [if_pos c9] at H
      have c9b0 : decide (a0 ≤ 131072) = true := decide_eq_true c9
      clear c9
      obtain ⟨ji10, hji10⟩ : ∃ j_ : Int, (mn a0 a1) = j_ := ⟨_, rfl⟩
      replace H : ((cut_LeastS.f (ji10)).bind fun t278 => ((cut_LeastS.f (mx a0 a1)).bind fun t279 => (some (decide (t278 ≤ t279))))) = some r := by first | (rw [hji10] at H; exact H) | (simp only [hji10] at H ⊢; exact H)
      (try rw [hji10] at A3)
      (try rw [hji10] at A4)
      have hji10_ : (if a1 < a0 then a1 else a0) = ji10 := hji10
      replace H := Option.bind_eq_some_iff.mp H
      obtain ⟨t278, A110, H⟩ := H
      replace H : ((cut_LeastS.f (mx a0 a1)).bind fun t279 => (some (decide (t278 ≤ t279)))) = some r := H
      have A11 := Aside0.mk A110
      clear A110
      obtain ⟨ji12, hji12⟩ : ∃ j_ : Int, (mx a0 a1) = j_ := ⟨_, rfl⟩
      replace H : ((cut_LeastS.f (ji12)).bind fun t279 => (some (decide (t278 ≤ t279)))) = some r := by first | (rw [hji12] at H; exact H) | (simp only [hji12] at H ⊢; exact H)
      (try rw [hji12] at A3)
      (try rw [hji12] at A4)
      (try rw [hji12] at A11)
      have hji12_ : (if a0 < a1 then a1 else a0) = ji12 := hji12
      replace H := Option.bind_eq_some_iff.mp H
      obtain ⟨t279, A130, H⟩ := H
      replace H : (some (decide (t278 ≤ t279))) = some r := H
      have A13 := Aside0.mk A130
      clear A130
      obtain rfl := Option.some.inj H
      go_enter Try.func5, Try.ntmps5
      go_wp2_with (first | ((with_reducible refine gate_callee (f := 13) rfl ?_); refine goesL_ (some 7) rfl rfl Try.func13 (by kernel_rfl) rfl #[] rfl (by (try simp only [List.map_toArray, List.map_cons, List.map_nil]); first | done | rfl | (simp only [List.length_drop, List.length_take]; rfl)) ?_; (with_reducible refine (sawtoothlaw15_awakeS.calls  true _ A3.out).mono ?_); rintro e w14 ⟨rfl, hb⟩; refine ⟨_, rfl, ?_⟩; replace HB := Aside0.mk (below_step (by repeat (first | (with_reducible first | exact HB.out | apply below_alloc | apply pw_below_drewN | apply below_drew1) | exact HB.out)) hb); (try clear hb); (try clear hb2); (try clear hk); (try clear hi)) | ((with_reducible refine gate_callee (f := 17) rfl ?_); refine goesL_ (some 9) rfl rfl Try.func17 (by kernel_rfl) rfl #[.int .i64 a0] rfl (by (try simp only [List.map_toArray, List.map_cons, List.map_nil]); first | done | rfl | (simp only [List.length_drop, List.length_take]; rfl)) ?_; (with_reducible refine (cut_LeastS.calls a0 t277 _ A4.out).mono ?_); rintro e w15 ⟨rfl, hb⟩; refine ⟨_, rfl, ?_⟩; replace HB := Aside0.mk (below_step (by repeat (first | (with_reducible first | exact HB.out | apply below_alloc | apply pw_below_drewN | apply below_drew1) | exact HB.out)) hb); (try clear hb); (try clear hb2); (try clear hk); (try clear hi)) | (go_at_call 17; (with_reducible refine (cut_LeastS.calls ji10 t278 _ A11.out).mono ?_); rintro e w16 ⟨rfl, hb⟩; replace HB := Aside0.mk (below_step (by repeat (first | (with_reducible first | exact HB.out | apply below_alloc | apply pw_below_drewN | apply below_drew1) | exact HB.out)) hb); (try clear hb); (try clear hb2); (try clear hk); (try clear hi)) | (go_at_call 17; (with_reducible refine (cut_LeastS.calls ji12 t279 _ A13.out).mono ?_); rintro e w17 ⟨rfl, hb⟩; replace HB := Aside0.mk (below_step (by repeat (first | (with_reducible first | exact HB.out | apply below_alloc | apply pw_below_drewN | apply below_drew1) | exact HB.out)) hb); (try clear hb); (try clear hb2); (try clear hk); (try clear hi)))
      go_ret
      exact ⟨by first | rfl | (simp [errW_none, errW_some] <;> rfl) | (simp only [← hji10, ← hji12]; first | rfl | (simp [errW_none, errW_some] <;> rfl)) | (simp [*, errW_none, errW_some] <;> rfl), by repeat (first | (with_reducible first | exact HB.out | apply below_alloc | apply pw_below_drewN | apply below_drew1) | exact HB.out)⟩
     ·rw [if_neg c9] at H
      have c9b0 : decide (a0 ≤ 131072) = false := decide_eq_false c9
      clear c9
      by_cases c18 : t277 < a0
      ·rw [if_pos c18] at H
       have c18b0 : decide (t277 < a0) = true := decide_eq_true c18
       clear c18
       obtain ⟨ji19, hji19⟩ : ∃ j_ : Int, (mn a0 a1) = j_ := ⟨_, rfl⟩
       replace H : ((cut_LeastS.f (ji19)).bind fun t280 => ((cut_LeastS.f (mx a0 a1)).bind fun t281 => (some (decide (t280 ≤ t281))))) = some r := by first | (rw [hji19] at H; exact H) | (simp only [hji19] at H ⊢; exact H)
       (try rw [hji19] at A3)
       (try rw [hji19] at A4)
       have hji19_ : (if a1 < a0 then a1 else a0) = ji19 := hji19
       replace H := Option.bind_eq_some_iff.mp H
       obtain ⟨t280, A200, H⟩ := H
       replace H : ((cut_LeastS.f (mx a0 a1)).bind fun t281 => (some (decide (t280 ≤ t281)))) = some r := H
       have A20 := Aside0.mk A200
       clear A200
       obtain ⟨ji21, hji21⟩ : ∃ j_ : Int, (mx a0 a1) = j_ := ⟨_, rfl⟩
       replace H : ((cut_LeastS.f (ji21)).bind fun t281 => (some (decide (t280 ≤ t281)))) = some r := by first | (rw [hji21] at H; exact H) | (simp only [hji21] at H ⊢; exact H)
       (try rw [hji21] at A3)
       (try rw [hji21] at A4)
       (try rw [hji21] at A20)
       have hji21_ : (if a0 < a1 then a1 else a0) = ji21 := hji21
       replace H := Option.bind_eq_some_iff.mp H
       obtain ⟨t281, A220, H⟩ := H
       replace H : (some (decide (t280 ≤ t281))) = some r := H
       have A22 := Aside0.mk A220
       clear A220
       obtain rfl := Option.some.inj H
       go_enter Try.func5, Try.ntmps5
       go_wp2_with (first | ((with_reducible refine gate_callee (f := 13) rfl ?_); refine goesL_ (some 7) rfl rfl Try.func13 (by kernel_rfl) rfl #[] rfl (by (try simp only [List.map_toArray, List.map_cons, List.map_nil]); first | done | rfl | (simp only [List.length_drop, List.length_take]; rfl)) ?_; (with_reducible refine (sawtoothlaw15_awakeS.calls  true _ A3.out).mono ?_); rintro e w23 ⟨rfl, hb⟩; refine ⟨_, rfl, ?_⟩; replace HB := Aside0.mk (below_step (by repeat (first | (with_reducible first | exact HB.out | apply below_alloc | apply pw_below_drewN | apply below_drew1) | exact HB.out)) hb); (try clear hb); (try clear hb2); (try clear hk); (try clear hi)) | ((with_reducible refine gate_callee (f := 17) rfl ?_); refine goesL_ (some 9) rfl rfl Try.func17 (by kernel_rfl) rfl #[.int .i64 a0] rfl (by (try simp only [List.map_toArray, List.map_cons, List.map_nil]); first | done | rfl | (simp only [List.length_drop, List.length_take]; rfl)) ?_; (with_reducible refine (cut_LeastS.calls a0 t277 _ A4.out).mono ?_); rintro e w24 ⟨rfl, hb⟩; refine ⟨_, rfl, ?_⟩; replace HB := Aside0.mk (below_step (by repeat (first | (with_reducible first | exact HB.out | apply below_alloc | apply pw_below_drewN | apply below_drew1) | exact HB.out)) hb); (try clear hb); (try clear hb2); (try clear hk); (try clear hi)) | (go_at_call 17; (with_reducible refine (cut_LeastS.calls ji19 t280 _ A20.out).mono ?_); rintro e w25 ⟨rfl, hb⟩; replace HB := Aside0.mk (below_step (by repeat (first | (with_reducible first | exact HB.out | apply below_alloc | apply pw_below_drewN | apply below_drew1) | exact HB.out)) hb); (try clear hb); (try clear hb2); (try clear hk); (try clear hi)) | (go_at_call 17; (with_reducible refine (cut_LeastS.calls ji21 t281 _ A22.out).mono ?_); rintro e w26 ⟨rfl, hb⟩; replace HB := Aside0.mk (below_step (by repeat (first | (with_reducible first | exact HB.out | apply below_alloc | apply pw_below_drewN | apply below_drew1) | exact HB.out)) hb); (try clear hb); (try clear hb2); (try clear hk); (try clear hi)))
       go_ret
       exact ⟨by first | rfl | (simp [errW_none, errW_some] <;> rfl) | (simp only [← hji19, ← hji21]; first | rfl | (simp [errW_none, errW_some] <;> rfl)) | (simp [*, errW_none, errW_some] <;> rfl), by repeat (first | (with_reducible first | exact HB.out | apply below_alloc | apply pw_below_drewN | apply below_drew1) | exact HB.out)⟩
      ·rw [if_neg c18] at H
       exact absurd H (by simp)
    ·rw [if_neg c8] at H
     have c8b0 : decide (a0 < 131072) = false := decide_eq_false c8
     clear c8
     by_cases c27 : t277 ≤ a0
     ·rw [if_pos c27] at H
      have c27b0 : decide (t277 ≤ a0) = true := decide_eq_true c27
      clear c27
      by_cases c28 : a0 ≤ 131072
      ·rw [if_pos c28] at H
       have c28b0 : decide (a0 ≤ 131072) = true := decide_eq_true c28
       clear c28
       obtain ⟨ji29, hji29⟩ : ∃ j_ : Int, (mn a0 a1) = j_ := ⟨_, rfl⟩
       replace H : ((cut_LeastS.f (ji29)).bind fun t282 => ((cut_LeastS.f (mx a0 a1)).bind fun t283 => (some (decide (t282 ≤ t283))))) = some r := by first | (rw [hji29] at H; exact H) | (simp only [hji29] at H ⊢; exact H)
       (try rw [hji29] at A3)
       (try rw [hji29] at A4)
       have hji29_ : (if a1 < a0 then a1 else a0) = ji29 := hji29
       replace H := Option.bind_eq_some_iff.mp H
       obtain ⟨t282, A300, H⟩ := H
       replace H : ((cut_LeastS.f (mx a0 a1)).bind fun t283 => (some (decide (t282 ≤ t283)))) = some r := H
       have A30 := Aside0.mk A300
       clear A300
       obtain ⟨ji31, hji31⟩ : ∃ j_ : Int, (mx a0 a1) = j_ := ⟨_, rfl⟩
       replace H : ((cut_LeastS.f (ji31)).bind fun t283 => (some (decide (t282 ≤ t283)))) = some r := by first | (rw [hji31] at H; exact H) | (simp only [hji31] at H ⊢; exact H)
       (try rw [hji31] at A3)
       (try rw [hji31] at A4)
       (try rw [hji31] at A30)
       have hji31_ : (if a0 < a1 then a1 else a0) = ji31 := hji31
       replace H := Option.bind_eq_some_iff.mp H
       obtain ⟨t283, A320, H⟩ := H
       replace H : (some (decide (t282 ≤ t283))) = some r := H
       have A32 := Aside0.mk A320
       clear A320
       obtain rfl := Option.some.inj H
       go_enter Try.func5, Try.ntmps5
       go_wp2_with (first | ((with_reducible refine gate_callee (f := 13) rfl ?_); refine goesL_ (some 7) rfl rfl Try.func13 (by kernel_rfl) rfl #[] rfl (by (try simp only [List.map_toArray, List.map_cons, List.map_nil]); first | done | rfl | (simp only [List.length_drop, List.length_take]; rfl)) ?_; (with_reducible refine (sawtoothlaw15_awakeS.calls  true _ A3.out).mono ?_); rintro e w33 ⟨rfl, hb⟩; refine ⟨_, rfl, ?_⟩; replace HB := Aside0.mk (below_step (by repeat (first | (with_reducible first | exact HB.out | apply below_alloc | apply pw_below_drewN | apply below_drew1) | exact HB.out)) hb); (try clear hb); (try clear hb2); (try clear hk); (try clear hi)) | ((with_reducible refine gate_callee (f := 17) rfl ?_); refine goesL_ (some 9) rfl rfl Try.func17 (by kernel_rfl) rfl #[.int .i64 a0] rfl (by (try simp only [List.map_toArray, List.map_cons, List.map_nil]); first | done | rfl | (simp only [List.length_drop, List.length_take]; rfl)) ?_; (with_reducible refine (cut_LeastS.calls a0 t277 _ A4.out).mono ?_); rintro e w34 ⟨rfl, hb⟩; refine ⟨_, rfl, ?_⟩; replace HB := Aside0.mk (below_step (by repeat (first | (with_reducible first | exact HB.out | apply below_alloc | apply pw_below_drewN | apply below_drew1) | exact HB.out)) hb); (try clear hb); (try clear hb2); (try clear hk); (try clear hi)) | (go_at_call 17; (with_reducible refine (cut_LeastS.calls ji29 t282 _ A30.out).mono ?_); rintro e w35 ⟨rfl, hb⟩; replace HB := Aside0.mk (below_step (by repeat (first | (with_reducible first | exact HB.out | apply below_alloc | apply pw_below_drewN | apply below_drew1) | exact HB.out)) hb); (try clear hb); (try clear hb2); (try clear hk); (try clear hi)) | (go_at_call 17; (with_reducible refine (cut_LeastS.calls ji31 t283 _ A32.out).mono ?_); rintro e w36 ⟨rfl, hb⟩; replace HB := Aside0.mk (below_step (by repeat (first | (with_reducible first | exact HB.out | apply below_alloc | apply pw_below_drewN | apply below_drew1) | exact HB.out)) hb); (try clear hb); (try clear hb2); (try clear hk); (try clear hi)))
       go_ret
       exact ⟨by first | rfl | (simp [errW_none, errW_some] <;> rfl) | (simp only [← hji29, ← hji31]; first | rfl | (simp [errW_none, errW_some] <;> rfl)) | (simp [*, errW_none, errW_some] <;> rfl), by repeat (first | (with_reducible first | exact HB.out | apply below_alloc | apply pw_below_drewN | apply below_drew1) | exact HB.out)⟩
      ·rw [if_neg c28] at H
       have c28b0 : decide (a0 ≤ 131072) = false := decide_eq_false c28
       clear c28
       by_cases c37 : t277 < a0
       ·rw [if_pos c37] at H
        have c37b0 : decide (t277 < a0) = true := decide_eq_true c37
        clear c37
        obtain ⟨ji38, hji38⟩ : ∃ j_ : Int, (mn a0 a1) = j_ := ⟨_, rfl⟩
        replace H : ((cut_LeastS.f (ji38)).bind fun t284 => ((cut_LeastS.f (mx a0 a1)).bind fun t285 => (some (decide (t284 ≤ t285))))) = some r := by first | (rw [hji38] at H; exact H) | (simp only [hji38] at H ⊢; exact H)
        (try rw [hji38] at A3)
        (try rw [hji38] at A4)
        have hji38_ : (if a1 < a0 then a1 else a0) = ji38 := hji38
        replace H := Option.bind_eq_some_iff.mp H
        obtain ⟨t284, A390, H⟩ := H
        replace H : ((cut_LeastS.f (mx a0 a1)).bind fun t285 => (some (decide (t284 ≤ t285)))) = some r := H
        have A39 := Aside0.mk A390
        clear A390
        obtain ⟨ji40, hji40⟩ : ∃ j_ : Int, (mx a0 a1) = j_ := ⟨_, rfl⟩
        replace H : ((cut_LeastS.f (ji40)).bind fun t285 => (some (decide (t284 ≤ t285)))) = some r := by first | (rw [hji40] at H; exact H) | (simp only [hji40] at H ⊢; exact H)
        (try rw [hji40] at A3)
        (try rw [hji40] at A4)
        (try rw [hji40] at A39)
        have hji40_ : (if a0 < a1 then a1 else a0) = ji40 := hji40
        replace H := Option.bind_eq_some_iff.mp H
        obtain ⟨t285, A410, H⟩ := H
        replace H : (some (decide (t284 ≤ t285))) = some r := H
        have A41 := Aside0.mk A410
        clear A410
        obtain rfl := Option.some.inj H
        go_enter Try.func5, Try.ntmps5
        go_wp2_with (first | ((with_reducible refine gate_callee (f := 13) rfl ?_); refine goesL_ (some 7) rfl rfl Try.func13 (by kernel_rfl) rfl #[] rfl (by (try simp only [List.map_toArray, List.map_cons, List.map_nil]); first | done | rfl | (simp only [List.length_drop, List.length_take]; rfl)) ?_; (with_reducible refine (sawtoothlaw15_awakeS.calls  true _ A3.out).mono ?_); rintro e w42 ⟨rfl, hb⟩; refine ⟨_, rfl, ?_⟩; replace HB := Aside0.mk (below_step (by repeat (first | (with_reducible first | exact HB.out | apply below_alloc | apply pw_below_drewN | apply below_drew1) | exact HB.out)) hb); (try clear hb); (try clear hb2); (try clear hk); (try clear hi)) | ((with_reducible refine gate_callee (f := 17) rfl ?_); refine goesL_ (some 9) rfl rfl Try.func17 (by kernel_rfl) rfl #[.int .i64 a0] rfl (by (try simp only [List.map_toArray, List.map_cons, List.map_nil]); first | done | rfl | (simp only [List.length_drop, List.length_take]; rfl)) ?_; (with_reducible refine (cut_LeastS.calls a0 t277 _ A4.out).mono ?_); rintro e w43 ⟨rfl, hb⟩; refine ⟨_, rfl, ?_⟩; replace HB := Aside0.mk (below_step (by repeat (first | (with_reducible first | exact HB.out | apply below_alloc | apply pw_below_drewN | apply below_drew1) | exact HB.out)) hb); (try clear hb); (try clear hb2); (try clear hk); (try clear hi)) | (go_at_call 17; (with_reducible refine (cut_LeastS.calls ji38 t284 _ A39.out).mono ?_); rintro e w44 ⟨rfl, hb⟩; replace HB := Aside0.mk (below_step (by repeat (first | (with_reducible first | exact HB.out | apply below_alloc | apply pw_below_drewN | apply below_drew1) | exact HB.out)) hb); (try clear hb); (try clear hb2); (try clear hk); (try clear hi)) | (go_at_call 17; (with_reducible refine (cut_LeastS.calls ji40 t285 _ A41.out).mono ?_); rintro e w45 ⟨rfl, hb⟩; replace HB := Aside0.mk (below_step (by repeat (first | (with_reducible first | exact HB.out | apply below_alloc | apply pw_below_drewN | apply below_drew1) | exact HB.out)) hb); (try clear hb); (try clear hb2); (try clear hk); (try clear hi)))
        go_ret
        exact ⟨by first | rfl | (simp [errW_none, errW_some] <;> rfl) | (simp only [← hji38, ← hji40]; first | rfl | (simp [errW_none, errW_some] <;> rfl)) | (simp [*, errW_none, errW_some] <;> rfl), by repeat (first | (with_reducible first | exact HB.out | apply below_alloc | apply pw_below_drewN | apply below_drew1) | exact HB.out)⟩
       ·rw [if_neg c37] at H
        exact absurd H (by simp)
     ·rw [if_neg c27] at H
      exact absurd H (by simp)
   ·rw [if_neg c7] at H
    exact absurd H (by simp)
  ·rw [if_neg c6] at H
   exact absurd H (by simp)
 ·replace c5 := Bool.eq_false_iff.mpr c5
  subst c5
  have H1 : (none) = some r := by rw [if_neg (show ¬ (false = true) by decide)] at H; exact H
  clear H
  have H := H1
  clear H1
  exact absurd H (by simp)

/-- THE ONE PURE STATEMENT of sawtoothlaw15_CutBounds: yours. -/
def sawtoothlaw15_CutBounds.Pure : Prop := ∀ (a0 : Int) (a1 : Int), (Lit.int .i64 a0).wf = true → (Lit.int .i64 a1).wf = true → sawtoothlaw15_CutBounds.f a0 a1 = some true
theorem sawtoothlaw15_CutBounds.walk (P : sawtoothlaw15_CutBounds.Pure) (a0 : Int) (a1 : Int) (w : World) (w0 : (Lit.int .i64 a0).wf = true) (w1 : (Lit.int .i64 a1).wf = true) :
  Calls Try.prog 5 #[.int .i64 a0, .int .i64 a1] w fun e w' => e = .returned (.bool true) ∧ Below w.heap.size w w' := by
 have h := P a0 a1 w0 w1
 refine (sawtoothlaw15_CutBounds.calls a0 a1 true w h).mono ?_
 rintro e w' ⟨rfl, hd⟩
 exact ⟨rfl, hd⟩

/-! ### sawtoothlaw15_CutMany: function 6 -/
noncomputable def sawtoothlaw15_CutMany.f (a0 : Int) (a1 : Int) (a2 : Int) : Option (Bool) := (sawtoothlaw15_awakeS.f).bind fun t286 => ((cut_Many.f a0 (wrap64 (a1))).bind fun t287 => ((cut_Many.f t287 (wrap64 (a2))).bind fun t288 => (if t286 = true then ((cut_Many.f a0 (wrap64 ((wrap64 (a1)) + (wrap64 (a2))))).bind fun t289 => (if t288 = t289 then ((cut_Many.f a0 50).bind fun t290 => (if t290 = 131072 then ((cut_Many.f a0 1).bind fun t291 => ((cut_LeastS.f a0).bind fun t292 => (if t291 = t292 then ((cut_Many.f a0 (wrap64 ((wrap64 (a1)) + 1))).bind fun t293 => ((cut_Many.f a0 (wrap64 (a1))).bind fun t294 => (some (decide (t293 ≤ t294))))) else (none)))) else (none))) else (none))) else (none))))
set_option maxHeartbeats 8000000 in
set_option maxRecDepth 100000 in
theorem sawtoothlaw15_CutMany.calls (a0 : Int) (a1 : Int) (a2 : Int) (r : Bool) (w : World) (h : sawtoothlaw15_CutMany.f a0 a1 a2 = some r) :
  Calls Try.prog 6 #[.int .i64 a0, .int .u8 a1, .int .u8 a2] w fun e w' => e = .returned (.bool r) ∧ Below w.heap.size w w' := by
 have HB := Aside0.mk (Below.refl w.heap.size w)
 have H : ((sawtoothlaw15_awakeS.f).bind fun t286 => ((cut_Many.f a0 (wrap64 (a1))).bind fun t287 => ((cut_Many.f t287 (wrap64 (a2))).bind fun t288 => (if t286 = true then ((cut_Many.f a0 (wrap64 ((wrap64 (a1)) + (wrap64 (a2))))).bind fun t289 => (if t288 = t289 then ((cut_Many.f a0 50).bind fun t290 => (if t290 = 131072 then ((cut_Many.f a0 1).bind fun t291 => ((cut_LeastS.f a0).bind fun t292 => (if t291 = t292 then ((cut_Many.f a0 (wrap64 ((wrap64 (a1)) + 1))).bind fun t293 => ((cut_Many.f a0 (wrap64 (a1))).bind fun t294 => (some (decide (t293 ≤ t294))))) else (none)))) else (none))) else (none))) else (none))))) = some r := h
 clear h
 replace H := Option.bind_eq_some_iff.mp H
 obtain ⟨t286, A40, H⟩ := H
 try dsimp only at H
 have A4 := Aside0.mk A40
 clear A40
 replace H := Option.bind_eq_some_iff.mp H
 obtain ⟨t287, A50, H⟩ := H
 try dsimp only at H
 have A5 := Aside0.mk A50
 clear A50
 replace H := Option.bind_eq_some_iff.mp H
 obtain ⟨t288, A60, H⟩ := H
 try dsimp only at H
 have A6 := Aside0.mk A60
 clear A60
 by_cases c7 : t286 = true
 ·subst c7
  have H1 : ((cut_Many.f a0 (wrap64 ((wrap64 (a1)) + (wrap64 (a2))))).bind fun t289 => (if t288 = t289 then ((cut_Many.f a0 50).bind fun t290 => (if t290 = 131072 then ((cut_Many.f a0 1).bind fun t291 => ((cut_LeastS.f a0).bind fun t292 => (if t291 = t292 then ((cut_Many.f a0 (wrap64 ((wrap64 (a1)) + 1))).bind fun t293 => ((cut_Many.f a0 (wrap64 (a1))).bind fun t294 => (some (decide (t293 ≤ t294))))) else (none)))) else (none))) else (none))) = some r := by rw [if_pos rfl] at H; exact H
  clear H
  have H := H1
  clear H1
  replace H := Option.bind_eq_some_iff.mp H
  obtain ⟨t289, A80, H⟩ := H
  try dsimp only at H
  have A8 := Aside0.mk A80
  clear A80
  by_cases c9 : t288 = t289
  ·rw [if_pos c9] at H
   have c9b0 : (t288 == t289) = true := beq_iff_eq.mpr c9
   have c9b1 : (t288 != t289) = false := bne_eq_false_iff_eq.mpr c9
   clear c9
   replace H := Option.bind_eq_some_iff.mp H
   obtain ⟨t290, A100, H⟩ := H
   try dsimp only at H
   have A10 := Aside0.mk A100
   clear A100
   by_cases c11 : t290 = 131072
   ·rw [if_pos c11] at H
    have c11b0 : (t290 == 131072) = true := beq_iff_eq.mpr c11
    have c11b1 : (t290 != 131072) = false := bne_eq_false_iff_eq.mpr c11
    clear c11
    replace H := Option.bind_eq_some_iff.mp H
    obtain ⟨t291, A120, H⟩ := H
    try dsimp only at H
    have A12 := Aside0.mk A120
    clear A120
    replace H := Option.bind_eq_some_iff.mp H
    obtain ⟨t292, A130, H⟩ := H
    replace H : (if t291 = t292 then ((cut_Many.f a0 (wrap64 ((wrap64 (a1)) + 1))).bind fun t293 => ((cut_Many.f a0 (wrap64 (a1))).bind fun t294 => (some (decide (t293 ≤ t294))))) else (none)) = some r := H
    have A13 := Aside0.mk A130
    clear A130
    by_cases c14 : t291 = t292
    ·rw [if_pos c14] at H
     have c14b0 : (t291 == t292) = true := beq_iff_eq.mpr c14
     have c14b1 : (t291 != t292) = false := bne_eq_false_iff_eq.mpr c14
     clear c14
     replace H := Option.bind_eq_some_iff.mp H
     obtain ⟨t293, A150, H⟩ := H
     replace H : ((cut_Many.f a0 (wrap64 (a1))).bind fun t294 => (some (decide (t293 ≤ t294)))) = some r := H
     have A15 := Aside0.mk A150
     clear A150
     replace H := Option.bind_eq_some_iff.mp H
     obtain ⟨t294, A160, H⟩ := H
     replace H : (some (decide (t293 ≤ t294))) = some r := H
     have A16 := Aside0.mk A160
     clear A160
     obtain rfl := Option.some.inj H
     go_enter Try.func6, Try.ntmps6
     go_wp2_with (first | ((with_reducible refine gate_callee (f := 13) rfl ?_); refine goesL_ (some 9) rfl rfl Try.func13 (by kernel_rfl) rfl #[] rfl (by (try simp only [List.map_toArray, List.map_cons, List.map_nil]); first | done | rfl | (simp only [List.length_drop, List.length_take]; rfl)) ?_; (with_reducible refine (sawtoothlaw15_awakeS.calls  true _ A4.out).mono ?_); rintro e w17 ⟨rfl, hb⟩; refine ⟨_, rfl, ?_⟩; replace HB := Aside0.mk (below_step (by repeat (first | (with_reducible first | exact HB.out | apply below_alloc | apply pw_below_drewN | apply below_drew1) | exact HB.out)) hb); (try clear hb); (try clear hb2); (try clear hk); (try clear hi)) | ((with_reducible refine gate_callee (f := 19) rfl ?_); refine goesL_ (some 13) rfl rfl Try.func19 (by kernel_rfl) rfl #[.int .i64 a0, .int .i64 (wrap64 (a1))] rfl (by (try simp only [List.map_toArray, List.map_cons, List.map_nil]); first | done | rfl | (simp only [List.length_drop, List.length_take]; rfl)) ?_; (with_reducible refine (cut_Many.calls a0 (wrap64 (a1)) t287 _ A5.out).mono ?_); rintro e w18 ⟨rfl, hb⟩; refine ⟨_, rfl, ?_⟩; replace HB := Aside0.mk (below_step (by repeat (first | (with_reducible first | exact HB.out | apply below_alloc | apply pw_below_drewN | apply below_drew1) | exact HB.out)) hb); (try clear hb); (try clear hb2); (try clear hk); (try clear hi)) | ((with_reducible refine gate_callee (f := 19) rfl ?_); refine goesL_ (some 16) rfl rfl Try.func19 (by kernel_rfl) rfl #[.int .i64 t287, .int .i64 (wrap64 (a2))] rfl (by (try simp only [List.map_toArray, List.map_cons, List.map_nil]); first | done | rfl | (simp only [List.length_drop, List.length_take]; rfl)) ?_; (with_reducible refine (cut_Many.calls t287 (wrap64 (a2)) t288 _ A6.out).mono ?_); rintro e w19 ⟨rfl, hb⟩; refine ⟨_, rfl, ?_⟩; replace HB := Aside0.mk (below_step (by repeat (first | (with_reducible first | exact HB.out | apply below_alloc | apply pw_below_drewN | apply below_drew1) | exact HB.out)) hb); (try clear hb); (try clear hb2); (try clear hk); (try clear hi)) | (go_at_call 19; (with_reducible refine (cut_Many.calls a0 (wrap64 ((wrap64 (a1)) + (wrap64 (a2)))) t289 _ A8.out).mono ?_); rintro e w20 ⟨rfl, hb⟩; replace HB := Aside0.mk (below_step (by repeat (first | (with_reducible first | exact HB.out | apply below_alloc | apply pw_below_drewN | apply below_drew1) | exact HB.out)) hb); (try clear hb); (try clear hb2); (try clear hk); (try clear hi)) | (go_at_call 19; (with_reducible refine (cut_Many.calls a0 50 t290 _ A10.out).mono ?_); rintro e w21 ⟨rfl, hb⟩; replace HB := Aside0.mk (below_step (by repeat (first | (with_reducible first | exact HB.out | apply below_alloc | apply pw_below_drewN | apply below_drew1) | exact HB.out)) hb); (try clear hb); (try clear hb2); (try clear hk); (try clear hi)) | (go_at_call 19; (with_reducible refine (cut_Many.calls a0 1 t291 _ A12.out).mono ?_); rintro e w22 ⟨rfl, hb⟩; replace HB := Aside0.mk (below_step (by repeat (first | (with_reducible first | exact HB.out | apply below_alloc | apply pw_below_drewN | apply below_drew1) | exact HB.out)) hb); (try clear hb); (try clear hb2); (try clear hk); (try clear hi)) | (go_at_call 17; (with_reducible refine (cut_LeastS.calls a0 t292 _ A13.out).mono ?_); rintro e w23 ⟨rfl, hb⟩; replace HB := Aside0.mk (below_step (by repeat (first | (with_reducible first | exact HB.out | apply below_alloc | apply pw_below_drewN | apply below_drew1) | exact HB.out)) hb); (try clear hb); (try clear hb2); (try clear hk); (try clear hi)) | (go_at_call 19; (with_reducible refine (cut_Many.calls a0 (wrap64 ((wrap64 (a1)) + 1)) t293 _ A15.out).mono ?_); rintro e w24 ⟨rfl, hb⟩; replace HB := Aside0.mk (below_step (by repeat (first | (with_reducible first | exact HB.out | apply below_alloc | apply pw_below_drewN | apply below_drew1) | exact HB.out)) hb); (try clear hb); (try clear hb2); (try clear hk); (try clear hi)) | (go_at_call 19; (with_reducible refine (cut_Many.calls a0 (wrap64 (a1)) t294 _ A16.out).mono ?_); rintro e w25 ⟨rfl, hb⟩; replace HB := Aside0.mk (below_step (by repeat (first | (with_reducible first | exact HB.out | apply below_alloc | apply pw_below_drewN | apply below_drew1) | exact HB.out)) hb); (try clear hb); (try clear hb2); (try clear hk); (try clear hi)))
     go_ret
     exact ⟨by first | rfl | (simp [errW_none, errW_some] <;> rfl) | (simp [*, errW_none, errW_some] <;> rfl), by repeat (first | (with_reducible first | exact HB.out | apply below_alloc | apply pw_below_drewN | apply below_drew1) | exact HB.out)⟩
    ·rw [if_neg c14] at H
     exact absurd H (by simp)
   ·rw [if_neg c11] at H
    exact absurd H (by simp)
  ·rw [if_neg c9] at H
   exact absurd H (by simp)
 ·replace c7 := Bool.eq_false_iff.mpr c7
  subst c7
  have H1 : (none) = some r := by rw [if_neg (show ¬ (false = true) by decide)] at H; exact H
  clear H
  have H := H1
  clear H1
  exact absurd H (by simp)

/-- THE ONE PURE STATEMENT of sawtoothlaw15_CutMany: yours. -/
def sawtoothlaw15_CutMany.Pure : Prop := ∀ (a0 : Int) (a1 : Int) (a2 : Int), (Lit.int .i64 a0).wf = true → (Lit.int .u8 a1).wf = true → (Lit.int .u8 a2).wf = true → sawtoothlaw15_CutMany.f a0 a1 a2 = some true
theorem sawtoothlaw15_CutMany.walk (P : sawtoothlaw15_CutMany.Pure) (a0 : Int) (a1 : Int) (a2 : Int) (w : World) (w0 : (Lit.int .i64 a0).wf = true) (w1 : (Lit.int .u8 a1).wf = true) (w2 : (Lit.int .u8 a2).wf = true) :
  Calls Try.prog 6 #[.int .i64 a0, .int .u8 a1, .int .u8 a2] w fun e w' => e = .returned (.bool true) ∧ Below w.heap.size w w' := by
 have h := P a0 a1 a2 w0 w1 w2
 refine (sawtoothlaw15_CutMany.calls a0 a1 a2 true w h).mono ?_
 rintro e w' ⟨rfl, hd⟩
 exact ⟨rfl, hd⟩

/-! ### sawtoothlaw15_CutLoss: function 7 -/
noncomputable def sawtoothlaw15_CutLoss.f (a0 : Int) (a1 : Int) : Option (Bool) := (sawtoothlaw15_awakeS.f).bind fun t295 => ((cut_LossS.f (wrap64 (131072 + (wrap64 (Int.tmod a0 68719345665)))) a1).bind fun bt296 => ((cut_TimeoutS.f (wrap64 (131072 + (wrap64 (Int.tmod a0 68719345665)))) a1).bind fun bt298 => (if t295 = true then (if bt296.2 ≤ (wrap64 (131072 + (wrap64 (Int.tmod a0 68719345665)))) then (if (wrap64 (131072 + (wrap64 (Int.tmod a0 68719345665)))) = 131072 then (if bt298.1 = 131072 then (if bt298.2.1 = bt296.1 then (if bt298.2.2 = bt296.2 then (if 2621440 > (wrap64 (17 * (wrap64 (131072 + (wrap64 (Int.tmod a0 68719345665)))))) then (some true) else (some (decide (bt296.1 ≤ bt296.2)))) else (none)) else (none)) else (none)) else (if bt296.1 ≤ (wrap64 (131072 + (wrap64 (Int.tmod a0 68719345665)))) then (if bt298.1 = 131072 then (if bt298.2.1 = bt296.1 then (if bt298.2.2 = bt296.2 then (if 2621440 > (wrap64 (17 * (wrap64 (131072 + (wrap64 (Int.tmod a0 68719345665)))))) then (some true) else (some (decide (bt296.1 ≤ bt296.2)))) else (none)) else (none)) else (none)) else (none))) else (none)) else (none))))
set_option maxHeartbeats 8000000 in
set_option maxRecDepth 100000 in
theorem sawtoothlaw15_CutLoss.calls (a0 : Int) (a1 : Int) (r : Bool) (w : World) (h : sawtoothlaw15_CutLoss.f a0 a1 = some r) :
  Calls Try.prog 7 #[.int .u64 a0, .int .i64 a1] w fun e w' => e = .returned (.bool r) ∧ Below w.heap.size w w' := by
 have HB := Aside0.mk (Below.refl w.heap.size w)
 have H : ((sawtoothlaw15_awakeS.f).bind fun t295 => ((cut_LossS.f (wrap64 (131072 + (wrap64 (Int.tmod a0 68719345665)))) a1).bind fun bt296 => ((cut_TimeoutS.f (wrap64 (131072 + (wrap64 (Int.tmod a0 68719345665)))) a1).bind fun bt298 => (if t295 = true then (if bt296.2 ≤ (wrap64 (131072 + (wrap64 (Int.tmod a0 68719345665)))) then (if (wrap64 (131072 + (wrap64 (Int.tmod a0 68719345665)))) = 131072 then (if bt298.1 = 131072 then (if bt298.2.1 = bt296.1 then (if bt298.2.2 = bt296.2 then (if 2621440 > (wrap64 (17 * (wrap64 (131072 + (wrap64 (Int.tmod a0 68719345665)))))) then (some true) else (some (decide (bt296.1 ≤ bt296.2)))) else (none)) else (none)) else (none)) else (if bt296.1 ≤ (wrap64 (131072 + (wrap64 (Int.tmod a0 68719345665)))) then (if bt298.1 = 131072 then (if bt298.2.1 = bt296.1 then (if bt298.2.2 = bt296.2 then (if 2621440 > (wrap64 (17 * (wrap64 (131072 + (wrap64 (Int.tmod a0 68719345665)))))) then (some true) else (some (decide (bt296.1 ≤ bt296.2)))) else (none)) else (none)) else (none)) else (none))) else (none)) else (none))))) = some r := h
 clear h
 replace H := Option.bind_eq_some_iff.mp H
 obtain ⟨t295, A30, H⟩ := H
 try dsimp only at H
 have A3 := Aside0.mk A30
 clear A30
 replace H := Option.bind_eq_some_iff.mp H
 obtain ⟨⟨t296, t297⟩, A40, H⟩ := H
 try dsimp only at H
 have A4 := Aside0.mk A40
 clear A40
 replace H := Option.bind_eq_some_iff.mp H
 obtain ⟨⟨t298, t299, t300⟩, A50, H⟩ := H
 try dsimp only at H
 have A5 := Aside0.mk A50
 clear A50
 by_cases c6 : t295 = true
 ·subst c6
  have H1 : (if t297 ≤ (wrap64 (131072 + (wrap64 (Int.tmod a0 68719345665)))) then (if (wrap64 (131072 + (wrap64 (Int.tmod a0 68719345665)))) = 131072 then (if t298 = 131072 then (if t299 = t296 then (if t300 = t297 then (if 2621440 > (wrap64 (17 * (wrap64 (131072 + (wrap64 (Int.tmod a0 68719345665)))))) then (some true) else (some (decide (t296 ≤ t297)))) else (none)) else (none)) else (none)) else (if t296 ≤ (wrap64 (131072 + (wrap64 (Int.tmod a0 68719345665)))) then (if t298 = 131072 then (if t299 = t296 then (if t300 = t297 then (if 2621440 > (wrap64 (17 * (wrap64 (131072 + (wrap64 (Int.tmod a0 68719345665)))))) then (some true) else (some (decide (t296 ≤ t297)))) else (none)) else (none)) else (none)) else (none))) else (none)) = some r := by rw [if_pos rfl] at H; exact H
  clear H
  have H := H1
  clear H1
  by_cases c7 : t297 ≤ (wrap64 (131072 + (wrap64 (Int.tmod a0 68719345665))))
  ·rw [if_pos c7] at H
   have c7b0 : decide (t297 ≤ (wrap64 (131072 + (wrap64 (Int.tmod a0 68719345665))))) = true := decide_eq_true c7
   clear c7
   by_cases c8 : (wrap64 (131072 + (wrap64 (Int.tmod a0 68719345665)))) = 131072
   ·rw [if_pos c8] at H
    have c8b0 : ((wrap64 (131072 + (wrap64 (Int.tmod a0 68719345665)))) == 131072) = true := beq_iff_eq.mpr c8
    have c8b1 : ((wrap64 (131072 + (wrap64 (Int.tmod a0 68719345665)))) != 131072) = false := bne_eq_false_iff_eq.mpr c8
    clear c8
    by_cases c9 : t298 = 131072
    ·rw [if_pos c9] at H
     have c9b0 : (t298 == 131072) = true := beq_iff_eq.mpr c9
     have c9b1 : (t298 != 131072) = false := bne_eq_false_iff_eq.mpr c9
     clear c9
     by_cases c10 : t299 = t296
     ·rw [if_pos c10] at H
      have c10b0 : (t299 == t296) = true := beq_iff_eq.mpr c10
      have c10b1 : (t299 != t296) = false := bne_eq_false_iff_eq.mpr c10
      clear c10
      by_cases c11 : t300 = t297
      ·rw [if_pos c11] at H
       have c11b0 : (t300 == t297) = true := beq_iff_eq.mpr c11
       have c11b1 : (t300 != t297) = false := bne_eq_false_iff_eq.mpr c11
       clear c11
       by_cases c12 : 2621440 > (wrap64 (17 * (wrap64 (131072 + (wrap64 (Int.tmod a0 68719345665))))))
       ·rw [if_pos c12] at H
        have c12b0 : decide ((wrap64 (17 * (wrap64 (131072 + (wrap64 (Int.tmod a0 68719345665)))))) < 2621440) = true := decide_eq_true c12
        clear c12
        obtain rfl := Option.some.inj H
        go_enter Try.func7, Try.ntmps7
        go_wp2_with (first | ((with_reducible refine gate_callee (f := 13) rfl ?_); refine goesL_ (some 12) rfl rfl Try.func13 (by kernel_rfl) rfl #[] rfl (by (try simp only [List.map_toArray, List.map_cons, List.map_nil]); first | done | rfl | (simp only [List.length_drop, List.length_take]; rfl)) ?_; (with_reducible refine (sawtoothlaw15_awakeS.calls  true _ A3.out).mono ?_); rintro e w13 ⟨rfl, hb⟩; refine ⟨_, rfl, ?_⟩; replace HB := Aside0.mk (below_step (by repeat (first | (with_reducible first | exact HB.out | apply below_alloc | apply pw_below_drewN | apply below_drew1) | exact HB.out)) hb); (try clear hb); (try clear hb2); (try clear hk); (try clear hi)) | ((with_reducible refine gate_callee (f := 14) rfl ?_); refine goesL_ (some 20) rfl rfl Try.func14 (by kernel_rfl) rfl #[.int .i64 (wrap64 (131072 + (wrap64 (Int.tmod a0 68719345665)))), .int .i64 a1] rfl (by (try simp only [List.map_toArray, List.map_cons, List.map_nil]); first | done | rfl | (simp only [List.length_drop, List.length_take]; rfl)) ?_; (with_reducible refine (cut_LossS.calls (wrap64 (131072 + (wrap64 (Int.tmod a0 68719345665)))) a1 t296 t297 _ A4.out).mono ?_); rintro e w14 ⟨rfl, hb⟩; refine ⟨_, rfl, ?_⟩; replace HB := Aside0.mk (below_step (by repeat (first | (with_reducible first | exact HB.out | apply below_alloc | apply pw_below_drewN | apply below_drew1) | exact HB.out)) hb); (try clear hb); (try clear hb2); (try clear hk); (try clear hi)) | ((with_reducible refine gate_callee (f := 16) rfl ?_); refine goesL_ (some 26) rfl rfl Try.func16 (by kernel_rfl) rfl #[.int .i64 (wrap64 (131072 + (wrap64 (Int.tmod a0 68719345665)))), .int .i64 a1] rfl (by (try simp only [List.map_toArray, List.map_cons, List.map_nil]); first | done | rfl | (simp only [List.length_drop, List.length_take]; rfl)) ?_; (with_reducible refine (cut_TimeoutS.calls (wrap64 (131072 + (wrap64 (Int.tmod a0 68719345665)))) a1 t298 t299 t300 _ A5.out).mono ?_); rintro e w15 ⟨rfl, hb⟩; refine ⟨_, rfl, ?_⟩; replace HB := Aside0.mk (below_step (by repeat (first | (with_reducible first | exact HB.out | apply below_alloc | apply pw_below_drewN | apply below_drew1) | exact HB.out)) hb); (try clear hb); (try clear hb2); (try clear hk); (try clear hi)))
        go_ret
        exact ⟨by first | rfl | (simp [errW_none, errW_some] <;> rfl) | (simp [*, errW_none, errW_some] <;> rfl), by repeat (first | (with_reducible first | exact HB.out | apply below_alloc | apply pw_below_drewN | apply below_drew1) | exact HB.out)⟩
       ·rw [if_neg c12] at H
        have c12b0 : decide ((wrap64 (17 * (wrap64 (131072 + (wrap64 (Int.tmod a0 68719345665)))))) < 2621440) = false := decide_eq_false c12
        clear c12
        obtain rfl := Option.some.inj H
        go_enter Try.func7, Try.ntmps7
        go_wp2_with (first | ((with_reducible refine gate_callee (f := 13) rfl ?_); refine goesL_ (some 12) rfl rfl Try.func13 (by kernel_rfl) rfl #[] rfl (by (try simp only [List.map_toArray, List.map_cons, List.map_nil]); first | done | rfl | (simp only [List.length_drop, List.length_take]; rfl)) ?_; (with_reducible refine (sawtoothlaw15_awakeS.calls  true _ A3.out).mono ?_); rintro e w16 ⟨rfl, hb⟩; refine ⟨_, rfl, ?_⟩; replace HB := Aside0.mk (below_step (by repeat (first | (with_reducible first | exact HB.out | apply below_alloc | apply pw_below_drewN | apply below_drew1) | exact HB.out)) hb); (try clear hb); (try clear hb2); (try clear hk); (try clear hi)) | ((with_reducible refine gate_callee (f := 14) rfl ?_); refine goesL_ (some 20) rfl rfl Try.func14 (by kernel_rfl) rfl #[.int .i64 (wrap64 (131072 + (wrap64 (Int.tmod a0 68719345665)))), .int .i64 a1] rfl (by (try simp only [List.map_toArray, List.map_cons, List.map_nil]); first | done | rfl | (simp only [List.length_drop, List.length_take]; rfl)) ?_; (with_reducible refine (cut_LossS.calls (wrap64 (131072 + (wrap64 (Int.tmod a0 68719345665)))) a1 t296 t297 _ A4.out).mono ?_); rintro e w17 ⟨rfl, hb⟩; refine ⟨_, rfl, ?_⟩; replace HB := Aside0.mk (below_step (by repeat (first | (with_reducible first | exact HB.out | apply below_alloc | apply pw_below_drewN | apply below_drew1) | exact HB.out)) hb); (try clear hb); (try clear hb2); (try clear hk); (try clear hi)) | ((with_reducible refine gate_callee (f := 16) rfl ?_); refine goesL_ (some 26) rfl rfl Try.func16 (by kernel_rfl) rfl #[.int .i64 (wrap64 (131072 + (wrap64 (Int.tmod a0 68719345665)))), .int .i64 a1] rfl (by (try simp only [List.map_toArray, List.map_cons, List.map_nil]); first | done | rfl | (simp only [List.length_drop, List.length_take]; rfl)) ?_; (with_reducible refine (cut_TimeoutS.calls (wrap64 (131072 + (wrap64 (Int.tmod a0 68719345665)))) a1 t298 t299 t300 _ A5.out).mono ?_); rintro e w18 ⟨rfl, hb⟩; refine ⟨_, rfl, ?_⟩; replace HB := Aside0.mk (below_step (by repeat (first | (with_reducible first | exact HB.out | apply below_alloc | apply pw_below_drewN | apply below_drew1) | exact HB.out)) hb); (try clear hb); (try clear hb2); (try clear hk); (try clear hi)))
        go_ret
        exact ⟨by first | rfl | (simp [errW_none, errW_some] <;> rfl) | (simp [*, errW_none, errW_some] <;> rfl), by repeat (first | (with_reducible first | exact HB.out | apply below_alloc | apply pw_below_drewN | apply below_drew1) | exact HB.out)⟩
      ·rw [if_neg c11] at H
       exact absurd H (by simp)
     ·rw [if_neg c10] at H
      exact absurd H (by simp)
    ·rw [if_neg c9] at H
     exact absurd H (by simp)
   ·rw [if_neg c8] at H
    have c8b0 : ((wrap64 (131072 + (wrap64 (Int.tmod a0 68719345665)))) == 131072) = false := beq_eq_false_iff_ne.mpr c8
    have c8b1 : ((wrap64 (131072 + (wrap64 (Int.tmod a0 68719345665)))) != 131072) = true := bne_iff_ne.mpr c8
    by_cases c19 : t296 ≤ (wrap64 (131072 + (wrap64 (Int.tmod a0 68719345665))))
    ·rw [if_pos c19] at H
     have c19b0 : decide (t296 ≤ (wrap64 (131072 + (wrap64 (Int.tmod a0 68719345665))))) = true := decide_eq_true c19
     clear c19
     by_cases c20 : t298 = 131072
     ·rw [if_pos c20] at H
      have c20b0 : (t298 == 131072) = true := beq_iff_eq.mpr c20
      have c20b1 : (t298 != 131072) = false := bne_eq_false_iff_eq.mpr c20
      clear c20
      by_cases c21 : t299 = t296
      ·rw [if_pos c21] at H
       have c21b0 : (t299 == t296) = true := beq_iff_eq.mpr c21
       have c21b1 : (t299 != t296) = false := bne_eq_false_iff_eq.mpr c21
       clear c21
       by_cases c22 : t300 = t297
       ·rw [if_pos c22] at H
        have c22b0 : (t300 == t297) = true := beq_iff_eq.mpr c22
        have c22b1 : (t300 != t297) = false := bne_eq_false_iff_eq.mpr c22
        clear c22
        by_cases c23 : 2621440 > (wrap64 (17 * (wrap64 (131072 + (wrap64 (Int.tmod a0 68719345665))))))
        ·rw [if_pos c23] at H
         have c23b0 : decide ((wrap64 (17 * (wrap64 (131072 + (wrap64 (Int.tmod a0 68719345665)))))) < 2621440) = true := decide_eq_true c23
         clear c23
         obtain rfl := Option.some.inj H
         go_enter Try.func7, Try.ntmps7
         go_wp2_with (first | ((with_reducible refine gate_callee (f := 13) rfl ?_); refine goesL_ (some 12) rfl rfl Try.func13 (by kernel_rfl) rfl #[] rfl (by (try simp only [List.map_toArray, List.map_cons, List.map_nil]); first | done | rfl | (simp only [List.length_drop, List.length_take]; rfl)) ?_; (with_reducible refine (sawtoothlaw15_awakeS.calls  true _ A3.out).mono ?_); rintro e w24 ⟨rfl, hb⟩; refine ⟨_, rfl, ?_⟩; replace HB := Aside0.mk (below_step (by repeat (first | (with_reducible first | exact HB.out | apply below_alloc | apply pw_below_drewN | apply below_drew1) | exact HB.out)) hb); (try clear hb); (try clear hb2); (try clear hk); (try clear hi)) | ((with_reducible refine gate_callee (f := 14) rfl ?_); refine goesL_ (some 20) rfl rfl Try.func14 (by kernel_rfl) rfl #[.int .i64 (wrap64 (131072 + (wrap64 (Int.tmod a0 68719345665)))), .int .i64 a1] rfl (by (try simp only [List.map_toArray, List.map_cons, List.map_nil]); first | done | rfl | (simp only [List.length_drop, List.length_take]; rfl)) ?_; (with_reducible refine (cut_LossS.calls (wrap64 (131072 + (wrap64 (Int.tmod a0 68719345665)))) a1 t296 t297 _ A4.out).mono ?_); rintro e w25 ⟨rfl, hb⟩; refine ⟨_, rfl, ?_⟩; replace HB := Aside0.mk (below_step (by repeat (first | (with_reducible first | exact HB.out | apply below_alloc | apply pw_below_drewN | apply below_drew1) | exact HB.out)) hb); (try clear hb); (try clear hb2); (try clear hk); (try clear hi)) | ((with_reducible refine gate_callee (f := 16) rfl ?_); refine goesL_ (some 26) rfl rfl Try.func16 (by kernel_rfl) rfl #[.int .i64 (wrap64 (131072 + (wrap64 (Int.tmod a0 68719345665)))), .int .i64 a1] rfl (by (try simp only [List.map_toArray, List.map_cons, List.map_nil]); first | done | rfl | (simp only [List.length_drop, List.length_take]; rfl)) ?_; (with_reducible refine (cut_TimeoutS.calls (wrap64 (131072 + (wrap64 (Int.tmod a0 68719345665)))) a1 t298 t299 t300 _ A5.out).mono ?_); rintro e w26 ⟨rfl, hb⟩; refine ⟨_, rfl, ?_⟩; replace HB := Aside0.mk (below_step (by repeat (first | (with_reducible first | exact HB.out | apply below_alloc | apply pw_below_drewN | apply below_drew1) | exact HB.out)) hb); (try clear hb); (try clear hb2); (try clear hk); (try clear hi)))
         go_ret
         exact ⟨by first | rfl | (simp [errW_none, errW_some] <;> rfl) | (simp [*, errW_none, errW_some] <;> rfl), by repeat (first | (with_reducible first | exact HB.out | apply below_alloc | apply pw_below_drewN | apply below_drew1) | exact HB.out)⟩
        ·rw [if_neg c23] at H
         have c23b0 : decide ((wrap64 (17 * (wrap64 (131072 + (wrap64 (Int.tmod a0 68719345665)))))) < 2621440) = false := decide_eq_false c23
         clear c23
         obtain rfl := Option.some.inj H
         go_enter Try.func7, Try.ntmps7
         go_wp2_with (first | ((with_reducible refine gate_callee (f := 13) rfl ?_); refine goesL_ (some 12) rfl rfl Try.func13 (by kernel_rfl) rfl #[] rfl (by (try simp only [List.map_toArray, List.map_cons, List.map_nil]); first | done | rfl | (simp only [List.length_drop, List.length_take]; rfl)) ?_; (with_reducible refine (sawtoothlaw15_awakeS.calls  true _ A3.out).mono ?_); rintro e w27 ⟨rfl, hb⟩; refine ⟨_, rfl, ?_⟩; replace HB := Aside0.mk (below_step (by repeat (first | (with_reducible first | exact HB.out | apply below_alloc | apply pw_below_drewN | apply below_drew1) | exact HB.out)) hb); (try clear hb); (try clear hb2); (try clear hk); (try clear hi)) | ((with_reducible refine gate_callee (f := 14) rfl ?_); refine goesL_ (some 20) rfl rfl Try.func14 (by kernel_rfl) rfl #[.int .i64 (wrap64 (131072 + (wrap64 (Int.tmod a0 68719345665)))), .int .i64 a1] rfl (by (try simp only [List.map_toArray, List.map_cons, List.map_nil]); first | done | rfl | (simp only [List.length_drop, List.length_take]; rfl)) ?_; (with_reducible refine (cut_LossS.calls (wrap64 (131072 + (wrap64 (Int.tmod a0 68719345665)))) a1 t296 t297 _ A4.out).mono ?_); rintro e w28 ⟨rfl, hb⟩; refine ⟨_, rfl, ?_⟩; replace HB := Aside0.mk (below_step (by repeat (first | (with_reducible first | exact HB.out | apply below_alloc | apply pw_below_drewN | apply below_drew1) | exact HB.out)) hb); (try clear hb); (try clear hb2); (try clear hk); (try clear hi)) | ((with_reducible refine gate_callee (f := 16) rfl ?_); refine goesL_ (some 26) rfl rfl Try.func16 (by kernel_rfl) rfl #[.int .i64 (wrap64 (131072 + (wrap64 (Int.tmod a0 68719345665)))), .int .i64 a1] rfl (by (try simp only [List.map_toArray, List.map_cons, List.map_nil]); first | done | rfl | (simp only [List.length_drop, List.length_take]; rfl)) ?_; (with_reducible refine (cut_TimeoutS.calls (wrap64 (131072 + (wrap64 (Int.tmod a0 68719345665)))) a1 t298 t299 t300 _ A5.out).mono ?_); rintro e w29 ⟨rfl, hb⟩; refine ⟨_, rfl, ?_⟩; replace HB := Aside0.mk (below_step (by repeat (first | (with_reducible first | exact HB.out | apply below_alloc | apply pw_below_drewN | apply below_drew1) | exact HB.out)) hb); (try clear hb); (try clear hb2); (try clear hk); (try clear hi)))
         go_ret
         exact ⟨by first | rfl | (simp [errW_none, errW_some] <;> rfl) | (simp [*, errW_none, errW_some] <;> rfl), by repeat (first | (with_reducible first | exact HB.out | apply below_alloc | apply pw_below_drewN | apply below_drew1) | exact HB.out)⟩
       ·rw [if_neg c22] at H
        exact absurd H (by simp)
      ·rw [if_neg c21] at H
       exact absurd H (by simp)
     ·rw [if_neg c20] at H
      exact absurd H (by simp)
    ·rw [if_neg c19] at H
     exact absurd H (by simp)
  ·rw [if_neg c7] at H
   exact absurd H (by simp)
 ·replace c6 := Bool.eq_false_iff.mpr c6
  subst c6
  have H1 : (none) = some r := by rw [if_neg (show ¬ (false = true) by decide)] at H; exact H
  clear H
  have H := H1
  clear H1
  exact absurd H (by simp)

/-- THE ONE PURE STATEMENT of sawtoothlaw15_CutLoss: yours. -/
def sawtoothlaw15_CutLoss.Pure : Prop := ∀ (a0 : Int) (a1 : Int), (Lit.int .u64 a0).wf = true → (Lit.int .i64 a1).wf = true → sawtoothlaw15_CutLoss.f a0 a1 = some true
theorem sawtoothlaw15_CutLoss.walk (P : sawtoothlaw15_CutLoss.Pure) (a0 : Int) (a1 : Int) (w : World) (w0 : (Lit.int .u64 a0).wf = true) (w1 : (Lit.int .i64 a1).wf = true) :
  Calls Try.prog 7 #[.int .u64 a0, .int .i64 a1] w fun e w' => e = .returned (.bool true) ∧ Below w.heap.size w w' := by
 have h := P a0 a1 w0 w1
 refine (sawtoothlaw15_CutLoss.calls a0 a1 true w h).mono ?_
 rintro e w' ⟨rfl, hd⟩
 exact ⟨rfl, hd⟩

/-! ### reno_Part: function 22 -/
noncomputable def reno_Part.f (a0 : Int) (a1 : Int) : Option (Int × Int) := if a0 < a1 then (some (9, 17)) else (some (1, 1))
set_option maxHeartbeats 8000000 in
set_option maxRecDepth 100000 in
theorem reno_Part.calls (a0 : Int) (a1 : Int) (r1 : Int) (r2 : Int) (w : World) (h : reno_Part.f a0 a1 = some (r1, r2)) :
  Calls Try.prog 22 #[.int .i64 a0, .int .i64 a1] w fun e w' => e = .returned (.tuple #[.int .i64 r1, .int .i64 r2]) ∧ Drawn0 w w' := by
 have H : (if a0 < a1 then (some (9, 17)) else (some (1, 1))) = some (r1, r2) := h
 clear h
 by_cases c3 : a0 < a1
 ·rw [if_pos c3] at H
  have c3b0 : decide (a0 < a1) = true := decide_eq_true c3
  clear c3
  simp only [Option.some.injEq, Prod.mk.injEq] at H
  obtain ⟨rfl, rfl⟩ := H
  go_enter Try.func22, Try.ntmps22
  go_wp2
  go_ret2
  exact ⟨by first | rfl | (simp; done) | (simp [*]; done), by repeat (first | exact Drawn0.refl _ | apply Drawn0.step)⟩
 ·rw [if_neg c3] at H
  have c3b0 : decide (a0 < a1) = false := decide_eq_false c3
  clear c3
  simp only [Option.some.injEq, Prod.mk.injEq] at H
  obtain ⟨rfl, rfl⟩ := H
  go_enter Try.func22, Try.ntmps22
  go_wp2
  go_ret2
  exact ⟨by first | rfl | (simp; done) | (simp [*]; done), by repeat (first | exact Drawn0.refl _ | apply Drawn0.step)⟩

/-! ### reno_between_int: function 35 -/
noncomputable def reno_between_int.f (a0 : Int) (a1 : Int) (a2 : Int) : Option (Int) := some (mn (mx a0 a1) a2)
set_option maxHeartbeats 8000000 in
set_option maxRecDepth 100000 in
theorem reno_between_int.calls (a0 : Int) (a1 : Int) (a2 : Int) (r : Int) (w : World) (h : reno_between_int.f a0 a1 a2 = some r) :
  Calls Try.prog 35 #[.int .i64 a0, .int .i64 a1, .int .i64 a2] w fun e w' => e = .returned (.int .i64 r) ∧ Below w.heap.size w w' := by
 have HB := Aside0.mk (Below.refl w.heap.size w)
 have H : (some (mn (mx a0 a1) a2)) = some r := h
 clear h
 obtain ⟨ji4, hji4⟩ : ∃ j_ : Int, (mx a0 a1) = j_ := ⟨_, rfl⟩
 replace H : (some (mn (ji4) a2)) = some r := by first | (rw [hji4] at H; exact H) | (simp only [hji4] at H ⊢; exact H)
 have hji4_ : (if a0 < a1 then a1 else a0) = ji4 := hji4
 obtain ⟨ji5, hji5⟩ : ∃ j_ : Int, (mn (ji4) a2) = j_ := ⟨_, rfl⟩
 replace H : (some ji5) = some r := by first | (rw [hji5] at H; exact H) | (simp only [hji5] at H ⊢; exact H)
 have hji5_ : (if a2 < (ji4) then a2 else (ji4)) = ji5 := hji5
 obtain rfl := Option.some.inj H
 go_enter Try.func35, Try.ntmps35
 go_wp2
 go_ret
 exact ⟨by first | rfl | (simp [errW_none, errW_some] <;> rfl) | (simp only [← hji4, ← hji5]; first | rfl | (simp [errW_none, errW_some] <;> rfl)) | (simp [*, errW_none, errW_some] <;> rfl), by repeat (first | (with_reducible first | exact HB.out | apply below_alloc | apply pw_below_drewN | apply below_drew1) | exact HB.out)⟩

-- NOT PRINTED: function 43 (safe_held)

/-! ### safe_Plus: function 44 -/
noncomputable def safe_Plus.f (a0 : Int) (a1 : Int) : Option (Int × Int) := if ((decide (a0 ≥ 0)) == (decide (a1 ≥ 0))) = true then (if ((decide ((wrap64 (a0 + a1)) ≥ 0)) != (decide (a0 ≥ 0))) = true then (some (0, 10)) else (some (wrap64 (a0 + a1), 0))) else (some (wrap64 (a0 + a1), 0))
set_option maxHeartbeats 8000000 in
set_option maxRecDepth 100000 in
theorem safe_Plus.calls (a0 : Int) (a1 : Int) (r1 : Int) (r2 : Int) (w : World) (h : safe_Plus.f a0 a1 = some (r1, r2)) :
  Calls Try.prog 44 #[.int .i64 a0, .int .i64 a1] w fun e w' => e = .returned (.tuple #[.int .i64 r1, .int .i64 r2]) ∧ Drawn0 w w' := by
 have H : (if ((decide (a0 ≥ 0)) == (decide (a1 ≥ 0))) = true then (if ((decide ((wrap64 (a0 + a1)) ≥ 0)) != (decide (a0 ≥ 0))) = true then (some (0, 10)) else (some (wrap64 (a0 + a1), 0))) else (some (wrap64 (a0 + a1), 0))) = some (r1, r2) := h
 clear h
 by_cases c3 : ((decide (a0 ≥ 0)) == (decide (a1 ≥ 0))) = true
 ·rw [if_pos c3] at H
  have c3b0 : ((decide (a0 ≥ 0)) == (decide (a1 ≥ 0))) = true := c3
  (try (have c3b1 : decide ((decide (a0 ≥ 0)) = (decide (a1 ≥ 0))) = true := by simpa using c3))
  (try (have c3b2 : ((decide (a0 ≥ 0)) == (decide (a1 ≥ 0))) = true := by simpa using c3))
  clear c3
  by_cases c4 : ((decide ((wrap64 (a0 + a1)) ≥ 0)) != (decide (a0 ≥ 0))) = true
  ·rw [if_pos c4] at H
   have c4b0 : ((decide ((wrap64 (a0 + a1)) ≥ 0)) != (decide (a0 ≥ 0))) = true := c4
   (try (have c4b1 : decide ((decide ((wrap64 (a0 + a1)) ≥ 0)) = (decide (a0 ≥ 0))) = false := by simpa using c4))
   (try (have c4b2 : ((decide ((wrap64 (a0 + a1)) ≥ 0)) == (decide (a0 ≥ 0))) = false := by simpa using c4))
   (try (have c4b3 : ¬ ((decide ((wrap64 (a0 + a1)) ≥ 0)) = (decide (a0 ≥ 0))) := by simpa using c4))
   clear c4
   simp only [Option.some.injEq, Prod.mk.injEq] at H
   obtain ⟨rfl, rfl⟩ := H
   go_enter Try.func44, Try.ntmps44
   go_wp2
   go_ret2
   exact ⟨by first | rfl | (simp; done) | (simp [*]; done), by repeat (first | exact Drawn0.refl _ | apply Drawn0.step)⟩
  ·rw [if_neg c4] at H
   have c4b0 : ((decide ((wrap64 (a0 + a1)) ≥ 0)) != (decide (a0 ≥ 0))) = false := by simpa using c4
   (try (have c4b1 : decide ((decide ((wrap64 (a0 + a1)) ≥ 0)) = (decide (a0 ≥ 0))) = true := by simpa using c4))
   (try (have c4b2 : ((decide ((wrap64 (a0 + a1)) ≥ 0)) == (decide (a0 ≥ 0))) = true := by simpa using c4))
   clear c4
   simp only [Option.some.injEq, Prod.mk.injEq] at H
   obtain ⟨rfl, rfl⟩ := H
   go_enter Try.func44, Try.ntmps44
   go_wp2
   go_ret2
   exact ⟨by first | rfl | (simp; done) | (simp [*]; done), by repeat (first | exact Drawn0.refl _ | apply Drawn0.step)⟩
 ·rw [if_neg c3] at H
  have c3b0 : ((decide (a0 ≥ 0)) == (decide (a1 ≥ 0))) = false := by simpa using c3
  (try (have c3b1 : decide ((decide (a0 ≥ 0)) = (decide (a1 ≥ 0))) = false := by simpa using c3))
  (try (have c3b2 : ((decide (a0 ≥ 0)) == (decide (a1 ≥ 0))) = false := by simpa using c3))
  (try (have c3b3 : ¬ ((decide (a0 ≥ 0)) = (decide (a1 ≥ 0))) := by simpa using c3))
  clear c3
  simp only [Option.some.injEq, Prod.mk.injEq] at H
  obtain ⟨rfl, rfl⟩ := H
  go_enter Try.func44, Try.ntmps44
  go_wp2
  go_ret2
  exact ⟨by first | rfl | (simp; done) | (simp [*]; done), by repeat (first | exact Drawn0.refl _ | apply Drawn0.step)⟩

/-! ### safe_PlusS: a sum, or its error: pure, behind function 44 -/
noncomputable def safe_PlusS.f (a b : Int) : Option (Int × Int) := Go.Proofs.Ytepmnfjcmppghaa.Sp.need (Go.Proofs.Ytepmnfjcmppghaa.Sp.I a ∧ Go.Proofs.Ytepmnfjcmppghaa.Sp.I b) (Go.Proofs.Ytepmnfjcmppghaa.Sp.fit (a + b))
section SafePlus
open Go.Proofs.Ytepmnfjcmppghaa.Sp
theorem safe_Plus.main {a b : Int} (h1 : I a) (h2 : I b) : safe_Plus.f a b = fit (a + b) := by
 unfold safe_Plus.f fit
 by_cases c : I (a + b)
 ·rw [if_pos c, w64 c]
  by_cases ha : a ≥ 0 <;> by_cases hb : b ≥ 0
  ·have : a + b ≥ 0 := by omega
   simp [ha, hb, this]
  ·simp [ha, hb]
  ·simp [ha, hb]
  ·have : ¬ a + b ≥ 0 := by omega
   simp [ha, hb, this]
 ·rw [if_neg c]
  by_cases ha : a ≥ 0
  ·have hb : b ≥ 0 := by omega
   have hw : ¬ wrap64 (a + b) ≥ 0 := by unfold wrap64; omega
   simp [ha, hb, hw]
  ·have hb : ¬ b ≥ 0 := by omega
   have hw : wrap64 (a + b) ≥ 0 := by unfold wrap64; omega
   simp [ha, hb, hw]
end SafePlus
theorem safe_PlusS.calls (a0 a1 r1 r2 : Int) (w : World) (h : safe_PlusS.f a0 a1 = some (r1, r2)) :
  Calls Try.prog 44 #[.int .i64 a0, .int .i64 a1] w fun e w' => e = .returned (.tuple #[.int .i64 r1, .int .i64 r2]) ∧ Drawn0 w w' := by
 obtain ⟨hc, h⟩ := Go.Proofs.Ytepmnfjcmppghaa.Sp.need_some h
 exact safe_Plus.calls a0 a1 r1 r2 w (by rw [safe_Plus.main hc.1 hc.2]; exact h)

/-! ### safe_Add: function 37 -/
noncomputable def safe_Add.f (a b : Int) : Option Int := Go.Proofs.Ytepmnfjcmppghaa.Sp.need (Go.Proofs.Ytepmnfjcmppghaa.Sp.I a ∧ Go.Proofs.Ytepmnfjcmppghaa.Sp.I b) (some (Go.Proofs.Ytepmnfjcmppghaa.Sp.near (a + b)))
theorem safe_Add.eq {a b : Int} (h1 : Go.Proofs.Ytepmnfjcmppghaa.Sp.I a) (h2 : Go.Proofs.Ytepmnfjcmppghaa.Sp.I b) : safe_Add.f a b = some (Go.Proofs.Ytepmnfjcmppghaa.Sp.near (a + b)) := Go.Proofs.Ytepmnfjcmppghaa.Sp.need_pos ⟨h1, h2⟩
theorem safe_PlusS.as {a b x y : Int} (h1 : Go.Proofs.Ytepmnfjcmppghaa.Sp.I a) (h2 : Go.Proofs.Ytepmnfjcmppghaa.Sp.I b) (h : Go.Proofs.Ytepmnfjcmppghaa.Sp.fit (a + b) = some (x, y)) : Aside0 (safe_PlusS.f a b = some (x, y)) := ⟨(Go.Proofs.Ytepmnfjcmppghaa.Sp.need_pos ⟨h1, h2⟩).trans h⟩
set_option maxHeartbeats 1000000 in
set_option maxRecDepth 100000 in
theorem safe_Add.calls (a0 a1 r : Int) (w : World) (h : safe_Add.f a0 a1 = some r) :
  Calls Try.prog 37 #[.int .i64 a0, .int .i64 a1] w fun e w' => e = .returned (.int .i64 r) ∧ Below w.heap.size w w' := by
 obtain ⟨hc, h⟩ := Go.Proofs.Ytepmnfjcmppghaa.Sp.need_some h
 obtain rfl := Option.some.inj h
 have hmf : ∀ (fn : Fn) (first cap : Array Value) (w : World), (Instr.makeFunc fn first cap).run Try.prog w = .ok (.func fn first cap) w := fun _ _ _ _ => rfl
 by_cases c : Go.Proofs.Ytepmnfjcmppghaa.Sp.I (a0 + a1)
 ·have HP := safe_PlusS.as hc.1 hc.2 (Go.Proofs.Ytepmnfjcmppghaa.Sp.fit_in c)
  rw [Go.Proofs.Ytepmnfjcmppghaa.Sp.near_in c]
  clear hc c
  go_enter Try.func37, Try.ntmps37
  go_wp2_with (first | (go_at_call 44; refine (safe_PlusS.calls a0 a1 _ _ _ HP.out).mono ?_; rintro e w' ⟨rfl, ⟨nd, rfl⟩⟩) | go_in)
  go_ret
  exact ⟨rfl, by repeat (first | exact Below.refl _ _ | apply below_alloc | apply pw_below_drewN)⟩
 ·have HP := safe_PlusS.as hc.1 hc.2 (Go.Proofs.Ytepmnfjcmppghaa.Sp.fit_out c)
  by_cases hn : a0 < 0
  ·have e0 : Go.Proofs.Ytepmnfjcmppghaa.Sp.near (a0 + a1) = -9223372036854775808 := Go.Proofs.Ytepmnfjcmppghaa.Sp.near_lo (by omega)
   rw [e0]
   have hd : decide (a0 < 0) = true := decide_eq_true hn
   clear hc c hn e0
   go_enter Try.func37, Try.ntmps37
   go_wp2_with (first | (go_at_call 44; refine (safe_PlusS.calls a0 a1 _ _ _ HP.out).mono ?_; rintro e w' ⟨rfl, ⟨nd, rfl⟩⟩) | go_in)
   go_ret
   exact ⟨rfl, by repeat (first | exact Below.refl _ _ | apply below_alloc | apply pw_below_drewN)⟩
  ·have e0 : Go.Proofs.Ytepmnfjcmppghaa.Sp.near (a0 + a1) = 9223372036854775807 := Go.Proofs.Ytepmnfjcmppghaa.Sp.near_hi (by omega)
   rw [e0]
   have hd : decide (a0 < 0) = false := decide_eq_false hn
   clear hc c hn e0
   go_enter Try.func37, Try.ntmps37
   go_wp2_with (first | (go_at_call 44; refine (safe_PlusS.calls a0 a1 _ _ _ HP.out).mono ?_; rintro e w' ⟨rfl, ⟨nd, rfl⟩⟩) | go_in)
   go_ret
   exact ⟨rfl, by repeat (first | exact Below.refl _ _ | apply below_alloc | apply pw_below_drewN)⟩

/-! ### reno_Step: function 23 -/
noncomputable def reno_Step.f (a0 : Int) (a1 : Int) (a2 : Int) (a3 : Int) : Option (Int) := (reno_Part.f a0 a1).bind fun bt301 => ((reno_between_int.f a0 0 68719476736).bind fun t303 => ((reno_between_int.f a2 65536 68719476736).bind fun t304 => ((reno_between_int.f a3 0 68719476736).bind fun t305 => ((frac_FloorS.f (wrap64 (t305 * bt301.1)) 65536 (wrap64 (t304 * bt301.2))).bind fun bt306 => ((safe_Add.f t303 bt306.1).bind fun t308 => ((reno_between_int.f t308 0 68719476736).bind fun t309 => (some t309)))))))
set_option maxHeartbeats 8000000 in
set_option maxRecDepth 100000 in
theorem reno_Step.calls (a0 : Int) (a1 : Int) (a2 : Int) (a3 : Int) (r : Int) (w : World) (h : reno_Step.f a0 a1 a2 a3 = some r) :
  Calls Try.prog 23 #[.int .i64 a0, .int .i64 a1, .int .i64 a2, .int .i64 a3] w fun e w' => e = .returned (.int .i64 r) ∧ Below w.heap.size w w' := by
 have HB := Aside0.mk (Below.refl w.heap.size w)
 have H : ((reno_Part.f a0 a1).bind fun bt301 => ((reno_between_int.f a0 0 68719476736).bind fun t303 => ((reno_between_int.f a2 65536 68719476736).bind fun t304 => ((reno_between_int.f a3 0 68719476736).bind fun t305 => ((frac_FloorS.f (wrap64 (t305 * bt301.1)) 65536 (wrap64 (t304 * bt301.2))).bind fun bt306 => ((safe_Add.f t303 bt306.1).bind fun t308 => ((reno_between_int.f t308 0 68719476736).bind fun t309 => (some t309)))))))) = some r := h
 clear h
 replace H := Option.bind_eq_some_iff.mp H
 obtain ⟨⟨t301, t302⟩, A50, H⟩ := H
 try dsimp only at H
 have A5 := Aside0.mk A50
 clear A50
 replace H := Option.bind_eq_some_iff.mp H
 obtain ⟨t303, A60, H⟩ := H
 try dsimp only at H
 have A6 := Aside0.mk A60
 clear A60
 replace H := Option.bind_eq_some_iff.mp H
 obtain ⟨t304, A70, H⟩ := H
 try dsimp only at H
 have A7 := Aside0.mk A70
 clear A70
 replace H := Option.bind_eq_some_iff.mp H
 obtain ⟨t305, A80, H⟩ := H
 try dsimp only at H
 have A8 := Aside0.mk A80
 clear A80
 replace H := Option.bind_eq_some_iff.mp H
 obtain ⟨⟨t306, t307⟩, A90, H⟩ := H
 replace H : ((safe_Add.f t303 t306).bind fun t308 => ((reno_between_int.f t308 0 68719476736).bind fun t309 => (some t309))) = some r := H
 have A9 := Aside0.mk A90
 clear A90
 replace H := Option.bind_eq_some_iff.mp H
 obtain ⟨t308, A100, H⟩ := H
 replace H : ((reno_between_int.f t308 0 68719476736).bind fun t309 => (some t309)) = some r := H
 have A10 := Aside0.mk A100
 clear A100
 replace H := Option.bind_eq_some_iff.mp H
 obtain ⟨t309, A110, H⟩ := H
 replace H : (some t309) = some r := H
 have A11 := Aside0.mk A110
 clear A110
 obtain rfl := Option.some.inj H
 go_enter Try.func23, Try.ntmps23
 go_wp2_with (first | ((with_reducible refine gate_callee (f := 22) rfl ?_); refine goesL_ (some 16) rfl rfl Try.func22 (by kernel_rfl) rfl #[.int .i64 a0, .int .i64 a1] rfl (by (try simp only [List.map_toArray, List.map_cons, List.map_nil]); first | done | rfl | (simp only [List.length_drop, List.length_take]; rfl)) ?_; (with_reducible refine (reno_Part.calls a0 a1 t301 t302 _ A5.out).mono ?_); rintro e w' ⟨rfl, ⟨nd, rfl⟩⟩; refine ⟨_, rfl, ?_⟩) | ((with_reducible refine gate_callee (f := 35) rfl ?_); refine goesL_ (some 20) rfl rfl Try.func35 (by kernel_rfl) rfl #[.int .i64 a0, .int .i64 0, .int .i64 68719476736] rfl (by (try simp only [List.map_toArray, List.map_cons, List.map_nil]); first | done | rfl | (simp only [List.length_drop, List.length_take]; rfl)) ?_; (with_reducible refine (reno_between_int.calls a0 0 68719476736 t303 _ A6.out).mono ?_); rintro e w12 ⟨rfl, hb⟩; refine ⟨_, rfl, ?_⟩; replace HB := Aside0.mk (below_step (by repeat (first | (with_reducible first | exact HB.out | apply below_alloc | apply pw_below_drewN | apply below_drew1) | exact HB.out)) hb); (try clear hb); (try clear hb2); (try clear hk); (try clear hi)) | ((with_reducible refine gate_callee (f := 35) rfl ?_); refine goesL_ (some 22) rfl rfl Try.func35 (by kernel_rfl) rfl #[.int .i64 a2, .int .i64 65536, .int .i64 68719476736] rfl (by (try simp only [List.map_toArray, List.map_cons, List.map_nil]); first | done | rfl | (simp only [List.length_drop, List.length_take]; rfl)) ?_; (with_reducible refine (reno_between_int.calls a2 65536 68719476736 t304 _ A7.out).mono ?_); rintro e w13 ⟨rfl, hb⟩; refine ⟨_, rfl, ?_⟩; replace HB := Aside0.mk (below_step (by repeat (first | (with_reducible first | exact HB.out | apply below_alloc | apply pw_below_drewN | apply below_drew1) | exact HB.out)) hb); (try clear hb); (try clear hb2); (try clear hk); (try clear hi)) | ((with_reducible refine gate_callee (f := 35) rfl ?_); refine goesL_ (some 24) rfl rfl Try.func35 (by kernel_rfl) rfl #[.int .i64 a3, .int .i64 0, .int .i64 68719476736] rfl (by (try simp only [List.map_toArray, List.map_cons, List.map_nil]); first | done | rfl | (simp only [List.length_drop, List.length_take]; rfl)) ?_; (with_reducible refine (reno_between_int.calls a3 0 68719476736 t305 _ A8.out).mono ?_); rintro e w14 ⟨rfl, hb⟩; refine ⟨_, rfl, ?_⟩; replace HB := Aside0.mk (below_step (by repeat (first | (with_reducible first | exact HB.out | apply below_alloc | apply pw_below_drewN | apply below_drew1) | exact HB.out)) hb); (try clear hb); (try clear hb2); (try clear hk); (try clear hi)) | ((with_reducible refine gate_callee (f := 36) rfl ?_); refine goesL_ (some 32) rfl rfl Try.func36 (by kernel_rfl) rfl #[.int .i64 (wrap64 (t305 * t301)), .int .i64 65536, .int .i64 (wrap64 (t304 * t302))] rfl (by (try simp only [List.map_toArray, List.map_cons, List.map_nil]); first | done | rfl | (simp only [List.length_drop, List.length_take]; rfl)) ?_; (with_reducible refine (frac_FloorS.calls (wrap64 (t305 * t301)) 65536 (wrap64 (t304 * t302)) t306 t307 _ A9.out).mono ?_); rintro e w15 ⟨rfl, hb⟩; refine ⟨_, rfl, ?_⟩; replace HB := Aside0.mk (below_step (by repeat (first | (with_reducible first | exact HB.out | apply below_alloc | apply pw_below_drewN | apply below_drew1) | exact HB.out)) hb); (try clear hb); (try clear hb2); (try clear hk); (try clear hi)) | ((with_reducible refine gate_callee (f := 37) rfl ?_); refine goesL_ (some 37) rfl rfl Try.func37 (by kernel_rfl) rfl #[.int .i64 t303, .int .i64 t306] rfl (by (try simp only [List.map_toArray, List.map_cons, List.map_nil]); first | done | rfl | (simp only [List.length_drop, List.length_take]; rfl)) ?_; (with_reducible refine (safe_Add.calls t303 t306 t308 _ A10.out).mono ?_); rintro e w16 ⟨rfl, hb⟩; refine ⟨_, rfl, ?_⟩; replace HB := Aside0.mk (below_step (by repeat (first | (with_reducible first | exact HB.out | apply below_alloc | apply pw_below_drewN | apply below_drew1) | exact HB.out)) hb); (try clear hb); (try clear hb2); (try clear hk); (try clear hi)) | ((with_reducible refine gate_callee (f := 35) rfl ?_); refine goesL_ (some 38) rfl rfl Try.func35 (by kernel_rfl) rfl #[.int .i64 t308, .int .i64 0, .int .i64 68719476736] rfl (by (try simp only [List.map_toArray, List.map_cons, List.map_nil]); first | done | rfl | (simp only [List.length_drop, List.length_take]; rfl)) ?_; (with_reducible refine (reno_between_int.calls t308 0 68719476736 t309 _ A11.out).mono ?_); rintro e w17 ⟨rfl, hb⟩; refine ⟨_, rfl, ?_⟩; replace HB := Aside0.mk (below_step (by repeat (first | (with_reducible first | exact HB.out | apply below_alloc | apply pw_below_drewN | apply below_drew1) | exact HB.out)) hb); (try clear hb); (try clear hb2); (try clear hk); (try clear hi)))
 go_ret
 exact ⟨by first | rfl | (simp [errW_none, errW_some] <;> rfl) | (simp [*, errW_none, errW_some] <;> rfl), by repeat (first | (with_reducible first | exact HB.out | apply below_alloc | apply pw_below_drewN | apply below_drew1) | exact HB.out)⟩

/-! ### reno_StepS: pure, behind function 23 -/
noncomputable def reno_StepS.f (a b c d : Int) : Option Int := Go.Proofs.Ytepmnfjcmppghaa.Sp.need (Go.Proofs.Ytepmnfjcmppghaa.Sp.I a ∧ Go.Proofs.Ytepmnfjcmppghaa.Sp.I b ∧ Go.Proofs.Ytepmnfjcmppghaa.Sp.I c ∧ Go.Proofs.Ytepmnfjcmppghaa.Sp.I d) (some (Go.Proofs.Ytepmnfjcmppghaa.Sp.stepQ a b c d))
theorem reno_StepS.eq {a b c d : Int} (h1 : Go.Proofs.Ytepmnfjcmppghaa.Sp.I a) (h2 : Go.Proofs.Ytepmnfjcmppghaa.Sp.I b) (h3 : Go.Proofs.Ytepmnfjcmppghaa.Sp.I c) (h4 : Go.Proofs.Ytepmnfjcmppghaa.Sp.I d) : reno_StepS.f a b c d = some (Go.Proofs.Ytepmnfjcmppghaa.Sp.stepQ a b c d) := Go.Proofs.Ytepmnfjcmppghaa.Sp.need_pos ⟨h1, h2, h3, h4⟩
section
open Go.Proofs.Ytepmnfjcmppghaa.Sp
theorem reno_Step.main {a b c d : Int} (h1 : Go.Proofs.Ytepmnfjcmppghaa.Sp.I a) (h2 : Go.Proofs.Ytepmnfjcmppghaa.Sp.I b) (h3 : Go.Proofs.Ytepmnfjcmppghaa.Sp.I c) (h4 : Go.Proofs.Ytepmnfjcmppghaa.Sp.I d) : reno_Step.f a b c d = some (Go.Proofs.Ytepmnfjcmppghaa.Sp.stepQ a b c d) := by
 unfold reno_Step.f reno_Part.f reno_between_int.f stepQ
 have e0 : ∀ x l u : Int, l ≤ u → mn (mx x l) u = clamp x l u := by
  intro x l u h; unfold mn mx clamp; split <;> split <;> (try split) <;> omega
 simp only [Option.bind_some, e0 _ 0 68719476736 (by omega), e0 _ 65536 68719476736 (by omega)]
 have b1 := clamp_bd (a := a) (low := 0) (high := 68719476736) (by omega)
 have b2 := clamp_bd (a := c) (low := 65536) (high := 68719476736) (by omega)
 have b3 := clamp_bd (a := d) (low := 0) (high := 68719476736) (by omega)
 generalize clamp a 0 68719476736 = x at b1 ⊢
 generalize clamp c 65536 68719476736 = y at b2 ⊢
 generalize clamp d 0 68719476736 = z at b3 ⊢
 have key : ∀ p q : Int, 1 ≤ p → p ≤ 9 → 1 ≤ q → q ≤ 17 → I (z * p) ∧ I (y * q) ∧ 0 < y * q ∧ I (z * p * 65536 / (y * q)) ∧ I (x + z * p * 65536 / (y * q)) := by
  intro p q hp1 hp2 hq1 hq2
  have m1 : 0 ≤ z * p := Int.mul_nonneg (by omega) (by omega)
  have m2 : z * p ≤ 68719476736 * 9 := Int.mul_le_mul (by omega) (by omega) (by omega) (by omega)
  have m3 : 65536 * 1 ≤ y * q := Int.mul_le_mul (by omega) (by omega) (by omega) (by omega)
  have m4 : y * q ≤ 68719476736 * 17 := Int.mul_le_mul (by omega) (by omega) (by omega) (by omega)
  generalize z * p = u at *
  generalize y * q = v at *
  have d1 : 0 ≤ u * 65536 / v := Int.ediv_nonneg (by omega) (by omega)
  have d2 : u * 65536 / v ≤ u := by
   apply Int.ediv_le_of_le_mul (by omega)
   exact Int.mul_le_mul_of_nonneg_left (by omega) (by omega)
  omega
 have fin : ∀ p q : Int, I (z * p) ∧ I (y * q) ∧ 0 < y * q ∧ I (z * p * 65536 / (y * q)) ∧ I (x + z * p * 65536 / (y * q)) → ((frac_FloorS.f (wrap64 (z * p)) 65536 (wrap64 (y * q))).bind fun bt => (safe_Add.f x bt.1).bind fun t => some (clamp t 0 68719476736)) = some (clamp (x + z * p * 65536 / (y * q)) 0 68719476736) := by
  intro p q ⟨k1, k2, k3, k4, k5⟩
  rw [w64 k1, w64 k2, frac_FloorS.eq k1 (by omega) k2, floorQ_in k3 k4]
  simp only [Option.bind_some]
  rw [safe_Add.eq (by omega) k4, near_in k5]
  rfl
 by_cases c : a < b
 ·simp only [if_pos c]
  exact fin 9 17 (key 9 17 (by omega) (by omega) (by omega) (by omega))
 ·simp only [if_neg c]
  exact fin 1 1 (key 1 1 (by omega) (by omega) (by omega) (by omega))
end
theorem reno_StepS.calls (a b c d r : Int) (w : World) (h : reno_StepS.f a b c d = some r) :
  Calls Try.prog 23 #[.int .i64 a, .int .i64 b, .int .i64 c, .int .i64 d] w fun e w' => e = .returned (.int .i64 r) ∧ Below w.heap.size w w' := by
 obtain ⟨hc, h⟩ := Go.Proofs.Ytepmnfjcmppghaa.Sp.need_some h
 obtain ⟨h1, h2, h3, h4⟩ := hc
 exact reno_Step.calls a b c d r w (by rw [reno_Step.main h1 h2 h3 h4]; exact h)

/-! ### reno_Steps: function 25 -/
noncomputable def reno_Steps.l0 : Nat → Int → Int → Int → List Int → Int → Int → Option (Int)
 | 0, _, _, _, _, _, _ => none
 | k + 1, x0, x1, x2, x11, x12, x13 => if x13 < x12 then (if 0 ≤ x13 then (if x13 < (x11.length : Int) then ((reno_StepS.f x0 x1 x2 (rd x11 x13)).bind fun t311 => (reno_Steps.l0 k t311 x1 x2 x11 x12 (wrap64 (x13 + 1)))) else (none)) else (none)) else (some x0)
noncomputable def reno_Steps.f (k : Nat) (a0 : Int) (a1 : Int) (a2 : Int) (l3 : List Int) : Option (Int) := reno_Steps.l0 k a0 a1 a2 l3 (l3.length : Int) 0
theorem reno_Steps.mono_l : ∀ k, (∀ y0 y1 y2 y3 y4 y5, LeO (reno_Steps.l0 k y0 y1 y2 y3 y4 y5) (reno_Steps.l0 (k + 1) y0 y1 y2 y3 y4 y5))
 | 0 => fun _ _ _ _ _ _ r h => by simp [reno_Steps.l0] at h
 | k + 1 => by
  have ih0 := reno_Steps.mono_l k
  ·intro y0 y1 y2 y3 y4 y5
   unfold reno_Steps.l0
   repeat' first
   | (with_reducible exact ih0 _ _ _ _ _ _)
   | (with_reducible exact LeO.refl _)
   | (with_reducible exact LeO.none _)
   | (with_reducible refine LeO.ite ?_ ?_)
   | (with_reducible refine LeO.bind ?_ (fun _ => ?_))
   | exact ih0 _ _ _ _ _ _
   | exact LeO.none _
   | refine LeO.ite ?_ ?_
   | refine LeO.bind ?_ (fun _ => ?_)
theorem reno_Steps.mono : ∀ a0 a1 a2 a3 k, LeO (reno_Steps.f k a0 a1 a2 a3) (reno_Steps.f (k + 1) a0 a1 a2 a3) := by
 intro a0 a1 a2 a3 k
 have ih0 := reno_Steps.mono_l k
 unfold reno_Steps.f
 repeat' first
   | (with_reducible exact ih0 _ _ _ _ _ _)
   | (with_reducible exact LeO.refl _)
   | (with_reducible exact LeO.none _)
   | (with_reducible refine LeO.ite ?_ ?_)
   | (with_reducible refine LeO.bind ?_ (fun _ => ?_))
   | exact ih0 _ _ _ _ _ _
   | exact LeO.none _
   | refine LeO.ite ?_ ?_
   | refine LeO.bind ?_ (fun _ => ?_)
set_option maxHeartbeats 8000000 in
set_option maxRecDepth 100000 in
theorem reno_Steps.calls (k : Nat) (a0 : Int) (a1 : Int) (a2 : Int) (A3 : Option Addr) (c3 : Nat) (l3 : List Int) (r : Int) (w : World) (hr3 : Kd.C (Kd.int .i64) w A3 l3.length l3) (hc3 : l3.length ≤ c3) (h : reno_Steps.f k a0 a1 a2 l3 = some r) :
  Calls Try.prog 25 #[.int .i64 a0, .int .i64 a1, .int .i64 a2, .slice A3 l3.length c3] w fun e w' => e = .returned (.int .i64 r) ∧ Below w.heap.size w w' := by
 have HR3 := Aside0.mk hr3
 have HC3 := Aside0.mk hc3
 clear hr3 hc3
 have HB := Aside0.mk (Below.refl w.heap.size w)
 have H : (reno_Steps.l0 k a0 a1 a2 l3 (l3.length : Int) 0) = some r := h
 clear h
 have H' := Aside0.mk H
 clear H
 go_enter Try.func25, Try.ntmps25
 go_wp2
 go_loopg [0, 13] k (fun kq v0 v13 w' => ∃ (x0_1 : Int) (x13_1 : Int), v0 = .int .i64 x0_1 ∧ v13 = .int .i64 x13_1 ∧ Aside0 (reno_Steps.l0 kq x0_1 a1 a2 l3 (l3.length : Int) x13_1 = some r) ∧ Aside0 (kq ≤ k) ∧ Aside0 (Below w.heap.size w w'))
 case atStart => exact ⟨(a0), (0), (by first | rfl | (simp; done) | (simp [*]; done)), (by first | rfl | (simp; done) | (simp [*]; done)), H', ⟨Nat.le_refl _⟩, ⟨by repeat (first | (with_reducible first | exact HB.out | apply below_alloc | apply pw_below_drewN | apply below_drew1) | exact HB.out)⟩⟩
 case round =>
  clear H'
  try clear c2
  try clear p2
  try clear c3
  obtain ⟨x0_1, x13_1, rfl, rfl, HA, HK1, HB⟩ := hrel
  cases gk with
  | zero => exact absurd HA.out (by simp [reno_Steps.l0])
  | succ k1 =>
   have H := HA.out
   clear HA
   simp only [reno_Steps.l0] at H
   by_cases c5 : x13_1 < (l3.length : Int)
   ·rw [if_pos c5] at H
    have c5b0 : decide (x13_1 < (l3.length : Int)) = true := decide_eq_true c5
    clear c5
    by_cases c6 : 0 ≤ x13_1
    ·rw [if_pos c6] at H
     have c6b0 : decide (0 ≤ x13_1) = true := decide_eq_true c6
     clear c6
     by_cases c7 : x13_1 < (l3.length : Int)
     ·rw [if_pos c7] at H
      have c7b0 : decide (x13_1 < (l3.length : Int)) = true := decide_eq_true c7
      clear c7
      replace H := Option.bind_eq_some_iff.mp H
      obtain ⟨t311, A80, H⟩ := H
      replace H : (reno_Steps.l0 k1 t311 a1 a2 l3 (l3.length : Int) (wrap64 (x13_1 + 1))) = some r := H
      have A8 := Aside0.mk A80
      clear A80
      have H' := Aside0.mk H
      clear H
      have p310 : 0 ≤ (x13_1 : Int) := of_decide_eq_true (by first | (with_reducible assumption) | assumption)
      have q310 : x13_1 < (l3.length : Int) := of_decide_eq_true (by first | (with_reducible assumption) | assumption)
      obtain ⟨ad310, e310, hx310_0⟩ := Kd.at_int HR3.out x13_1 p310 q310
      cases e310
      replace hx310_0 := (HB.out.cell (World.block_lt_of_cell? w _ hx310_0)).trans hx310_0
      replace p310 := eq_true p310
      replace q310 := eq_true q310
      go_wp2_with (first | ((with_reducible refine gate_callee (f := 23) rfl ?_); refine goesL_ (some 21) rfl rfl Try.func23 (by kernel_rfl) rfl #[.int .i64 x0_1, .int .i64 a1, .int .i64 a2, .int .i64 (rd l3 x13_1)] rfl (by (try simp only [List.map_toArray, List.map_cons, List.map_nil]); first | done | rfl | (simp only [List.length_drop, List.length_take]; rfl)) ?_; (with_reducible refine (reno_StepS.calls x0_1 a1 a2 (rd l3 x13_1) t311 _ A8.out).mono ?_); rintro e w9 ⟨rfl, hb⟩; refine ⟨_, rfl, ?_⟩; replace HB := Aside0.mk (below_step (by repeat (first | (with_reducible first | exact HB.out | apply below_alloc | apply pw_below_drewN | apply below_drew1) | exact HB.out)) hb); (try clear hb); (try clear hb2); (try clear hk); (try clear hi)))
      go_roundg k1
      case measure => have := HK1.out; omega
      case rel => exact ⟨(t311), (wrap64 (x13_1 + 1)), (by first | rfl | (simp; done) | (simp [*]; done)), (by first | rfl | (simp; done) | (simp [*]; done)), H', ⟨by have := HK1.out; omega⟩, ⟨by repeat (first | (with_reducible first | exact HB.out | apply below_alloc | apply pw_below_drewN | apply below_drew1) | exact HB.out)⟩⟩
     ·rw [if_neg c7] at H
      exact absurd H (by simp)
    ·rw [if_neg c6] at H
     exact absurd H (by simp)
   ·rw [if_neg c5] at H
    have c5b0 : decide (x13_1 < (l3.length : Int)) = false := decide_eq_false c5
    clear c5
    obtain rfl := Option.some.inj H
    go_wp2
    go_ret
    exact ⟨by first | rfl | (simp [errW_none, errW_some] <;> rfl) | (simp [*, errW_none, errW_some] <;> rfl), by repeat (first | (with_reducible first | exact HB.out | apply below_alloc | apply pw_below_drewN | apply below_drew1) | exact HB.out)⟩

/-! ### reno_StepsS: pure, behind function 25 -/
noncomputable def reno_StepsS.f (a b c : Int) (l : List Int) : Option Int := Go.Proofs.Ytepmnfjcmppghaa.Sp.need (Go.Proofs.Ytepmnfjcmppghaa.Sp.I a ∧ Go.Proofs.Ytepmnfjcmppghaa.Sp.I b ∧ Go.Proofs.Ytepmnfjcmppghaa.Sp.I c ∧ (∀ x ∈ l, Go.Proofs.Ytepmnfjcmppghaa.Sp.I x) ∧ l.length < 1000000000000000000) (some (Go.Proofs.Ytepmnfjcmppghaa.Sp.stepsQ a b c l))
theorem reno_StepsS.eq {a b c : Int} {l : List Int} (h1 : Go.Proofs.Ytepmnfjcmppghaa.Sp.I a) (h2 : Go.Proofs.Ytepmnfjcmppghaa.Sp.I b) (h3 : Go.Proofs.Ytepmnfjcmppghaa.Sp.I c) (h4 : ∀ x ∈ l, Go.Proofs.Ytepmnfjcmppghaa.Sp.I x) (h5 : l.length < 1000000000000000000) : reno_StepsS.f a b c l = some (Go.Proofs.Ytepmnfjcmppghaa.Sp.stepsQ a b c l) := Go.Proofs.Ytepmnfjcmppghaa.Sp.need_pos ⟨h1, h2, h3, h4, h5⟩
section RenoSteps
open Go.Proofs.Ytepmnfjcmppghaa.Sp
theorem reno_stepsQ_nil (e p w : Int) : stepsQ e p w [] = e := rfl
theorem reno_stepsQ_cons (e p w x : Int) (l : List Int) : stepsQ e p w (x :: l) = stepsQ (stepQ e p w x) p w l := rfl
theorem reno_Steps.stop {e b c : Int} {l : List Int} {n i : Int} (k : Nat) (h : ¬ i < n) : reno_Steps.l0 (k + 1) e b c l n i = some e := by
 rw [reno_Steps.l0, if_neg h]
theorem reno_Steps.step {e b c x : Int} {l : List Int} {n i : Int} (k : Nat) (h : i < n) (h0 : 0 ≤ i) (h1 : i < (l.length : Int)) (hx : rd l i = x) {y : Int} (hy : reno_StepS.f e b c x = some y) : reno_Steps.l0 (k + 1) e b c l n i = reno_Steps.l0 k y b c l n (wrap64 (i + 1)) := by
 rw [reno_Steps.l0, if_pos h, if_pos h0, if_pos h1, hx, hy, Option.bind_some]
theorem reno_Steps.main {b c : Int} {l : List Int} (h2 : I b) (h3 : I c) (h4 : ∀ x ∈ l, I x) (h5 : l.length < 1000000000000000000) (k : Nat) :
  ∀ (i : Nat), i + k = l.length → ∀ e, I e → reno_Steps.l0 (k + 1) e b c l (l.length : Int) (i : Int) = some (stepsQ e b c (l.drop i)) := by
 induction k with
 | zero =>
  intro i hi e he
  rw [reno_Steps.stop 0 (by omega), List.drop_eq_nil_of_le (by omega), reno_stepsQ_nil]
 | succ k ih =>
  intro i hi e he
  have hl : i < l.length := by omega
  have hx : rd l (i : Int) = l[i] := by simp [rd, hl]
  have hs := stepQ_bd e b c l[i]
  have hr := ih (i + 1) (by omega) (stepQ e b c l[i]) (by omega)
  have hw : wrap64 ((i : Int) + 1) = ((i + 1 : Nat) : Int) := by rw [w64 (by omega)]; omega
  rw [reno_Steps.step (k + 1) (by omega) (by omega) (by omega) hx (reno_StepS.eq he h2 h3 (h4 _ (List.getElem_mem hl))), hw, hr, List.drop_eq_getElem_cons hl, reno_stepsQ_cons]
end RenoSteps
theorem reno_StepsS.calls (a0 : Int) (a1 : Int) (a2 : Int) (A3 : Option Addr) (c3 : Nat) (l3 : List Int) (r : Int) (w : World) (hr3 : Kd.C (Kd.int .i64) w A3 l3.length l3) (hc3 : l3.length ≤ c3) (h : reno_StepsS.f a0 a1 a2 l3 = some r) :
 Calls Try.prog 25 #[.int .i64 a0, .int .i64 a1, .int .i64 a2, .slice A3 l3.length c3] w fun e w' => e = .returned (.int .i64 r) ∧ Below w.heap.size w w' := by
 obtain ⟨⟨h1, h2, h3, h4, h5⟩, h⟩ := Go.Proofs.Ytepmnfjcmppghaa.Sp.need_some h
 refine reno_Steps.calls (l3.length + 1) a0 a1 a2 A3 c3 l3 r w hr3 hc3 ?_
 have := reno_Steps.main h2 h3 h4 h5 l3.length 0 (by omega) a0 h1
 rw [List.drop_zero] at this
 unfold reno_Steps.f
 exact this.trans h

end Go.Proofs.Ytepmnfjcmppghaa.Px
