/- Printed by a program of this session (wip/tool/px.py), over the kit's print: for each Go function a Lean function, and the proof that the machine's call answers as that function says. Conditions: none beside what the theorems state. -/
import Derived.Test.YtepmnfjcmppghaaPx0
import Derived.Test.YtepmnfjcmppghaaPx31
namespace Go.Proofs.Ytepmnfjcmppghaa.Px
open Go.RowKit Go.Proofs.YtepmnfjcmppghaaW.PrintWords Go.Proofs.YtepmnfjcmppghaaW.PrintLast Go.Proofs.YtepmnfjcmppghaaW.PrintMore
attribute [local go_sem] max2_int min2_int max_two min_two max_three min_three max_four min_four   -- for this text's walks alone
set_option linter.unusedVariables false
set_option linter.unusedSimpArgs false

/-! ### epoch_Fast: function 27 -/
noncomputable def epoch_Fast.f (a0 : Int) (a1 : Int) : Option (Int) := if a1 ≥ a0 then (some a1) else ((frac_FloorS.f (mx a1 0) 17 20).bind fun bt244 => (some bt244.1))
set_option maxHeartbeats 8000000 in
set_option maxRecDepth 100000 in
theorem epoch_Fast.calls (a0 : Int) (a1 : Int) (r : Int) (w : World) (h : epoch_Fast.f a0 a1 = some r) :
  Calls Try.prog 27 #[.int .i64 a0, .int .i64 a1] w fun e w' => e = .returned (.int .i64 r) ∧ Below w.heap.size w w' := by
 have HB := Aside0.mk (Below.refl w.heap.size w)
 have H : (if a1 ≥ a0 then (some a1) else ((frac_FloorS.f (mx a1 0) 17 20).bind fun bt244 => (some bt244.1))) = some r := h
 clear h
 by_cases c3 : a1 ≥ a0
 ·rw [if_pos c3] at H
  have c3b0 : decide (a0 ≤ a1) = true := decide_eq_true c3
  clear c3
  obtain rfl := Option.some.inj H
  go_enter Try.func27, Try.ntmps27
  go_wp2
  go_ret
  exact ⟨by first | rfl | (simp [errW_none, errW_some] <;> rfl) | (simp [*, errW_none, errW_some] <;> rfl), by repeat (first | (with_reducible first | exact HB.out | apply below_alloc | apply pw_below_drewN | apply below_drew1) | exact HB.out)⟩
 ·rw [if_neg c3] at H
  have c3b0 : decide (a0 ≤ a1) = false := decide_eq_false c3
  clear c3
  obtain ⟨ji4, hji4⟩ : ∃ j_ : Int, (mx a1 0) = j_ := ⟨_, rfl⟩
  replace H : ((frac_FloorS.f (ji4) 17 20).bind fun bt244 => (some bt244.1)) = some r := by first | (rw [hji4] at H; exact H) | (simp only [hji4] at H ⊢; exact H)
  (try (have hji4l : 0 ≤ ji4 := by (rw [← hji4]; unfold mx; (repeat' split) <;> omega)))
  (try (have hji4m : 0 ≤ ji4 := by omega))
  have hji4_ : (if a1 < 0 then 0 else a1) = ji4 := hji4
  replace H := Option.bind_eq_some_iff.mp H
  obtain ⟨⟨t244, t245⟩, A50, H⟩ := H
  replace H : (some t244) = some r := H
  have A5 := Aside0.mk A50
  clear A50
  obtain rfl := Option.some.inj H
  go_enter Try.func27, Try.ntmps27
  go_wp2_with (first | ((with_reducible refine gate_callee (f := 36) rfl ?_); refine goesL_ (some 14) rfl rfl Try.func36 (by kernel_rfl) rfl #[.int .i64 ji4, .int .i64 17, .int .i64 20] rfl (by (try simp only [List.map_toArray, List.map_cons, List.map_nil]); first | done | (simp only [hji4]; rfl) | rfl | (simp only [List.length_drop, List.length_take]; rfl)) ?_; (with_reducible refine (frac_FloorS.calls ji4 17 20 t244 t245 _ A5.out).mono ?_); rintro e w6 ⟨rfl, hb⟩; refine ⟨_, rfl, ?_⟩; replace HB := Aside0.mk (below_step (by repeat (first | (with_reducible first | exact HB.out | apply below_alloc | apply pw_below_drewN | apply below_drew1) | exact HB.out)) hb); (try clear hb); (try clear hb2); (try clear hk); (try clear hi)))
  go_ret
  exact ⟨by first | rfl | (simp [errW_none, errW_some] <;> rfl) | (simp only [← hji4]; first | rfl | (simp [errW_none, errW_some] <;> rfl)) | (simp [*, errW_none, errW_some] <;> rfl), by repeat (first | (with_reducible first | exact HB.out | apply below_alloc | apply pw_below_drewN | apply below_drew1) | exact HB.out)⟩

end Go.Proofs.Ytepmnfjcmppghaa.Px
