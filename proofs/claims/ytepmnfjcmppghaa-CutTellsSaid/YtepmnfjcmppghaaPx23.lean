/- Printed by a program of this session (wip/tool/px.py), over the kit's print: for each Go function a Lean function, and the proof that the machine's call answers as that function says. Conditions: none beside what the theorems state. -/
import Derived.Test.YtepmnfjcmppghaaPx0
import Derived.Test.YtepmnfjcmppghaaPx3
import Derived.Test.YtepmnfjcmppghaaPx22
import Derived.Test.YtepmnfjcmppghaaSpec
namespace Go.Proofs.Ytepmnfjcmppghaa.Px
open Go.RowKit Go.Proofs.YtepmnfjcmppghaaW.PrintWords Go.Proofs.YtepmnfjcmppghaaW.PrintLast Go.Proofs.YtepmnfjcmppghaaW.PrintMore
attribute [local go_sem] max2_int min2_int max_two min_two max_three min_three max_four min_four   -- for this text's walks alone
set_option linter.unusedVariables false
set_option linter.unusedSimpArgs false

/-! ### epoch_Fast: function 27 -/
noncomputable def epoch_Fast.f (a0 : Int) (a1 : Int) : Option (Int) := if a1 ≥ a0 then (some a1) else ((frac_FloorS.f (mx a1 0) 17 20).bind fun bt244 => (some bt244.1))
set_option maxHeartbeats 8000000 in
set_option maxRecDepth 100000 in
theorem epoch_Fast.calls (a0 : Int) (a1 : Int) (r : Int) (w : World) (h : epoch_Fast.f a0 a1 = some r) :
  Calls Try.prog 27 #[.int .i64 a0, .int .i64 a1] w fun e w' => e = .returned (.int .i64 r) ∧ Below w.heap.size w w' := by
 have HB := Aside0.mk (Below.refl w.heap.size w); have H : (if a1 ≥ a0 then (some a1) else ((frac_FloorS.f (mx a1 0) 17 20).bind fun bt244 => (some bt244.1))) = some r := h; clear h
 by_cases c3 : a1 ≥ a0
 ·rw [if_pos c3] at H
  have c3b0 : decide (a0 ≤ a1) = true := decide_eq_true c3; clear c3; obtain rfl := Option.some.inj H
  go_enter Try.func27, Try.ntmps27
  go_wp2
  go_ret
  exact ⟨by first | rfl | (simp [errW_none, errW_some] <;> rfl) | (simp [*, errW_none, errW_some] <;> rfl), by repeat (first | (with_reducible first | exact HB.out | apply below_alloc | apply pw_below_drewN | apply below_drew1) | exact HB.out)⟩
 ·rw [if_neg c3] at H
  have c3b0 : decide (a0 ≤ a1) = false := decide_eq_false c3; clear c3
  obtain ⟨ji4, hji4⟩ : ∃ j_ : Int, (mx a1 0) = j_ := ⟨_, rfl⟩
  replace H : ((frac_FloorS.f (ji4) 17 20).bind fun bt244 => (some bt244.1)) = some r := by first | (rw [hji4] at H; exact H) | (simp only [hji4] at H ⊢; exact H)
  (try (have hji4l : 0 ≤ ji4 := by (rw [← hji4]; unfold mx; (repeat' split) <;> omega)))
  (try (have hji4m : 0 ≤ ji4 := by omega))
  have hji4_ : (if a1 < 0 then 0 else a1) = ji4 := hji4; replace H := Option.bind_eq_some_iff.mp H; obtain ⟨⟨t244, t245⟩, A50, H⟩ := H; replace H : (some t244) = some r := H; have A5 := Aside0.mk A50; clear A50; obtain rfl := Option.some.inj H
  go_enter Try.func27, Try.ntmps27
  go_wp2_with (first | ((with_reducible refine gate_callee (f := 36) rfl ?_); refine goesL_ (some 14) rfl rfl Try.func36 (by kernel_rfl) rfl #[.int .i64 ji4, .int .i64 17, .int .i64 20] rfl (by (try simp only [List.map_toArray, List.map_cons, List.map_nil]); first | done | (simp only [hji4]; rfl) | rfl | (simp only [List.length_drop, List.length_take]; rfl)) ?_; (with_reducible refine (frac_FloorS.calls ji4 17 20 t244 t245 _ A5.out).mono ?_); rintro e w6 ⟨rfl, hb⟩; refine ⟨_, rfl, ?_⟩; replace HB := Aside0.mk (below_step (by repeat (first | (with_reducible first | exact HB.out | apply below_alloc | apply pw_below_drewN | apply below_drew1) | exact HB.out)) hb); (try clear hb); (try clear hb2); (try clear hk); (try clear hi)))
  go_ret
  exact ⟨by first | rfl | (simp [errW_none, errW_some] <;> rfl) | (simp only [← hji4]; first | rfl | (simp [errW_none, errW_some] <;> rfl)) | (simp [*, errW_none, errW_some] <;> rfl), by repeat (first | (with_reducible first | exact HB.out | apply below_alloc | apply pw_below_drewN | apply below_drew1) | exact HB.out)⟩

/-! ### epoch_FastS: pure, behind function 27 -/
noncomputable def epoch_FastS.f (a b : Int) : Option Int := Go.Proofs.Ytepmnfjcmppghaa.Sp.need (Go.Proofs.Ytepmnfjcmppghaa.Sp.I a ∧ Go.Proofs.Ytepmnfjcmppghaa.Sp.I b) (some (Go.Proofs.Ytepmnfjcmppghaa.Sp.fastQ a b))
theorem epoch_FastS.eq {a b : Int} (h1 : Go.Proofs.Ytepmnfjcmppghaa.Sp.I a) (h2 : Go.Proofs.Ytepmnfjcmppghaa.Sp.I b) : epoch_FastS.f a b = some (Go.Proofs.Ytepmnfjcmppghaa.Sp.fastQ a b) := Go.Proofs.Ytepmnfjcmppghaa.Sp.need_pos ⟨h1, h2⟩
section
open Go.Proofs.Ytepmnfjcmppghaa.Sp
theorem epoch_Fast.main {a b : Int} (h1 : Go.Proofs.Ytepmnfjcmppghaa.Sp.I a) (h2 : Go.Proofs.Ytepmnfjcmppghaa.Sp.I b) : epoch_Fast.f a b = some (Go.Proofs.Ytepmnfjcmppghaa.Sp.fastQ a b) := by
 unfold epoch_Fast.f fastQ
 by_cases c : b ≥ a
 ·rw [if_pos c, if_pos c]
 ·rw [if_neg c, if_neg c]
  have e : mx b 0 = if b < 0 then 0 else b := rfl
  rw [e]
  have hm : 0 ≤ (if b < 0 then 0 else b) ∧ (if b < 0 then 0 else b) ≤ 9223372036854775807 := by split <;> omega
  generalize (if b < 0 then 0 else b) = m at hm ⊢
  rw [frac_FloorS.eq (by omega) (by omega) (by omega), floorQ_in (by omega) (by omega)]
  rfl
end
theorem epoch_FastS.calls (a b r : Int) (w : World) (h : epoch_FastS.f a b = some r) :
  Calls Try.prog 27 #[.int .i64 a, .int .i64 b] w fun e w' => e = .returned (.int .i64 r) ∧ Below w.heap.size w w' := by
 obtain ⟨hc, h⟩ := Go.Proofs.Ytepmnfjcmppghaa.Sp.need_some h; obtain ⟨h1, h2⟩ := hc; exact epoch_Fast.calls a b r w (by rw [epoch_Fast.main h1 h2]; exact h)

/-! ### cut_Loss: function 14 -/
noncomputable def cut_Loss.f (a0 : Int) (a1 : Int) : Option (Int × Int) := (cut_LeastS.f a0).bind fun t246 => ((cut_ofS.f a0).bind fun t247 => ((epoch_FastS.f a1 t247).bind fun t248 => (some (t246, t248))))
set_option maxHeartbeats 8000000 in
set_option maxRecDepth 100000 in
theorem cut_Loss.calls (a0 : Int) (a1 : Int) (r1 : Int) (r2 : Int) (w : World) (h : cut_Loss.f a0 a1 = some (r1, r2)) :
  Calls Try.prog 14 #[.int .i64 a0, .int .i64 a1] w fun e w' => e = .returned (.tuple #[.int .i64 r1, .int .i64 r2]) ∧ Below w.heap.size w w' := by
 have HB := Aside0.mk (Below.refl w.heap.size w); have H : ((cut_LeastS.f a0).bind fun t246 => ((cut_ofS.f a0).bind fun t247 => ((epoch_FastS.f a1 t247).bind fun t248 => (some (t246, t248))))) = some (r1, r2) := h; clear h; replace H := Option.bind_eq_some_iff.mp H; obtain ⟨t246, A30, H⟩ := H; replace H : ((cut_ofS.f a0).bind fun t247 => ((epoch_FastS.f a1 t247).bind fun t248 => (some (t246, t248)))) = some (r1, r2) := H; have A3 := Aside0.mk A30; clear A30; replace H := Option.bind_eq_some_iff.mp H; obtain ⟨t247, A40, H⟩ := H; replace H : ((epoch_FastS.f a1 t247).bind fun t248 => (some (t246, t248))) = some (r1, r2) := H; have A4 := Aside0.mk A40; clear A40; replace H := Option.bind_eq_some_iff.mp H; obtain ⟨t248, A50, H⟩ := H; replace H : (some (t246, t248)) = some (r1, r2) := H; have A5 := Aside0.mk A50; clear A50; simp only [Option.some.injEq, Prod.mk.injEq] at H; obtain ⟨rfl, rfl⟩ := H
 go_enter Try.func14, Try.ntmps14
 go_wp2_with (first | ((with_reducible refine gate_callee (f := 17) rfl ?_); refine goesL_ (some 7) rfl rfl Try.func17 (by kernel_rfl) rfl #[.int .i64 a0] rfl (by (try simp only [List.map_toArray, List.map_cons, List.map_nil]); first | done | rfl | (simp only [List.length_drop, List.length_take]; rfl)) ?_; (with_reducible refine (cut_LeastS.calls a0 t246 _ A3.out).mono ?_); rintro e w6 ⟨rfl, hb⟩; refine ⟨_, rfl, ?_⟩; replace HB := Aside0.mk (below_step (by repeat (first | (with_reducible first | exact HB.out | apply below_alloc | apply pw_below_drewN | apply below_drew1) | exact HB.out)) hb); (try clear hb); (try clear hb2); (try clear hk); (try clear hi)) | ((with_reducible refine gate_callee (f := 28) rfl ?_); refine goesL_ (some 10) rfl rfl Try.func28 (by kernel_rfl) rfl #[.int .i64 a0] rfl (by (try simp only [List.map_toArray, List.map_cons, List.map_nil]); first | done | rfl | (simp only [List.length_drop, List.length_take]; rfl)) ?_; (with_reducible refine (cut_ofS.calls a0 t247 _ A4.out).mono ?_); rintro e w7 ⟨rfl, hb⟩; refine ⟨_, rfl, ?_⟩; replace HB := Aside0.mk (below_step (by repeat (first | (with_reducible first | exact HB.out | apply below_alloc | apply pw_below_drewN | apply below_drew1) | exact HB.out)) hb); (try clear hb); (try clear hb2); (try clear hk); (try clear hi)) | ((with_reducible refine gate_callee (f := 27) rfl ?_); refine goesL_ (some 11) rfl rfl Try.func27 (by kernel_rfl) rfl #[.int .i64 a1, .int .i64 t247] rfl (by (try simp only [List.map_toArray, List.map_cons, List.map_nil]); first | done | rfl | (simp only [List.length_drop, List.length_take]; rfl)) ?_; (with_reducible refine (epoch_FastS.calls a1 t247 t248 _ A5.out).mono ?_); rintro e w8 ⟨rfl, hb⟩; refine ⟨_, rfl, ?_⟩; replace HB := Aside0.mk (below_step (by repeat (first | (with_reducible first | exact HB.out | apply below_alloc | apply pw_below_drewN | apply below_drew1) | exact HB.out)) hb); (try clear hb); (try clear hb2); (try clear hk); (try clear hi)))
 go_ret2
 exact ⟨by first | rfl | (simp [errW_none, errW_some] <;> rfl) | (simp [*, errW_none, errW_some] <;> rfl), by repeat (first | (with_reducible first | exact HB.out | apply below_alloc | apply pw_below_drewN | apply below_drew1) | exact HB.out)⟩

/-! ### cut_LossS: pure, behind function 14 -/
noncomputable def cut_LossS.f (a b : Int) : Option (Int × Int) := Go.Proofs.Ytepmnfjcmppghaa.Sp.need (Go.Proofs.Ytepmnfjcmppghaa.Sp.I a ∧ Go.Proofs.Ytepmnfjcmppghaa.Sp.I b) (some (Go.Proofs.Ytepmnfjcmppghaa.Sp.leastW (Go.Proofs.Ytepmnfjcmppghaa.Sp.win a), Go.Proofs.Ytepmnfjcmppghaa.Sp.fastQ b (Go.Proofs.Ytepmnfjcmppghaa.Sp.win a)))
theorem cut_LossS.eq {a b : Int} (h1 : Go.Proofs.Ytepmnfjcmppghaa.Sp.I a) (h2 : Go.Proofs.Ytepmnfjcmppghaa.Sp.I b) : cut_LossS.f a b = some (Go.Proofs.Ytepmnfjcmppghaa.Sp.leastW (Go.Proofs.Ytepmnfjcmppghaa.Sp.win a), Go.Proofs.Ytepmnfjcmppghaa.Sp.fastQ b (Go.Proofs.Ytepmnfjcmppghaa.Sp.win a)) := Go.Proofs.Ytepmnfjcmppghaa.Sp.need_pos ⟨h1, h2⟩
section
open Go.Proofs.Ytepmnfjcmppghaa.Sp
theorem cut_Loss.main {a b : Int} (h1 : Go.Proofs.Ytepmnfjcmppghaa.Sp.I a) (h2 : Go.Proofs.Ytepmnfjcmppghaa.Sp.I b) : cut_Loss.f a b = some (Go.Proofs.Ytepmnfjcmppghaa.Sp.leastW (Go.Proofs.Ytepmnfjcmppghaa.Sp.win a), Go.Proofs.Ytepmnfjcmppghaa.Sp.fastQ b (Go.Proofs.Ytepmnfjcmppghaa.Sp.win a)) := by
 unfold cut_Loss.f
 have := win_bd a
 rw [cut_LeastS.eq h1, cut_ofS.eq h1]
 simp only [Option.bind_some]
 rw [epoch_FastS.eq h2 (by omega)]
 rfl
end
theorem cut_LossS.calls (a b r1 r2 : Int) (w : World) (h : cut_LossS.f a b = some (r1, r2)) :
  Calls Try.prog 14 #[.int .i64 a, .int .i64 b] w fun e w' => e = .returned (.tuple #[.int .i64 r1, .int .i64 r2]) ∧ Below w.heap.size w w' := by
 obtain ⟨hc, h⟩ := Go.Proofs.Ytepmnfjcmppghaa.Sp.need_some h; obtain ⟨h1, h2⟩ := hc; exact cut_Loss.calls a b r1 r2 w (by rw [cut_Loss.main h1 h2]; exact h)

/-! ### cut_Timeout: function 16 -/
noncomputable def cut_Timeout.f (a0 : Int) (a1 : Int) : Option (Int × Int × Int) := (cut_LossS.f a0 a1).bind fun bt249 => (some (131072, bt249.1, bt249.2))
set_option maxHeartbeats 8000000 in
set_option maxRecDepth 100000 in
theorem cut_Timeout.calls (a0 : Int) (a1 : Int) (r1 : Int) (r2 : Int) (r3 : Int) (w : World) (h : cut_Timeout.f a0 a1 = some (r1, r2, r3)) :
  Calls Try.prog 16 #[.int .i64 a0, .int .i64 a1] w fun e w' => e = .returned (.tuple #[.int .i64 r1, .int .i64 r2, .int .i64 r3]) ∧ Below w.heap.size w w' := by
 have HB := Aside0.mk (Below.refl w.heap.size w); have H : ((cut_LossS.f a0 a1).bind fun bt249 => (some (131072, bt249.1, bt249.2))) = some (r1, r2, r3) := h; clear h; replace H := Option.bind_eq_some_iff.mp H; obtain ⟨⟨t249, t250⟩, A30, H⟩ := H; replace H : (some (131072, t249, t250)) = some (r1, r2, r3) := H; have A3 := Aside0.mk A30; clear A30; simp only [Option.some.injEq, Prod.mk.injEq] at H; obtain ⟨rfl, rfl, rfl⟩ := H
 go_enter Try.func16, Try.ntmps16
 go_wp2_with (first | ((with_reducible refine gate_callee (f := 14) rfl ?_); refine goesL_ (some 12) rfl rfl Try.func14 (by kernel_rfl) rfl #[.int .i64 a0, .int .i64 a1] rfl (by (try simp only [List.map_toArray, List.map_cons, List.map_nil]); first | done | rfl | (simp only [List.length_drop, List.length_take]; rfl)) ?_; (with_reducible refine (cut_LossS.calls a0 a1 t249 t250 _ A3.out).mono ?_); rintro e w4 ⟨rfl, hb⟩; refine ⟨_, rfl, ?_⟩; replace HB := Aside0.mk (below_step (by repeat (first | (with_reducible first | exact HB.out | apply below_alloc | apply pw_below_drewN | apply below_drew1) | exact HB.out)) hb); (try clear hb); (try clear hb2); (try clear hk); (try clear hi)))
 go_ret3
 exact ⟨by first | rfl | (simp [errW_none, errW_some] <;> rfl) | (simp [*, errW_none, errW_some] <;> rfl), by repeat (first | (with_reducible first | exact HB.out | apply below_alloc | apply pw_below_drewN | apply below_drew1) | exact HB.out)⟩

/-! ### cut_TimeoutS: pure, behind function 16 -/
noncomputable def cut_TimeoutS.f (a b : Int) : Option (Int × Int × Int) := Go.Proofs.Ytepmnfjcmppghaa.Sp.need (Go.Proofs.Ytepmnfjcmppghaa.Sp.I a ∧ Go.Proofs.Ytepmnfjcmppghaa.Sp.I b) (some (131072, Go.Proofs.Ytepmnfjcmppghaa.Sp.leastW (Go.Proofs.Ytepmnfjcmppghaa.Sp.win a), Go.Proofs.Ytepmnfjcmppghaa.Sp.fastQ b (Go.Proofs.Ytepmnfjcmppghaa.Sp.win a)))
theorem cut_TimeoutS.eq {a b : Int} (h1 : Go.Proofs.Ytepmnfjcmppghaa.Sp.I a) (h2 : Go.Proofs.Ytepmnfjcmppghaa.Sp.I b) : cut_TimeoutS.f a b = some (131072, Go.Proofs.Ytepmnfjcmppghaa.Sp.leastW (Go.Proofs.Ytepmnfjcmppghaa.Sp.win a), Go.Proofs.Ytepmnfjcmppghaa.Sp.fastQ b (Go.Proofs.Ytepmnfjcmppghaa.Sp.win a)) := Go.Proofs.Ytepmnfjcmppghaa.Sp.need_pos ⟨h1, h2⟩
section
open Go.Proofs.Ytepmnfjcmppghaa.Sp
theorem cut_Timeout.main {a b : Int} (h1 : Go.Proofs.Ytepmnfjcmppghaa.Sp.I a) (h2 : Go.Proofs.Ytepmnfjcmppghaa.Sp.I b) : cut_Timeout.f a b = some (131072, Go.Proofs.Ytepmnfjcmppghaa.Sp.leastW (Go.Proofs.Ytepmnfjcmppghaa.Sp.win a), Go.Proofs.Ytepmnfjcmppghaa.Sp.fastQ b (Go.Proofs.Ytepmnfjcmppghaa.Sp.win a)) := by
 unfold cut_Timeout.f
 rw [cut_LossS.eq h1 h2]
 rfl
end
theorem cut_TimeoutS.calls (a b r1 r2 r3 : Int) (w : World) (h : cut_TimeoutS.f a b = some (r1, r2, r3)) :
  Calls Try.prog 16 #[.int .i64 a, .int .i64 b] w fun e w' => e = .returned (.tuple #[.int .i64 r1, .int .i64 r2, .int .i64 r3]) ∧ Below w.heap.size w w' := by
 obtain ⟨hc, h⟩ := Go.Proofs.Ytepmnfjcmppghaa.Sp.need_some h; obtain ⟨h1, h2⟩ := hc; exact cut_Timeout.calls a b r1 r2 r3 w (by rw [cut_Timeout.main h1 h2]; exact h)

end Go.Proofs.Ytepmnfjcmppghaa.Px
