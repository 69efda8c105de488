/- Printed by a program of this session (wip/tool/px.py), over the kit's print: for each Go function a Lean function, and the proof that the machine's call answers as that function says. Conditions: none beside what the theorems state. -/
import Derived.Test.YtghpecgpdhaibaaPx0
import Derived.Test.YtghpecgpdhaibaaPx2
import Derived.Test.YtghpecgpdhaibaaSpec
namespace Go.Proofs.Ytghpecgpdhaibaa.Px
open Go.RowKit Go.Proofs.YtghpecgpdhaibaaW.PrintWords Go.Proofs.YtghpecgpdhaibaaW.PrintLast Go.Proofs.YtghpecgpdhaibaaW.PrintMore
attribute [local go_sem] max2_int min2_int max_two min_two max_three min_three max_four min_four   -- for this text's walks alone
set_option linter.unusedVariables false
set_option linter.unusedSimpArgs false

attribute [local go_sem high] eqA98
/-! ### safe_Clamp: function 68 -/
noncomputable def safe_Clamp.f (a0 : Int) (a1 : Int) (a2 : Int) : Option (Int) := if a0 < a1 then (some a1) else (some (mn a0 a2))
set_option maxHeartbeats 8000000 in
set_option maxRecDepth 100000 in
theorem safe_Clamp.calls (a0 : Int) (a1 : Int) (a2 : Int) (r : Int) (w : World) (h : safe_Clamp.f a0 a1 a2 = some r) :
  Calls Try.prog 68 #[.int .i64 a0, .int .i64 a1, .int .i64 a2] w fun e w' => e = .returned (.int .i64 r) ∧ Below w.heap.size w w' := by
 have HB := Aside0.mk (Below.refl w.heap.size w); have H : (if a0 < a1 then (some a1) else (some (mn a0 a2))) = some r := h; clear h
 by_cases c4 : a0 < a1
 ·rw [if_pos c4] at H
  have c4b0 : decide (a0 < a1) = true := decide_eq_true c4; clear c4; obtain rfl := Option.some.inj H
  go_enter Try.func68, Try.ntmps68
  go_wp2
  go_ret
  exact ⟨by first | rfl | (rw [Int.tdiv_eq_ediv_of_nonneg] <;> first | rfl | assumption | omega) | (simp [errW_none, errW_some] <;> rfl) | (simp [*, errW_none, errW_some] <;> rfl), by repeat (first | (with_reducible first | exact HB.out | apply below_alloc | apply pw_below_drewN | apply below_drew1) | exact HB.out)⟩
 ·rw [if_neg c4] at H
  have c4b0 : decide (a0 < a1) = false := decide_eq_false c4; clear c4
  obtain ⟨ji5, hji5⟩ : ∃ j_ : Int, (mn a0 a2) = j_ := ⟨_, rfl⟩
  replace H : (some ji5) = some r := by first | (rw [hji5] at H; exact H) | (simp only [hji5] at H ⊢; exact H)
  have hji5_ : (if a2 < a0 then a2 else a0) = ji5 := hji5; obtain rfl := Option.some.inj H
  go_enter Try.func68, Try.ntmps68
  go_wp2
  go_ret
  exact ⟨by first | rfl | (rw [Int.tdiv_eq_ediv_of_nonneg] <;> first | rfl | assumption | omega) | (simp [errW_none, errW_some] <;> rfl) | (simp only [← hji5]; first | rfl | (simp [errW_none, errW_some] <;> rfl)) | (simp [*, errW_none, errW_some] <;> rfl), by repeat (first | (with_reducible first | exact HB.out | apply below_alloc | apply pw_below_drewN | apply below_drew1) | exact HB.out)⟩

/-! ### safe_ClampS: pure, behind function 68 -/
noncomputable def safe_ClampS.f (a b c : Int) : Option Int := Go.Proofs.Ytghpecgpdhaibaa.Sp.need (Go.Proofs.Ytghpecgpdhaibaa.Sp.I a ∧ Go.Proofs.Ytghpecgpdhaibaa.Sp.I b ∧ Go.Proofs.Ytghpecgpdhaibaa.Sp.I c) (some (Go.Proofs.Ytghpecgpdhaibaa.Sp.clamp a b c))
theorem safe_ClampS.eq {a b c : Int} (h1 : Go.Proofs.Ytghpecgpdhaibaa.Sp.I a) (h2 : Go.Proofs.Ytghpecgpdhaibaa.Sp.I b) (h3 : Go.Proofs.Ytghpecgpdhaibaa.Sp.I c) : safe_ClampS.f a b c = some (Go.Proofs.Ytghpecgpdhaibaa.Sp.clamp a b c) := Go.Proofs.Ytghpecgpdhaibaa.Sp.need_pos ⟨h1, h2, h3⟩
section
open Go.Proofs.Ytghpecgpdhaibaa.Sp
theorem safe_Clamp.main {a b c : Int} (h1 : Go.Proofs.Ytghpecgpdhaibaa.Sp.I a) (h2 : Go.Proofs.Ytghpecgpdhaibaa.Sp.I b) (h3 : Go.Proofs.Ytghpecgpdhaibaa.Sp.I c) : safe_Clamp.f a b c = some (Go.Proofs.Ytghpecgpdhaibaa.Sp.clamp a b c) := by
 unfold safe_Clamp.f clamp mn
 split
 ·rfl
 ·rfl
end
theorem safe_ClampS.calls (a b c r : Int) (w : World) (h : safe_ClampS.f a b c = some r) :
  Calls Try.prog 68 #[.int .i64 a, .int .i64 b, .int .i64 c] w fun e w' => e = .returned (.int .i64 r) ∧ Below w.heap.size w w' := by
 obtain ⟨hc, h⟩ := Go.Proofs.Ytghpecgpdhaibaa.Sp.need_some h; obtain ⟨h1, h2, h3⟩ := hc; exact safe_Clamp.calls a b c r w (by rw [safe_Clamp.main h1 h2 h3]; exact h)

/-! ### grow_given: function 56 -/
noncomputable def grow_given.f (a0 : Int) : Option (Int) := (safe_ClampS.f a0 131072 68719476736).bind fun t101 => (some t101)
set_option maxHeartbeats 8000000 in
set_option maxRecDepth 100000 in
theorem grow_given.calls (a0 : Int) (r : Int) (w : World) (h : grow_given.f a0 = some r) :
  Calls Try.prog 56 #[.int .i64 a0] w fun e w' => e = .returned (.int .i64 r) ∧ Below w.heap.size w w' := by
 have HB := Aside0.mk (Below.refl w.heap.size w); have H : ((safe_ClampS.f a0 131072 68719476736).bind fun t101 => (some t101)) = some r := h; clear h; replace H := Option.bind_eq_some_iff.mp H; obtain ⟨t101, A20, H⟩ := H; replace H : (some t101) = some r := H; have A2 := Aside0.mk A20; clear A20; obtain rfl := Option.some.inj H
 go_enter Try.func56, Try.ntmps56
 go_wp2_with (first | ((with_reducible refine gate_callee (f := 68) rfl ?_); refine goesLA_ (some 4) rfl rfl Try.func68 rfl #[.int .i64 a0, .int .i64 131072, .int .i64 68719476736] rfl ?_; (with_reducible refine (safe_ClampS.calls a0 131072 68719476736 t101 _ A2.out).mono ?_); rintro e w3 ⟨rfl, hb⟩; refine ⟨_, rfl, ?_⟩; replace HB := stA hb; clear hb))
 go_ret
 exact ⟨by first | rfl | (rw [Int.tdiv_eq_ediv_of_nonneg] <;> first | rfl | assumption | omega) | (simp [errW_none, errW_some] <;> rfl) | (simp [*, errW_none, errW_some] <;> rfl), by repeat (first | (with_reducible first | exact HB.out | apply below_alloc | apply pw_below_drewN | apply below_drew1) | exact HB.out)⟩

/-! ### grow_givenS: a window that is given: pure, behind function 56 -/
noncomputable def grow_givenS.f (a : Int) : Option Int := Go.Proofs.Ytghpecgpdhaibaa.Sp.need (Go.Proofs.Ytghpecgpdhaibaa.Sp.I a) (some (Go.Proofs.Ytghpecgpdhaibaa.Sp.win a))
section
open Go.Proofs.Ytghpecgpdhaibaa.Sp
theorem grow_givenS.eq {a : Int} (h1 : I a) : grow_givenS.f a = some (win a) := need_pos h1
theorem grow_given.main {a : Int} (h1 : I a) : grow_given.f a = some (win a) := by
 unfold grow_given.f
 rw [safe_ClampS.eq h1 (by omega) (by omega)]
 rfl
end
theorem grow_givenS.calls (a r1 : Int) (w : World) (h : grow_givenS.f a = some r1) :
  Calls Try.prog 56 #[.int .i64 a] w fun e w' => e = .returned (.int .i64 r1) ∧ Below w.heap.size w w' := by
 obtain ⟨h1, h⟩ := Go.Proofs.Ytghpecgpdhaibaa.Sp.need_some h; exact grow_given.calls a r1 w (by rw [grow_given.main h1]; exact h)

-- NOT PRINTED: function 61 (safe_held)

/-! ### safe_Plus: function 78 -/
noncomputable def safe_Plus.f (a0 : Int) (a1 : Int) : Option (Int × Int) := if ((decide (a0 ≥ 0)) == (decide (a1 ≥ 0))) = true then (if ((decide ((wrap64 (a0 + a1)) ≥ 0)) != (decide (a0 ≥ 0))) = true then (some (0, 10)) else (some (wrap64 (a0 + a1), 0))) else (some (wrap64 (a0 + a1), 0))
set_option maxHeartbeats 8000000 in
set_option maxRecDepth 100000 in
theorem safe_Plus.calls (a0 : Int) (a1 : Int) (r1 : Int) (r2 : Int) (w : World) (h : safe_Plus.f a0 a1 = some (r1, r2)) :
  Calls Try.prog 78 #[.int .i64 a0, .int .i64 a1] w fun e w' => e = .returned (.tuple #[.int .i64 r1, .int .i64 r2]) ∧ Drawn0 w w' := by
 have H : (if ((decide (a0 ≥ 0)) == (decide (a1 ≥ 0))) = true then (if ((decide ((wrap64 (a0 + a1)) ≥ 0)) != (decide (a0 ≥ 0))) = true then (some (0, 10)) else (some (wrap64 (a0 + a1), 0))) else (some (wrap64 (a0 + a1), 0))) = some (r1, r2) := h; clear h
 by_cases c3 : ((decide (a0 ≥ 0)) == (decide (a1 ≥ 0))) = true
 ·rw [if_pos c3] at H
  have c3b0 : ((decide (a0 ≥ 0)) == (decide (a1 ≥ 0))) = true := c3
  (try (have c3b1 : decide ((decide (a0 ≥ 0)) = (decide (a1 ≥ 0))) = true := by simpa using c3))
  (try (have c3b2 : ((decide (a0 ≥ 0)) == (decide (a1 ≥ 0))) = true := by simpa using c3))
  clear c3
  by_cases c4 : ((decide ((wrap64 (a0 + a1)) ≥ 0)) != (decide (a0 ≥ 0))) = true
  ·rw [if_pos c4] at H
   have c4b0 : ((decide ((wrap64 (a0 + a1)) ≥ 0)) != (decide (a0 ≥ 0))) = true := c4
   (try (have c4b1 : decide ((decide ((wrap64 (a0 + a1)) ≥ 0)) = (decide (a0 ≥ 0))) = false := by simpa using c4))
   (try (have c4b2 : ((decide ((wrap64 (a0 + a1)) ≥ 0)) == (decide (a0 ≥ 0))) = false := by simpa using c4))
   (try (have c4b3 : ¬ ((decide ((wrap64 (a0 + a1)) ≥ 0)) = (decide (a0 ≥ 0))) := by simpa using c4))
   clear c4; simp only [Option.some.injEq, Prod.mk.injEq] at H; obtain ⟨rfl, rfl⟩ := H
   go_enter Try.func78, Try.ntmps78
   go_wp2
   go_ret2
   exact ⟨by first | rfl | (simp; done) | (simp [*]; done), by repeat (first | exact Drawn0.refl _ | apply Drawn0.step)⟩
  ·rw [if_neg c4] at H
   have c4b0 : ((decide ((wrap64 (a0 + a1)) ≥ 0)) != (decide (a0 ≥ 0))) = false := by simpa using c4
   (try (have c4b1 : decide ((decide ((wrap64 (a0 + a1)) ≥ 0)) = (decide (a0 ≥ 0))) = true := by simpa using c4))
   (try (have c4b2 : ((decide ((wrap64 (a0 + a1)) ≥ 0)) == (decide (a0 ≥ 0))) = true := by simpa using c4))
   clear c4; simp only [Option.some.injEq, Prod.mk.injEq] at H; obtain ⟨rfl, rfl⟩ := H
   go_enter Try.func78, Try.ntmps78
   go_wp2
   go_ret2
   exact ⟨by first | rfl | (simp; done) | (simp [*]; done), by repeat (first | exact Drawn0.refl _ | apply Drawn0.step)⟩
 ·rw [if_neg c3] at H
  have c3b0 : ((decide (a0 ≥ 0)) == (decide (a1 ≥ 0))) = false := by simpa using c3
  (try (have c3b1 : decide ((decide (a0 ≥ 0)) = (decide (a1 ≥ 0))) = false := by simpa using c3))
  (try (have c3b2 : ((decide (a0 ≥ 0)) == (decide (a1 ≥ 0))) = false := by simpa using c3))
  (try (have c3b3 : ¬ ((decide (a0 ≥ 0)) = (decide (a1 ≥ 0))) := by simpa using c3))
  clear c3; simp only [Option.some.injEq, Prod.mk.injEq] at H; obtain ⟨rfl, rfl⟩ := H
  go_enter Try.func78, Try.ntmps78
  go_wp2
  go_ret2
  exact ⟨by first | rfl | (simp; done) | (simp [*]; done), by repeat (first | exact Drawn0.refl _ | apply Drawn0.step)⟩

/-! ### safe_PlusS: a sum, or its error: pure, behind function 78 -/
noncomputable def safe_PlusS.f (a b : Int) : Option (Int × Int) := Go.Proofs.Ytghpecgpdhaibaa.Sp.need (Go.Proofs.Ytghpecgpdhaibaa.Sp.I a ∧ Go.Proofs.Ytghpecgpdhaibaa.Sp.I b) (Go.Proofs.Ytghpecgpdhaibaa.Sp.fit (a + b))
section SafePlus
open Go.Proofs.Ytghpecgpdhaibaa.Sp
theorem safe_Plus.main {a b : Int} (h1 : I a) (h2 : I b) : safe_Plus.f a b = fit (a + b) := by
 unfold safe_Plus.f fit
 by_cases c : I (a + b)
 ·rw [if_pos c, w64 c]
  by_cases ha : a ≥ 0 <;> by_cases hb : b ≥ 0
  ·have : a + b ≥ 0 := by omega
   simp [ha, hb, this]
  ·simp [ha, hb]
  ·simp [ha, hb]
  ·have : ¬ a + b ≥ 0 := by omega
   simp [ha, hb, this]
 ·rw [if_neg c]
  by_cases ha : a ≥ 0
  ·have hb : b ≥ 0 := by omega
   have hw : ¬ wrap64 (a + b) ≥ 0 := by unfold wrap64; omega
   simp [ha, hb, hw]
  ·have hb : ¬ b ≥ 0 := by omega
   have hw : wrap64 (a + b) ≥ 0 := by unfold wrap64; omega
   simp [ha, hb, hw]
end SafePlus
theorem safe_PlusS.calls (a0 a1 r1 r2 : Int) (w : World) (h : safe_PlusS.f a0 a1 = some (r1, r2)) :
  Calls Try.prog 78 #[.int .i64 a0, .int .i64 a1] w fun e w' => e = .returned (.tuple #[.int .i64 r1, .int .i64 r2]) ∧ Drawn0 w w' := by
 obtain ⟨hc, h⟩ := Go.Proofs.Ytghpecgpdhaibaa.Sp.need_some h; exact safe_Plus.calls a0 a1 r1 r2 w (by rw [safe_Plus.main hc.1 hc.2]; exact h)

/-! ### safe_Add: function 69 -/
noncomputable def safe_Add.f (a b : Int) : Option Int := Go.Proofs.Ytghpecgpdhaibaa.Sp.need (Go.Proofs.Ytghpecgpdhaibaa.Sp.I a ∧ Go.Proofs.Ytghpecgpdhaibaa.Sp.I b) (some (Go.Proofs.Ytghpecgpdhaibaa.Sp.near (a + b)))
theorem safe_Add.eq {a b : Int} (h1 : Go.Proofs.Ytghpecgpdhaibaa.Sp.I a) (h2 : Go.Proofs.Ytghpecgpdhaibaa.Sp.I b) : safe_Add.f a b = some (Go.Proofs.Ytghpecgpdhaibaa.Sp.near (a + b)) := Go.Proofs.Ytghpecgpdhaibaa.Sp.need_pos ⟨h1, h2⟩
theorem safe_PlusS.as {a b x y : Int} (h1 : Go.Proofs.Ytghpecgpdhaibaa.Sp.I a) (h2 : Go.Proofs.Ytghpecgpdhaibaa.Sp.I b) (h : Go.Proofs.Ytghpecgpdhaibaa.Sp.fit (a + b) = some (x, y)) : Aside0 (safe_PlusS.f a b = some (x, y)) := ⟨(Go.Proofs.Ytghpecgpdhaibaa.Sp.need_pos ⟨h1, h2⟩).trans h⟩
set_option maxHeartbeats 1000000 in
set_option maxRecDepth 100000 in
theorem safe_Add.calls (a0 a1 r : Int) (w : World) (h : safe_Add.f a0 a1 = some r) :
  Calls Try.prog 69 #[.int .i64 a0, .int .i64 a1] w fun e w' => e = .returned (.int .i64 r) ∧ Below w.heap.size w w' := by
 obtain ⟨hc, h⟩ := Go.Proofs.Ytghpecgpdhaibaa.Sp.need_some h; obtain rfl := Option.some.inj h
 have hmf : ∀ (fn : Fn) (first cap : Array Value) (w : World), (Instr.makeFunc fn first cap).run Try.prog w = .ok (.func fn first cap) w := fun _ _ _ _ => rfl
 by_cases c : Go.Proofs.Ytghpecgpdhaibaa.Sp.I (a0 + a1)
 ·have HP := safe_PlusS.as hc.1 hc.2 (Go.Proofs.Ytghpecgpdhaibaa.Sp.fit_in c)
  rw [Go.Proofs.Ytghpecgpdhaibaa.Sp.near_in c]
  clear hc c
  go_enter Try.func69, Try.ntmps69
  go_wp2_with (first | (go_at_call 78; refine (safe_PlusS.calls a0 a1 _ _ _ HP.out).mono ?_; rintro e w' ⟨rfl, ⟨nd, rfl⟩⟩) | go_in)
  go_ret
  exact ⟨rfl, by repeat (first | exact Below.refl _ _ | apply below_alloc | apply pw_below_drewN)⟩
 ·have HP := safe_PlusS.as hc.1 hc.2 (Go.Proofs.Ytghpecgpdhaibaa.Sp.fit_out c)
  by_cases hn : a0 < 0
  ·have e0 : Go.Proofs.Ytghpecgpdhaibaa.Sp.near (a0 + a1) = -9223372036854775808 := Go.Proofs.Ytghpecgpdhaibaa.Sp.near_lo (by omega)
   rw [e0]
   have hd : decide (a0 < 0) = true := decide_eq_true hn; clear hc c hn e0
   go_enter Try.func69, Try.ntmps69
   go_wp2_with (first | (go_at_call 78; refine (safe_PlusS.calls a0 a1 _ _ _ HP.out).mono ?_; rintro e w' ⟨rfl, ⟨nd, rfl⟩⟩) | go_in)
   go_ret
   exact ⟨rfl, by repeat (first | exact Below.refl _ _ | apply below_alloc | apply pw_below_drewN)⟩
  ·have e0 : Go.Proofs.Ytghpecgpdhaibaa.Sp.near (a0 + a1) = 9223372036854775807 := Go.Proofs.Ytghpecgpdhaibaa.Sp.near_hi (by omega)
   rw [e0]
   have hd : decide (a0 < 0) = false := decide_eq_false hn; clear hc c hn e0
   go_enter Try.func69, Try.ntmps69
   go_wp2_with (first | (go_at_call 78; refine (safe_PlusS.calls a0 a1 _ _ _ HP.out).mono ?_; rintro e w' ⟨rfl, ⟨nd, rfl⟩⟩) | go_in)
   go_ret
   exact ⟨rfl, by repeat (first | exact Below.refl _ _ | apply below_alloc | apply pw_below_drewN)⟩

-- NOT PRINTED: function 51 (grow_after)

/-! ### hystart_state_phase: function 112 -/
noncomputable def hystart_state_phase.f (a0_0 : Int) (a0_1 : Int) (a0_2 : Int) (a0_3 : Bool) (a0_4 : Bool) (a0_5 : Int) (a0_6 : Int) : Option (Int) := if a0_4 = true then (some 3) else (if a0_3 = true then (some 2) else (some 1))
set_option maxHeartbeats 8000000 in
set_option maxRecDepth 100000 in
theorem hystart_state_phase.calls (a0_0 : Int) (a0_1 : Int) (a0_2 : Int) (a0_3 : Bool) (a0_4 : Bool) (a0_5 : Int) (a0_6 : Int) (r : Int) (w : World) (h : hystart_state_phase.f a0_0 a0_1 a0_2 a0_3 a0_4 a0_5 a0_6 = some r) :
  Calls Try.prog 112 #[.agg #[.int .i64 a0_0, .int .i64 a0_1, .int .i64 a0_2, .bool a0_3, .bool a0_4, .int .i64 a0_5, .int .i64 a0_6]] w fun e w' => e = .returned (.int .i64 r) ∧ Below w.heap.size w w' := by
 have hu127 := Try.underlying127; have HB := Aside0.mk (Below.refl w.heap.size w); have H : (if a0_4 = true then (some 3) else (if a0_3 = true then (some 2) else (some 1))) = some r := h; clear h
 by_cases c2 : a0_4 = true
 ·subst c2
  have H1 : (some 3) = some r := by rw [if_pos rfl] at H; exact H
  clear H; have H := H1; clear H1; obtain rfl := Option.some.inj H
  go_enter Try.func112, Try.ntmps112
  go_wp2_with (first | ((with_reducible refine gate_dst (N := 1) rfl ?_); refine box_event ?hg (N := 1) ?hd (cs := #[.int .i64 a0_0, .int .i64 a0_1, .int .i64 a0_2, .bool a0_3, .bool true, .int .i64 a0_5, .int .i64 a0_6]) (t := 127) ?hr ?_; (case hd => rfl); (case hg => rfl); (case hr => first | (go_simp; done) | (go_simp; rfl)); intro gb102 hg w3 hbox hb; have BK102 := Aside0.mk (hbox); obtain ⟨GW102, nHB⟩ := geA hg hb; have GE102 := GW102; replace HB := nHB; clear nHB; clear hb hbox hg; have hcz4_0 := czZ BK102 0 (.int .i64 a0_0); have hcz4_1 := czZ BK102 1 (.int .i64 a0_1); have hcz4_2 := czZ BK102 2 (.int .i64 a0_2); have hcz4_3 := czZ BK102 3 (.bool a0_3); have hcz4_4 := czZ BK102 4 (.bool true); have hcz4_5 := czZ BK102 5 (.int .i64 a0_5); have hcz4_6 := czZ BK102 6 (.int .i64 a0_6); have hfz4_0 := blk_frozen BK102.out 0; have hfz4_1 := blk_frozen BK102.out 1; have hfz4_2 := blk_frozen BK102.out 2; have hfz4_3 := blk_frozen BK102.out 3; have hfz4_4 := blk_frozen BK102.out 4; have hfz4_5 := blk_frozen BK102.out 5; have hfz4_6 := blk_frozen BK102.out 6))
  go_ret
  exact ⟨by first | rfl | (rw [Int.tdiv_eq_ediv_of_nonneg] <;> first | rfl | assumption | omega) | (simp [errW_none, errW_some] <;> rfl) | (simp [*, errW_none, errW_some] <;> rfl), by repeat (first | (with_reducible first | exact HB.out | apply below_alloc | apply pw_below_drewN | apply below_drew1 | refine below_set ?_ GE102.out) | exact HB.out)⟩
 ·replace c2 := Bool.eq_false_iff.mpr c2
  subst c2
  have H1 : (if a0_3 = true then (some 2) else (some 1)) = some r := by rw [if_neg (show ¬ (false = true) by decide)] at H; exact H
  clear H; have H := H1; clear H1
  by_cases c5 : a0_3 = true
  ·subst c5
   have H1 : (some 2) = some r := by rw [if_pos rfl] at H; exact H
   clear H; have H := H1; clear H1; obtain rfl := Option.some.inj H
   go_enter Try.func112, Try.ntmps112
   go_wp2_with (first | ((with_reducible refine gate_dst (N := 1) rfl ?_); refine box_event ?hg (N := 1) ?hd (cs := #[.int .i64 a0_0, .int .i64 a0_1, .int .i64 a0_2, .bool true, .bool false, .int .i64 a0_5, .int .i64 a0_6]) (t := 127) ?hr ?_; (case hd => rfl); (case hg => rfl); (case hr => first | (go_simp; done) | (go_simp; rfl)); intro gb102 hg w6 hbox hb; have BK102 := Aside0.mk (hbox); obtain ⟨GW102, nHB⟩ := geA hg hb; have GE102 := GW102; replace HB := nHB; clear nHB; clear hb hbox hg; have hcz7_0 := czZ BK102 0 (.int .i64 a0_0); have hcz7_1 := czZ BK102 1 (.int .i64 a0_1); have hcz7_2 := czZ BK102 2 (.int .i64 a0_2); have hcz7_3 := czZ BK102 3 (.bool true); have hcz7_4 := czZ BK102 4 (.bool false); have hcz7_5 := czZ BK102 5 (.int .i64 a0_5); have hcz7_6 := czZ BK102 6 (.int .i64 a0_6); have hfz7_0 := blk_frozen BK102.out 0; have hfz7_1 := blk_frozen BK102.out 1; have hfz7_2 := blk_frozen BK102.out 2; have hfz7_3 := blk_frozen BK102.out 3; have hfz7_4 := blk_frozen BK102.out 4; have hfz7_5 := blk_frozen BK102.out 5; have hfz7_6 := blk_frozen BK102.out 6))
   go_ret
   exact ⟨by first | rfl | (rw [Int.tdiv_eq_ediv_of_nonneg] <;> first | rfl | assumption | omega) | (simp [errW_none, errW_some] <;> rfl) | (simp [*, errW_none, errW_some] <;> rfl), by repeat (first | (with_reducible first | exact HB.out | apply below_alloc | apply pw_below_drewN | apply below_drew1 | refine below_set ?_ GE102.out) | exact HB.out)⟩
  ·replace c5 := Bool.eq_false_iff.mpr c5
   subst c5
   have H1 : (some 1) = some r := by rw [if_neg (show ¬ (false = true) by decide)] at H; exact H
   clear H; have H := H1; clear H1; obtain rfl := Option.some.inj H
   go_enter Try.func112, Try.ntmps112
   go_wp2_with (first | ((with_reducible refine gate_dst (N := 1) rfl ?_); refine box_event ?hg (N := 1) ?hd (cs := #[.int .i64 a0_0, .int .i64 a0_1, .int .i64 a0_2, .bool false, .bool false, .int .i64 a0_5, .int .i64 a0_6]) (t := 127) ?hr ?_; (case hd => rfl); (case hg => rfl); (case hr => first | (go_simp; done) | (go_simp; rfl)); intro gb102 hg w8 hbox hb; have BK102 := Aside0.mk (hbox); obtain ⟨GW102, nHB⟩ := geA hg hb; have GE102 := GW102; replace HB := nHB; clear nHB; clear hb hbox hg; have hcz9_0 := czZ BK102 0 (.int .i64 a0_0); have hcz9_1 := czZ BK102 1 (.int .i64 a0_1); have hcz9_2 := czZ BK102 2 (.int .i64 a0_2); have hcz9_3 := czZ BK102 3 (.bool false); have hcz9_4 := czZ BK102 4 (.bool false); have hcz9_5 := czZ BK102 5 (.int .i64 a0_5); have hcz9_6 := czZ BK102 6 (.int .i64 a0_6); have hfz9_0 := blk_frozen BK102.out 0; have hfz9_1 := blk_frozen BK102.out 1; have hfz9_2 := blk_frozen BK102.out 2; have hfz9_3 := blk_frozen BK102.out 3; have hfz9_4 := blk_frozen BK102.out 4; have hfz9_5 := blk_frozen BK102.out 5; have hfz9_6 := blk_frozen BK102.out 6))
   go_ret
   exact ⟨by first | rfl | (rw [Int.tdiv_eq_ediv_of_nonneg] <;> first | rfl | assumption | omega) | (simp [errW_none, errW_some] <;> rfl) | (simp [*, errW_none, errW_some] <;> rfl), by repeat (first | (with_reducible first | exact HB.out | apply below_alloc | apply pw_below_drewN | apply below_drew1 | refine below_set ?_ GE102.out) | exact HB.out)⟩

/-! ### hystart_Part: function 111 -/
noncomputable def hystart_Part.f (a0_0 : Int) (a0_1 : Int) (a0_2 : Int) (a0_3 : Bool) (a0_4 : Bool) (a0_5 : Int) (a0_6 : Int) (a1 : Int) : Option (Int) := (hystart_state_phase.f a0_0 a0_1 a0_2 a0_3 a0_4 a0_5 a0_6).bind fun t104 => (if t104 = 3 then (some 0) else (if t104 = 2 then (some (wrap64 ((mx a1 0) / 4))) else (some (mx a1 0))))
set_option maxHeartbeats 8000000 in
set_option maxRecDepth 100000 in
theorem hystart_Part.calls (a0_0 : Int) (a0_1 : Int) (a0_2 : Int) (a0_3 : Bool) (a0_4 : Bool) (a0_5 : Int) (a0_6 : Int) (a1 : Int) (r : Int) (w : World) (h : hystart_Part.f a0_0 a0_1 a0_2 a0_3 a0_4 a0_5 a0_6 a1 = some r) :
  Calls Try.prog 111 #[.agg #[.int .i64 a0_0, .int .i64 a0_1, .int .i64 a0_2, .bool a0_3, .bool a0_4, .int .i64 a0_5, .int .i64 a0_6], .int .i64 a1] w fun e w' => e = .returned (.int .i64 r) ∧ Below w.heap.size w w' := by
 have hu43 := Try.underlying43; have HB := Aside0.mk (Below.refl w.heap.size w); have H : ((hystart_state_phase.f a0_0 a0_1 a0_2 a0_3 a0_4 a0_5 a0_6).bind fun t104 => (if t104 = 3 then (some 0) else (if t104 = 2 then (some (wrap64 ((mx a1 0) / 4))) else (some (mx a1 0))))) = some r := h; clear h; replace H := Option.bind_eq_some_iff.mp H; obtain ⟨t104, A30, H⟩ := H; replace H : (if t104 = 3 then (some 0) else (if t104 = 2 then (some (wrap64 ((mx a1 0) / 4))) else (some (mx a1 0)))) = some r := H; have A3 := Aside0.mk A30; clear A30
 by_cases c4 : t104 = 3
 ·rw [if_pos c4] at H
  have c4b0 : (t104 == 3) = true := beq_iff_eq.mpr c4; have c4b1 : (t104 != 3) = false := bne_eq_false_iff_eq.mpr c4; clear c4; obtain rfl := Option.some.inj H
  go_enter Try.func111, Try.ntmps111
  go_wp2_with (first | ((with_reducible refine gate_dst (N := 2) rfl ?_); refine box_event ?hg (N := 2) ?hd (cs := #[.int .i64 a0_0, .int .i64 a0_1, .int .i64 a0_2, .bool a0_3, .bool a0_4, .int .i64 a0_5, .int .i64 a0_6]) (t := 43) ?hr ?_; (case hd => rfl); (case hg => rfl); (case hr => first | (go_simp; done) | (go_simp; rfl)); intro gb103 hg w5 hbox hb; have BK103 := Aside0.mk (hbox); obtain ⟨GW103, nHB⟩ := geA hg hb; have GE103 := GW103; replace HB := nHB; clear nHB; clear hb hbox hg; have hcz6_0 := czZ BK103 0 (.int .i64 a0_0); have hcz6_1 := czZ BK103 1 (.int .i64 a0_1); have hcz6_2 := czZ BK103 2 (.int .i64 a0_2); have hcz6_3 := czZ BK103 3 (.bool a0_3); have hcz6_4 := czZ BK103 4 (.bool a0_4); have hcz6_5 := czZ BK103 5 (.int .i64 a0_5); have hcz6_6 := czZ BK103 6 (.int .i64 a0_6); have hfz6_0 := blk_frozen BK103.out 0; have hfz6_1 := blk_frozen BK103.out 1; have hfz6_2 := blk_frozen BK103.out 2; have hfz6_3 := blk_frozen BK103.out 3; have hfz6_4 := blk_frozen BK103.out 4; have hfz6_5 := blk_frozen BK103.out 5; have hfz6_6 := blk_frozen BK103.out 6) | ((with_reducible refine gate_callee (f := 112) rfl ?_); refine goesLA_ (some 6) rfl rfl Try.func112 rfl #[.agg #[.int .i64 a0_0, .int .i64 a0_1, .int .i64 a0_2, .bool a0_3, .bool a0_4, .int .i64 a0_5, .int .i64 a0_6]] rfl ?_; (with_reducible refine (hystart_state_phase.calls a0_0 a0_1 a0_2 a0_3 a0_4 a0_5 a0_6 t104 _ A3.out).mono ?_); rintro e w7 ⟨rfl, hb⟩; refine ⟨_, rfl, ?_⟩; replace BK103 := bdZ BK103 hb; replace HB := stA hb; clear hb))
  go_ret
  exact ⟨by first | rfl | (rw [Int.tdiv_eq_ediv_of_nonneg] <;> first | rfl | assumption | omega) | (simp [errW_none, errW_some] <;> rfl) | (simp [*, errW_none, errW_some] <;> rfl), by repeat (first | (with_reducible first | exact HB.out | apply below_alloc | apply pw_below_drewN | apply below_drew1 | refine below_set ?_ GE103.out) | exact HB.out)⟩
 ·rw [if_neg c4] at H
  have c4b0 : (t104 == 3) = false := beq_eq_false_iff_ne.mpr c4; have c4b1 : (t104 != 3) = true := bne_iff_ne.mpr c4
  by_cases c8 : t104 = 2
  ·rw [if_pos c8] at H
   have c8b0 : (t104 == 2) = true := beq_iff_eq.mpr c8; have c8b1 : (t104 != 2) = false := bne_eq_false_iff_eq.mpr c8; clear c8
   obtain ⟨ji9, hji9⟩ : ∃ j_ : Int, (mx a1 0) = j_ := ⟨_, rfl⟩
   replace H : (some (wrap64 ((ji9) / 4))) = some r := by first | (rw [hji9] at H; exact H) | (simp only [hji9] at H ⊢; exact H)
   (try rw [hji9] at A3)
   (try (have hji9l : 0 ≤ ji9 := by (rw [← hji9]; unfold mx; (repeat' split) <;> omega)))
   (try (have hji9m : 0 ≤ ji9 := by omega))
   have hji9_ : (if a1 < 0 then 0 else a1) = ji9 := hji9; obtain rfl := Option.some.inj H
   go_enter Try.func111, Try.ntmps111
   go_wp2_with (first | ((with_reducible refine gate_dst (N := 2) rfl ?_); refine box_event ?hg (N := 2) ?hd (cs := #[.int .i64 a0_0, .int .i64 a0_1, .int .i64 a0_2, .bool a0_3, .bool a0_4, .int .i64 a0_5, .int .i64 a0_6]) (t := 43) ?hr ?_; (case hd => rfl); (case hg => rfl); (case hr => first | (go_simp; done) | (go_simp; rfl)); intro gb103 hg w10 hbox hb; have BK103 := Aside0.mk (hbox); obtain ⟨GW103, nHB⟩ := geA hg hb; have GE103 := GW103; replace HB := nHB; clear nHB; clear hb hbox hg; have hcz11_0 := czZ BK103 0 (.int .i64 a0_0); have hcz11_1 := czZ BK103 1 (.int .i64 a0_1); have hcz11_2 := czZ BK103 2 (.int .i64 a0_2); have hcz11_3 := czZ BK103 3 (.bool a0_3); have hcz11_4 := czZ BK103 4 (.bool a0_4); have hcz11_5 := czZ BK103 5 (.int .i64 a0_5); have hcz11_6 := czZ BK103 6 (.int .i64 a0_6); have hfz11_0 := blk_frozen BK103.out 0; have hfz11_1 := blk_frozen BK103.out 1; have hfz11_2 := blk_frozen BK103.out 2; have hfz11_3 := blk_frozen BK103.out 3; have hfz11_4 := blk_frozen BK103.out 4; have hfz11_5 := blk_frozen BK103.out 5; have hfz11_6 := blk_frozen BK103.out 6) | ((with_reducible refine gate_callee (f := 112) rfl ?_); refine goesLA_ (some 6) rfl rfl Try.func112 rfl #[.agg #[.int .i64 a0_0, .int .i64 a0_1, .int .i64 a0_2, .bool a0_3, .bool a0_4, .int .i64 a0_5, .int .i64 a0_6]] rfl ?_; (with_reducible refine (hystart_state_phase.calls a0_0 a0_1 a0_2 a0_3 a0_4 a0_5 a0_6 t104 _ A3.out).mono ?_); rintro e w12 ⟨rfl, hb⟩; refine ⟨_, rfl, ?_⟩; replace BK103 := bdZ BK103 hb; replace HB := stA hb; clear hb))
   go_ret
   exact ⟨by first | rfl | (rw [Int.tdiv_eq_ediv_of_nonneg] <;> first | rfl | assumption | omega) | (simp [errW_none, errW_some] <;> rfl) | (simp only [← hji9]; first | rfl | (simp [errW_none, errW_some] <;> rfl)) | (simp [*, errW_none, errW_some] <;> rfl), by repeat (first | (with_reducible first | exact HB.out | apply below_alloc | apply pw_below_drewN | apply below_drew1 | refine below_set ?_ GE103.out) | exact HB.out)⟩
  ·rw [if_neg c8] at H
   have c8b0 : (t104 == 2) = false := beq_eq_false_iff_ne.mpr c8; have c8b1 : (t104 != 2) = true := bne_iff_ne.mpr c8
   obtain ⟨ji13, hji13⟩ : ∃ j_ : Int, (mx a1 0) = j_ := ⟨_, rfl⟩
   replace H : (some ji13) = some r := by first | (rw [hji13] at H; exact H) | (simp only [hji13] at H ⊢; exact H)
   (try rw [hji13] at A3)
   (try (have hji13l : 0 ≤ ji13 := by (rw [← hji13]; unfold mx; (repeat' split) <;> omega)))
   (try (have hji13m : 0 ≤ ji13 := by omega))
   have hji13_ : (if a1 < 0 then 0 else a1) = ji13 := hji13; obtain rfl := Option.some.inj H
   go_enter Try.func111, Try.ntmps111
   go_wp2_with (first | ((with_reducible refine gate_dst (N := 2) rfl ?_); refine box_event ?hg (N := 2) ?hd (cs := #[.int .i64 a0_0, .int .i64 a0_1, .int .i64 a0_2, .bool a0_3, .bool a0_4, .int .i64 a0_5, .int .i64 a0_6]) (t := 43) ?hr ?_; (case hd => rfl); (case hg => rfl); (case hr => first | (go_simp; done) | (go_simp; rfl)); intro gb103 hg w14 hbox hb; have BK103 := Aside0.mk (hbox); obtain ⟨GW103, nHB⟩ := geA hg hb; have GE103 := GW103; replace HB := nHB; clear nHB; clear hb hbox hg; have hcz15_0 := czZ BK103 0 (.int .i64 a0_0); have hcz15_1 := czZ BK103 1 (.int .i64 a0_1); have hcz15_2 := czZ BK103 2 (.int .i64 a0_2); have hcz15_3 := czZ BK103 3 (.bool a0_3); have hcz15_4 := czZ BK103 4 (.bool a0_4); have hcz15_5 := czZ BK103 5 (.int .i64 a0_5); have hcz15_6 := czZ BK103 6 (.int .i64 a0_6); have hfz15_0 := blk_frozen BK103.out 0; have hfz15_1 := blk_frozen BK103.out 1; have hfz15_2 := blk_frozen BK103.out 2; have hfz15_3 := blk_frozen BK103.out 3; have hfz15_4 := blk_frozen BK103.out 4; have hfz15_5 := blk_frozen BK103.out 5; have hfz15_6 := blk_frozen BK103.out 6) | ((with_reducible refine gate_callee (f := 112) rfl ?_); refine goesLA_ (some 6) rfl rfl Try.func112 rfl #[.agg #[.int .i64 a0_0, .int .i64 a0_1, .int .i64 a0_2, .bool a0_3, .bool a0_4, .int .i64 a0_5, .int .i64 a0_6]] rfl ?_; (with_reducible refine (hystart_state_phase.calls a0_0 a0_1 a0_2 a0_3 a0_4 a0_5 a0_6 t104 _ A3.out).mono ?_); rintro e w16 ⟨rfl, hb⟩; refine ⟨_, rfl, ?_⟩; replace BK103 := bdZ BK103 hb; replace HB := stA hb; clear hb))
   go_ret
   exact ⟨by first | rfl | (rw [Int.tdiv_eq_ediv_of_nonneg] <;> first | rfl | assumption | omega) | (simp [errW_none, errW_some] <;> rfl) | (simp only [← hji13]; first | rfl | (simp [errW_none, errW_some] <;> rfl)) | (simp [*, errW_none, errW_some] <;> rfl), by repeat (first | (with_reducible first | exact HB.out | apply below_alloc | apply pw_below_drewN | apply below_drew1 | refine below_set ?_ GE103.out) | exact HB.out)⟩

/-! ### grow_slow_by: function 110 -/
noncomputable def grow_slow_by.f (a0_0 : Int) (a0_1 : Int) (a0_2 : Int) (a0_3 : Bool) (a0_4 : Bool) (a0_5 : Int) (a0_6 : Int) (a1 : Int) (a2 : Int) : Option (Int) := (hystart_Part.f a0_0 a0_1 a0_2 a0_3 a0_4 a0_5 a0_6 (mn a2 524288)).bind fun t106 => (some t106)
set_option maxHeartbeats 8000000 in
set_option maxRecDepth 100000 in
theorem grow_slow_by.calls (a0_0 : Int) (a0_1 : Int) (a0_2 : Int) (a0_3 : Bool) (a0_4 : Bool) (a0_5 : Int) (a0_6 : Int) (a1 : Int) (a2 : Int) (r : Int) (w : World) (h : grow_slow_by.f a0_0 a0_1 a0_2 a0_3 a0_4 a0_5 a0_6 a1 a2 = some r) :
  Calls Try.prog 110 #[.agg #[.int .i64 a0_0, .int .i64 a0_1, .int .i64 a0_2, .bool a0_3, .bool a0_4, .int .i64 a0_5, .int .i64 a0_6], .int .i64 a1, .int .i64 a2] w fun e w' => e = .returned (.int .i64 r) ∧ Below w.heap.size w w' := by
 have hu73 := Try.underlying73; have hu43 := Try.underlying43; have HB := Aside0.mk (Below.refl w.heap.size w); have H : ((hystart_Part.f a0_0 a0_1 a0_2 a0_3 a0_4 a0_5 a0_6 (mn a2 524288)).bind fun t106 => (some t106)) = some r := h; clear h
 obtain ⟨ji4, hji4⟩ : ∃ j_ : Int, (mn a2 524288) = j_ := ⟨_, rfl⟩
 replace H : ((hystart_Part.f a0_0 a0_1 a0_2 a0_3 a0_4 a0_5 a0_6 (ji4)).bind fun t106 => (some t106)) = some r := by first | (rw [hji4] at H; exact H) | (simp only [hji4] at H ⊢; exact H)
 (try (have hji4h : ji4 ≤ 524288 := by (rw [← hji4]; unfold mn; (repeat' split) <;> omega)))
 (try (have hji4g : ji4 ≤ 64 := by omega))
 have hji4_ : (if 524288 < a2 then 524288 else a2) = ji4 := hji4; replace H := Option.bind_eq_some_iff.mp H; obtain ⟨t106, A50, H⟩ := H; replace H : (some t106) = some r := H; have A5 := Aside0.mk A50; clear A50; obtain rfl := Option.some.inj H
 go_enter Try.func110, Try.ntmps110
 go_wp2_with (first | ((with_reducible refine gate_dst (N := 3) rfl ?_); refine box_event ?hg (N := 3) ?hd (cs := #[.int .i64 a0_0, .int .i64 a0_1, .int .i64 a0_2, .bool a0_3, .bool a0_4, .int .i64 a0_5, .int .i64 a0_6]) (t := 73) ?hr ?_; (case hd => rfl); (case hg => rfl); (case hr => first | (go_simp; done) | (go_simp; rfl)); intro gb105 hg w6 hbox hb; have BK105 := Aside0.mk (hbox); obtain ⟨GW105, nHB⟩ := geA hg hb; have GE105 := GW105; replace HB := nHB; clear nHB; clear hb hbox hg; have hcz7_0 := czZ BK105 0 (.int .i64 a0_0); have hcz7_1 := czZ BK105 1 (.int .i64 a0_1); have hcz7_2 := czZ BK105 2 (.int .i64 a0_2); have hcz7_3 := czZ BK105 3 (.bool a0_3); have hcz7_4 := czZ BK105 4 (.bool a0_4); have hcz7_5 := czZ BK105 5 (.int .i64 a0_5); have hcz7_6 := czZ BK105 6 (.int .i64 a0_6); have hfz7_0 := blk_frozen BK105.out 0; have hfz7_1 := blk_frozen BK105.out 1; have hfz7_2 := blk_frozen BK105.out 2; have hfz7_3 := blk_frozen BK105.out 3; have hfz7_4 := blk_frozen BK105.out 4; have hfz7_5 := blk_frozen BK105.out 5; have hfz7_6 := blk_frozen BK105.out 6) | ((with_reducible refine gate_callee (f := 111) rfl ?_); refine goesL_ (some 11) rfl rfl Try.func111 (by kernel_rfl) rfl #[.agg #[.int .i64 a0_0, .int .i64 a0_1, .int .i64 a0_2, .bool a0_3, .bool a0_4, .int .i64 a0_5, .int .i64 a0_6], .int .i64 ji4] rfl (by (try simp only [List.map_toArray, List.map_cons, List.map_nil]); first | done | (simp only [hji4]; rfl) | rfl | (simp only [List.length_drop, List.length_take]; rfl)) ?_; (with_reducible refine (hystart_Part.calls a0_0 a0_1 a0_2 a0_3 a0_4 a0_5 a0_6 ji4 t106 _ A5.out).mono ?_); rintro e w8 ⟨rfl, hb⟩; refine ⟨_, rfl, ?_⟩; replace BK105 := bdZ BK105 hb; replace HB := stA hb; clear hb))
 go_ret
 exact ⟨by first | rfl | (rw [Int.tdiv_eq_ediv_of_nonneg] <;> first | rfl | assumption | omega) | (simp [errW_none, errW_some] <;> rfl) | (simp only [← hji4]; first | rfl | (simp [errW_none, errW_some] <;> rfl)) | (simp [*, errW_none, errW_some] <;> rfl), by repeat (first | (with_reducible first | exact HB.out | apply below_alloc | apply pw_below_drewN | apply below_drew1 | refine below_set ?_ GE105.out) | exact HB.out)⟩

/-! ### grow_Slow: function 25 -/
theorem grow_by_slow (v : Value) (w : World) : (method 231 73 v "sawtooth/grow.by").run Try.prog w = .ok (110, v) w := by kernel_rfl
theorem grow_is_old_slow (v : Value) (w : World) : (Instr.typeAssert (.iface 73 v) 78 80 true).run Try.prog w = .ok (.tuple #[.agg #[.nilIface, .int .i64 0], .bool false]) w := by kernel_rfl
theorem grow_is_calm_slow (v : Value) (w : World) : (Instr.typeAssert (.iface 73 v) 78 76 true).run Try.prog w = .ok (.tuple #[.agg #[.int .i64 0], .bool false]) w := by kernel_rfl
set_option maxHeartbeats 1000000 in
set_option maxRecDepth 100000 in
theorem grow_after_slow.calls (a0 a1 l0 l1 l2 : Int) (g d : Bool) (b0 b1 W T p m r : Int) (HW : Aside0 (grow_givenS.f a0 = some W)) (HT : Aside0 (safe_ClampS.f a1 0 68719476736 = some T)) (HP : Aside0 (grow_slow_by.f l0 l1 l2 g d b0 b1 W T = some p)) (HA : Aside0 (safe_Add.f W p = some m)) (HG : Aside0 (grow_givenS.f m = some r)) (w : World) :
  Calls Try.prog 51 #[.int .i64 a0, .int .i64 a1, .iface 73 (.agg #[.int .i64 l0, .int .i64 l1, .int .i64 l2, .bool g, .bool d, .int .i64 b0, .int .i64 b1])] w fun e w' => e = .returned (.int .i64 r) ∧ Below w.heap.size w w' := by
 have hm := grow_by_slow; have t1 := grow_is_old_slow; have t2 := grow_is_calm_slow; have hu73 := Try.underlying73; have hu76 := Try.underlying76; have hu80 := Try.underlying80
 go_enter Try.func51, Try.ntmps51
 go_wp2_with (first
  | (go_at_call 56; refine (grow_givenS.calls a0 W _ HW.out).mono ?_; rintro e w1 ⟨rfl, hb⟩; clear HW; have HB := Aside0.mk hb; clear hb)
  | (go_at_call 68; refine (safe_ClampS.calls a1 0 68719476736 T _ HT.out).mono ?_; rintro e w2 ⟨rfl, hb2⟩; replace HB := Aside0.mk (Go.Proofs.YtghpecgpdhaibaaW.PrintWords.below_then HB.out HB.out.size hb2); clear hb2)
  | (go_at_call 110; refine (grow_slow_by.calls l0 l1 l2 g d b0 b1 W T p _ HP.out).mono ?_; rintro e w3 ⟨rfl, hb3⟩; replace HB := Aside0.mk (Go.Proofs.YtghpecgpdhaibaaW.PrintWords.below_then HB.out HB.out.size hb3); clear hb3)
  | (go_at_call 69; refine (safe_Add.calls W p m _ HA.out).mono ?_; rintro e w4 ⟨rfl, hb4⟩; replace HB := Aside0.mk (Go.Proofs.YtghpecgpdhaibaaW.PrintWords.below_then HB.out HB.out.size hb4); clear hb4)
  | (go_at_call 56; refine (grow_givenS.calls m r _ HG.out).mono ?_; rintro e w5 ⟨rfl, hb5⟩; have HZ := Aside0.mk hb5; clear hb5)
  | fail)
 go_ret
 exact ⟨rfl, by first | exact below_step HB.out HZ.out | exact Go.Proofs.YtghpecgpdhaibaaW.PrintWords.below_then (by repeat (with_reducible first | exact HB.out | apply below_alloc | apply pw_below_drewN)) (by have := HB.out.size; simp at *; omega) HZ.out⟩
noncomputable def grow_Slow.f (a0 a1 l0 l1 l2 : Int) (g d : Bool) (b0 b1 : Int) : Option Int := Go.Proofs.Ytghpecgpdhaibaa.Sp.need (Go.Proofs.Ytghpecgpdhaibaa.Sp.I a0 ∧ Go.Proofs.Ytghpecgpdhaibaa.Sp.I a1) (some (Go.Proofs.Ytghpecgpdhaibaa.Sp.slowQ a0 a1 g d))
theorem grow_Slow.eq {a0 a1 l0 l1 l2 : Int} {g d : Bool} {b0 b1 : Int} (h1 : Go.Proofs.Ytghpecgpdhaibaa.Sp.I a0) (h2 : Go.Proofs.Ytghpecgpdhaibaa.Sp.I a1) : grow_Slow.f a0 a1 l0 l1 l2 g d b0 b1 = some (Go.Proofs.Ytghpecgpdhaibaa.Sp.slowQ a0 a1 g d) := Go.Proofs.Ytghpecgpdhaibaa.Sp.need_pos ⟨h1, h2⟩
section
open Go.Proofs.Ytghpecgpdhaibaa.Sp
theorem grow_slow_by.part (l0 l1 l2 : Int) (g d : Bool) (b0 b1 W t : Int) : grow_slow_by.f l0 l1 l2 g d b0 b1 W (clamp t 0 68719476736) = some (partQ t g d) := by
 have b := clamp_bd (a := t) (low := 0) (high := 68719476736) (by omega)
 unfold grow_slow_by.f hystart_Part.f hystart_state_phase.f partQ
 have e : mn (clamp t 0 68719476736) 524288 = Go.Proofs.Ytghpecgpdhaibaa.Sp.min2 (clamp t 0 68719476736) 524288 := by unfold mn Go.Proofs.Ytghpecgpdhaibaa.Sp.min2; (repeat' split) <;> omega
 have m : 0 ≤ Go.Proofs.Ytghpecgpdhaibaa.Sp.min2 (clamp t 0 68719476736) 524288 := by unfold Go.Proofs.Ytghpecgpdhaibaa.Sp.min2; split <;> omega
 have m2 : Go.Proofs.Ytghpecgpdhaibaa.Sp.min2 (clamp t 0 68719476736) 524288 ≤ 524288 := by unfold Go.Proofs.Ytghpecgpdhaibaa.Sp.min2; split <;> omega
 rw [e]
 generalize Go.Proofs.Ytghpecgpdhaibaa.Sp.min2 (clamp t 0 68719476736) 524288 = z at *
 have e2 : mx z 0 = z := by unfold mx; rw [if_neg (by omega)]
 rw [e2]
 cases d <;> cases g <;> simp [w64 (x := z / 4) (by omega)]
end
set_option maxHeartbeats 1000000 in
set_option maxRecDepth 100000 in
theorem grow_Slow.walk (a0 a1 l0 l1 l2 : Int) (g d : Bool) (b0 b1 W T p m r : Int) (HW : Aside0 (grow_givenS.f a0 = some W)) (HT : Aside0 (safe_ClampS.f a1 0 68719476736 = some T)) (HP : Aside0 (grow_slow_by.f l0 l1 l2 g d b0 b1 W T = some p)) (HA : Aside0 (safe_Add.f W p = some m)) (HG : Aside0 (grow_givenS.f m = some r)) (w : World) :
  Calls Try.prog 25 #[.int .i64 a0, .int .i64 a1, .agg #[.int .i64 l0, .int .i64 l1, .int .i64 l2, .bool g, .bool d, .int .i64 b0, .int .i64 b1]] w fun e w' => e = .returned (.int .i64 r) ∧ Below w.heap.size w w' := by
 have hu73 := Try.underlying73; have hu43 := Try.underlying43; have HB := Aside0.mk (Below.refl w.heap.size w)
 go_enter Try.func25, Try.ntmps25
 go_wp2_with (first
  | (go_at_call 51; refine (grow_after_slow.calls a0 a1 l0 l1 l2 g d b0 b1 W T p m r HW HT HP HA HG _).mono ?_; rintro e w1 ⟨rfl, hb⟩; have HZ := Aside0.mk hb; clear hb)
  | fail)
 go_ret
 exact ⟨rfl, by first | exact Go.Proofs.YtghpecgpdhaibaaW.PrintWords.below_then (by repeat (with_reducible first | exact HB.out | apply below_alloc | apply pw_below_drewN)) (by simp) HZ.out⟩
theorem grow_Slow.calls (a0 a1 l0 l1 l2 : Int) (g d : Bool) (b0 b1 r : Int) (w : World) (h : grow_Slow.f a0 a1 l0 l1 l2 g d b0 b1 = some r) :
  Calls Try.prog 25 #[.int .i64 a0, .int .i64 a1, .agg #[.int .i64 l0, .int .i64 l1, .int .i64 l2, .bool g, .bool d, .int .i64 b0, .int .i64 b1]] w fun e w' => e = .returned (.int .i64 r) ∧ Below w.heap.size w w' := by
 obtain ⟨⟨h1, h2⟩, h⟩ := Go.Proofs.Ytghpecgpdhaibaa.Sp.need_some h; obtain rfl := Option.some.inj h; have a := Go.Proofs.Ytghpecgpdhaibaa.Sp.win_bd a0; have b := Go.Proofs.Ytghpecgpdhaibaa.Sp.partQ_bd a1 g d; refine grow_Slow.walk a0 a1 l0 l1 l2 g d b0 b1 (Go.Proofs.Ytghpecgpdhaibaa.Sp.win a0) (Go.Proofs.Ytghpecgpdhaibaa.Sp.clamp a1 0 68719476736) (Go.Proofs.Ytghpecgpdhaibaa.Sp.partQ a1 g d) (Go.Proofs.Ytghpecgpdhaibaa.Sp.win a0 + Go.Proofs.Ytghpecgpdhaibaa.Sp.partQ a1 g d) _ ⟨grow_givenS.eq h1⟩ ⟨safe_ClampS.eq h2 (by omega) (by omega)⟩ ⟨grow_slow_by.part l0 l1 l2 g d b0 b1 _ a1⟩ ⟨?_⟩ ⟨?_⟩ w
 ·rw [safe_Add.eq (by omega) (by omega), Go.Proofs.Ytghpecgpdhaibaa.Sp.near_in (by omega)]
 ·rw [grow_givenS.eq (by omega)]; rfl

/-! ### frac_Floor_1: function 57 -/
noncomputable def frac_Floor_1.f (a0 : Int) (a1 : Int) : Option (Bool) := some false
set_option maxHeartbeats 8000000 in
set_option maxRecDepth 100000 in
theorem frac_Floor_1.calls (a0 : Int) (a1 : Int) (r : Bool) (w : World) (h : frac_Floor_1.f a0 a1 = some r) :
  Calls Try.prog 57 #[.int .u64 a0, .int .u64 a1] w fun e w' => e = .returned (.bool r) ∧ Drawn0 w w' := by
 have H : (some false) = some r := h; clear h; obtain rfl := Option.some.inj H
 go_enter Try.func57, Try.ntmps57
 go_wp2
 go_ret
 exact ⟨by first | rfl | (simp; done) | (simp [*]; done), by repeat (first | exact Drawn0.refl _ | apply Drawn0.step)⟩

/-! ### big_size_with: function 81 -/
noncomputable def big_size_with.f (a0_0 : Int) (a0_1 : Int) (a1 : Bool) : Option (Bool × Int × Int) := if a1 = true then (some ((!(a0_0 == 0) || (!(a0_1 == 0))), a0_0, a0_1)) else (some (false, a0_0, a0_1))
def big_size_with.T1 : Bool × List (List Nat × List Nat) := (true, [([], []), ([0], [0]), ([1], [1]), ([1], [1]), ([2, 3, 1], [1, 2, 3]), ([1, 4], [1, 4]), ([], []), ([6], [6]), ([], []), ([8], [8]), ([5, 7, 9], [5, 7, 9]), ([10, 1, 0, 1, 2, 3, 4, 5, 6, 7, 8, 9, 10], [10])])
def big_size_with.B1 : List Nat := [0, 1, 3, 3, 15, 31, 0, 64, 0, 256, 1023, 2047]
theorem big_size_with.tab1 : rtab .any (opsOf Try.f81 1) = big_size_with.T1 := by kernel_rfl
theorem big_size_with.bits1 : waitsOk big_size_with.T1.2 big_size_with.B1 = true := by kernel_rfl
set_option maxHeartbeats 8000000 in
set_option maxRecDepth 100000 in
theorem big_size_with.calls (a0_0 : Int) (a0_1 : Int) (a1 : Bool) (r1 : Bool) (r2 : Int) (r3 : Int) (w : World) (h : big_size_with.f a0_0 a0_1 a1 = some (r1, r2, r3)) :
  Calls Try.prog 81 #[.agg #[.int .u64 a0_0, .int .u64 a0_1], .bool a1] w fun e w' => e = .returned (.agg #[.bool r1, .int .u64 r2, .int .u64 r3]) ∧ Below w.heap.size w w' := by
 have hu98 := Try.underlying98; have hu35 := Try.underlying35; have HB := Aside0.mk (Below.refl w.heap.size w); have H : (if a1 = true then (some ((!(a0_0 == 0) || (!(a0_1 == 0))), a0_0, a0_1)) else (some (false, a0_0, a0_1))) = some (r1, r2, r3) := h; clear h
 by_cases c3 : a1 = true
 ·subst c3
  have H1 : (some ((!(a0_0 == 0) || (!(a0_1 == 0))), a0_0, a0_1)) = some (r1, r2, r3) := by rw [if_pos rfl] at H; exact H
  clear H; have H := H1; clear H1; simp only [Option.some.injEq, Prod.mk.injEq] at H; obtain ⟨rfl, rfl, rfl⟩ := H
  go_enter Try.func81, Try.ntmps81
  try go_wp2_with (first | ((with_reducible refine gate_dst (N := 2) rfl ?_); refine box_event ?hg (N := 2) ?hd (cs := #[.int .u64 a0_0, .int .u64 a0_1]) (t := 98) ?hr ?_; (case hd => rfl); (case hg => rfl); (case hr => first | (go_simp; done) | (go_simp; rfl)); intro gb107 hg w4 hbox hb; have BK107 := Aside0.mk (hbox); obtain ⟨GW107, nHB⟩ := geA hg hb; have GE107 := GW107; replace HB := nHB; clear nHB; clear hb hbox hg) | ((with_reducible refine gate_dst (N := 4) rfl ?_); refine box_event ?hg (N := 4) ?hd (cs := #[.bool false, .int .u64 0, .int .u64 0]) (t := 35) ?hr ?_; (case hd => rfl); (case hg => rfl); (case hr => first | (go_simp; done) | (go_simp; rfl)); intro gb108 hg w5 hbox hb; have BK108 := Aside0.mk (hbox); obtain ⟨GW108, nHB⟩ := geA hg hb; have GE108 := GW108; obtain ⟨NB107_108, NB108_107, nBK⟩ := nbA BK107 hg hb; replace BK107 := nBK; clear nBK; replace HB := nHB; clear nHB; clear hb hbox hg))
  replace BK107 := Aside0.mk (blk_drew BK107.out); replace BK108 := Aside0.mk (blk_drew BK108.out); replace HB := Aside0.mk (below_drew1 HB.out); refine start_ (n := 12) (S := fun w' => w'.cell? ⟨gb107, 0, none⟩ = some (.int .u64 a0_0) ∧ w'.cell? ⟨gb107, 1, none⟩ = some (.int .u64 a0_1)) (ds := []) #[N,N,N,N,N,N,N,N,N,N,N,N] (by kernel_rfl) rfl rfl ⟨(blk_cell BK107.out 0).trans rfl, (blk_cell BK107.out 1).trans rfl⟩ (fun hHeld => ?_); refine with_tabW big_size_with.tab1 big_size_with.bits1 (fun HT_ HW_ => ?_)
  generalize w5.drew = w6 at BK107 BK108 HB hHeld ⊢
  refine pureA_ (i := 0) (N := some 5) #[Y,N,N,N,N,N,N,N,N,N,N,N] rfl rfl (any_of HT_.out (by kernel_rfl)) ?_
  refine pureA_ (i := 1) (N := some 6) #[Y,Y,N,N,N,N,N,N,N,N,N,N] rfl rfl (any_of HT_.out (by kernel_rfl)) ?_
  refine pureA_ (i := 3) (N := some 8) #[Y,Y,N,Y,N,N,N,N,N,N,N,N] rfl rfl (any_of HT_.out (by kernel_rfl)) ?_
  refine pureA_ (i := 6) (N := some 11) #[Y,Y,N,Y,N,N,Y,N,N,N,N,N] rfl rfl (any_of HT_.out (by kernel_rfl)) ?_
  refine pureA_ (i := 8) (N := some 13) #[Y,Y,N,Y,N,N,Y,N,Y,N,N,N] rfl rfl (any_of HT_.out (by kernel_rfl)) ?_
  refine take_ (i := 2) (N := some 7) (v := ?_) (a' := ?_) #[Y,Y,Y,Y,N,N,Y,N,Y,N,N,N] rfl rfl (take_ofW HT_.out HW_.out (by kernel_rfl)) (fun _ _ _ h => h) (Or.inl ⟨by rfl, ?_⟩) hHeld ?_ ?_; rotate_left
  ·rintro w' ⟨s0, s1⟩; go_simp
   with_reducible rfl
  rotate_left
  ·simp only [Act.put, sA, sB, sC, i64_w, i32_w]
   rfl
  refine pureA_ (i := 4) (N := some 9) #[Y,Y,Y,Y,Y,N,Y,N,Y,N,N,N] rfl rfl (any_of HT_.out (by kernel_rfl)) ?_
  refine pureA_ (i := 5) (N := some 10) #[Y,Y,Y,Y,Y,Y,Y,N,Y,N,N,N] rfl rfl (any_of HT_.out (by kernel_rfl)) ?_
  refine take_ (i := 7) (N := some 12) (v := ?_) (a' := ?_) #[Y,Y,Y,Y,Y,Y,Y,Y,Y,N,N,N] rfl rfl (take_ofW HT_.out HW_.out (by kernel_rfl)) (fun _ _ _ h => h) (Or.inl ⟨by rfl, ?_⟩) hHeld ?_ ?_; rotate_left
  ·rintro w' ⟨s0, s1⟩; go_simp
   with_reducible rfl
  rotate_left
  ·simp only [Act.put, sA, sB, sC, i64_w, i32_w]
   rfl
  refine take_ (i := 9) (N := some 14) (v := ?_) (a' := ?_) #[Y,Y,Y,Y,Y,Y,Y,Y,Y,Y,N,N] rfl rfl (take_ofW HT_.out HW_.out (by kernel_rfl)) (fun _ _ _ h => h) (Or.inl ⟨by rfl, ?_⟩) hHeld ?_ ?_; rotate_left
  ·rintro w' ⟨s0, s1⟩; go_simp
   with_reducible rfl
  rotate_left
  ·simp only [Act.put, sA, sB, sC, i64_w, i32_w]
   rfl
  refine pureA_ (i := 10) (N := some 15) #[Y,Y,Y,Y,Y,Y,Y,Y,Y,Y,Y,N] rfl rfl (any_of HT_.out (by kernel_rfl)) ?_
  refine one_ (i := 11) (N := none) #[Y,Y,Y,Y,Y,Y,Y,Y,Y,Y,Y,Y] rfl rfl (one_of HT_.out (by kernel_rfl)) (by decide) (fun K hK => ?_); have hs7 := czZ BK108 0 (.bool false); have hfs7 := blk_frozen BK108.out 0; have hns7_0 := NB107_108.out; have hms7_0 := NB108_107.out; have hs8 := czZ BK108 1 (.int .u64 0); have hfs8 := blk_frozen BK108.out 1; have hns8_0 := NB107_108.out; have hms8_0 := NB108_107.out; have hs9 := czZ BK108 2 (.int .u64 0); have hfs9 := blk_frozen BK108.out 2; have hns9_0 := NB107_108.out; have hms9_0 := NB108_107.out; refine skip_ (w1 := ?_) (by rfl) rfl ?_ ?_; rotate_left
  ·go_simp
   rfl
  refine hK.out _ _ ⟨((cell_far (p := ⟨gb108, _, none⟩) NB107_108.out _).trans (((cell_far (p := ⟨gb108, _, none⟩) NB107_108.out _).trans (((cell_far (p := ⟨gb108, _, none⟩) NB107_108.out _).trans (hHeld.1)))))), ((cell_far (p := ⟨gb108, _, none⟩) NB107_108.out _).trans (((cell_far (p := ⟨gb108, _, none⟩) NB107_108.out _).trans (((cell_far (p := ⟨gb108, _, none⟩) NB107_108.out _).trans (hHeld.2))))))⟩ (fun hHeld => ?_); clear hK K; refine done_ (done_of HT_.out (by kernel_rfl)) ?_
  try go_wp2
  refine bodyPost_ret (results_cell_row rfl _ _ gb108 35 #[.bool (!(a0_0 == 0) || (!(a0_1 == 0))), .int .u64 a0_0, .int .u64 a0_1] (0, 0) _ rfl (by (with_reducible repeat first | apply blk_drewN | apply blk_drew | apply blk_alloc); refine blk_put (cs := #[.bool (!(a0_0 == 0) || (!(a0_1 == 0))), .int .u64 a0_0, .int .u64 0]) ?_ 2 _ rfl; (with_reducible repeat first | apply blk_drewN | apply blk_drew | apply blk_alloc); refine blk_put (cs := #[.bool (!(a0_0 == 0) || (!(a0_1 == 0))), .int .u64 0, .int .u64 0]) ?_ 1 _ rfl; (with_reducible repeat first | apply blk_drewN | apply blk_drew | apply blk_alloc); refine blk_put (cs := #[.bool false, .int .u64 0, .int .u64 0]) ?_ 0 _ rfl; (with_reducible repeat first | apply blk_drewN | apply blk_drew | apply blk_alloc); exact BK108.out) Try.underlying35 rfl (by kernel_rfl)) rfl ?_; exact ⟨by first | rfl | (rw [Int.tdiv_eq_ediv_of_nonneg] <;> first | rfl | assumption | omega) | (simp [errW_none, errW_some] <;> rfl) | (simp [*, errW_none, errW_some] <;> rfl), by repeat (first | (with_reducible first | exact HB.out | apply below_alloc | apply pw_below_drewN | apply below_drew1 | refine below_set ?_ (Aside0.out (by assumption))) | exact HB.out)⟩
 ·replace c3 := Bool.eq_false_iff.mpr c3
  subst c3
  have H1 : (some (false, a0_0, a0_1)) = some (r1, r2, r3) := by rw [if_neg (show ¬ (false = true) by decide)] at H; exact H
  clear H; have H := H1; clear H1; simp only [Option.some.injEq, Prod.mk.injEq] at H; obtain ⟨rfl, rfl, rfl⟩ := H
  go_enter Try.func81, Try.ntmps81
  try go_wp2_with (first | ((with_reducible refine gate_dst (N := 2) rfl ?_); refine box_event ?hg (N := 2) ?hd (cs := #[.int .u64 a0_0, .int .u64 a0_1]) (t := 98) ?hr ?_; (case hd => rfl); (case hg => rfl); (case hr => first | (go_simp; done) | (go_simp; rfl)); intro gb107 hg w10 hbox hb; have BK107 := Aside0.mk (hbox); obtain ⟨GW107, nHB⟩ := geA hg hb; have GE107 := GW107; replace HB := nHB; clear nHB; clear hb hbox hg) | ((with_reducible refine gate_dst (N := 4) rfl ?_); refine box_event ?hg (N := 4) ?hd (cs := #[.bool false, .int .u64 0, .int .u64 0]) (t := 35) ?hr ?_; (case hd => rfl); (case hg => rfl); (case hr => first | (go_simp; done) | (go_simp; rfl)); intro gb108 hg w11 hbox hb; have BK108 := Aside0.mk (hbox); obtain ⟨GW108, nHB⟩ := geA hg hb; have GE108 := GW108; obtain ⟨NB107_108, NB108_107, nBK⟩ := nbA BK107 hg hb; replace BK107 := nBK; clear nBK; replace HB := nHB; clear nHB; clear hb hbox hg))
  replace BK107 := Aside0.mk (blk_drew BK107.out); replace BK108 := Aside0.mk (blk_drew BK108.out); replace HB := Aside0.mk (below_drew1 HB.out); refine start_ (n := 12) (S := fun w' => w'.cell? ⟨gb107, 0, none⟩ = some (.int .u64 a0_0) ∧ w'.cell? ⟨gb107, 1, none⟩ = some (.int .u64 a0_1)) (ds := []) #[N,N,N,N,N,N,N,N,N,N,N,N] (by kernel_rfl) rfl rfl ⟨(blk_cell BK107.out 0).trans rfl, (blk_cell BK107.out 1).trans rfl⟩ (fun hHeld => ?_); refine with_tabW big_size_with.tab1 big_size_with.bits1 (fun HT_ HW_ => ?_)
  generalize w11.drew = w12 at BK107 BK108 HB hHeld ⊢
  refine pureA_ (i := 0) (N := some 5) #[Y,N,N,N,N,N,N,N,N,N,N,N] rfl rfl (any_of HT_.out (by kernel_rfl)) ?_
  refine pureA_ (i := 1) (N := some 6) #[Y,Y,N,N,N,N,N,N,N,N,N,N] rfl rfl (any_of HT_.out (by kernel_rfl)) ?_
  refine pure_ (i := 2) (N := some 7) (v := undef) (a' := ?_) #[Y,Y,Y,N,N,N,N,N,N,N,N,N] rfl rfl (any_of HT_.out (by kernel_rfl)) (fun _ _ _ h => h) (Or.inr ⟨by rfl, rfl⟩) ?_ ?_; rotate_left
  ·simp only [Act.put, sA, sB, sC, i64_w, i32_w]
   rfl
  refine pure_ (i := 3) (N := some 8) (v := undef) (a' := ?_) #[Y,Y,Y,Y,N,N,N,N,N,N,N,N] rfl rfl (any_of HT_.out (by kernel_rfl)) (fun _ _ _ h => h) (Or.inr ⟨by rfl, rfl⟩) ?_ ?_; rotate_left
  ·simp only [Act.put, sA, sB, sC, i64_w, i32_w]
   rfl
  refine pure_ (i := 4) (N := some 9) (v := undef) (a' := ?_) #[Y,Y,Y,Y,Y,N,N,N,N,N,N,N] rfl rfl (any_of HT_.out (by kernel_rfl)) (fun _ _ _ h => h) (Or.inr ⟨by rfl, rfl⟩) ?_ ?_; rotate_left
  ·simp only [Act.put, sA, sB, sC, i64_w, i32_w]
   rfl
  refine pureA_ (i := 5) (N := some 10) #[Y,Y,Y,Y,Y,Y,N,N,N,N,N,N] rfl rfl (any_of HT_.out (by kernel_rfl)) ?_
  refine pureA_ (i := 6) (N := some 11) #[Y,Y,Y,Y,Y,Y,Y,N,N,N,N,N] rfl rfl (any_of HT_.out (by kernel_rfl)) ?_
  refine pureA_ (i := 8) (N := some 13) #[Y,Y,Y,Y,Y,Y,Y,N,Y,N,N,N] rfl rfl (any_of HT_.out (by kernel_rfl)) ?_
  refine take_ (i := 7) (N := some 12) (v := ?_) (a' := ?_) #[Y,Y,Y,Y,Y,Y,Y,Y,Y,N,N,N] rfl rfl (take_ofW HT_.out HW_.out (by kernel_rfl)) (fun _ _ _ h => h) (Or.inl ⟨by rfl, ?_⟩) hHeld ?_ ?_; rotate_left
  ·rintro w' ⟨s0, s1⟩; go_simp
   with_reducible rfl
  rotate_left
  ·simp only [Act.put, sA, sB, sC, i64_w, i32_w]
   rfl
  refine take_ (i := 9) (N := some 14) (v := ?_) (a' := ?_) #[Y,Y,Y,Y,Y,Y,Y,Y,Y,Y,N,N] rfl rfl (take_ofW HT_.out HW_.out (by kernel_rfl)) (fun _ _ _ h => h) (Or.inl ⟨by rfl, ?_⟩) hHeld ?_ ?_; rotate_left
  ·rintro w' ⟨s0, s1⟩; go_simp
   with_reducible rfl
  rotate_left
  ·simp only [Act.put, sA, sB, sC, i64_w, i32_w]
   rfl
  refine pureA_ (i := 10) (N := some 15) #[Y,Y,Y,Y,Y,Y,Y,Y,Y,Y,Y,N] rfl rfl (any_of HT_.out (by kernel_rfl)) ?_
  refine one_ (i := 11) (N := none) #[Y,Y,Y,Y,Y,Y,Y,Y,Y,Y,Y,Y] rfl rfl (one_of HT_.out (by kernel_rfl)) (by decide) (fun K hK => ?_); have hs13 := czZ BK108 0 (.bool false); have hfs13 := blk_frozen BK108.out 0; have hns13_0 := NB107_108.out; have hms13_0 := NB108_107.out; have hs14 := czZ BK108 1 (.int .u64 0); have hfs14 := blk_frozen BK108.out 1; have hns14_0 := NB107_108.out; have hms14_0 := NB108_107.out; have hs15 := czZ BK108 2 (.int .u64 0); have hfs15 := blk_frozen BK108.out 2; have hns15_0 := NB107_108.out; have hms15_0 := NB108_107.out; refine skip_ (w1 := ?_) (by rfl) rfl ?_ ?_; rotate_left
  ·go_simp
   rfl
  refine hK.out _ _ ⟨((cell_far (p := ⟨gb108, _, none⟩) NB107_108.out _).trans (((cell_far (p := ⟨gb108, _, none⟩) NB107_108.out _).trans (((cell_far (p := ⟨gb108, _, none⟩) NB107_108.out _).trans (hHeld.1)))))), ((cell_far (p := ⟨gb108, _, none⟩) NB107_108.out _).trans (((cell_far (p := ⟨gb108, _, none⟩) NB107_108.out _).trans (((cell_far (p := ⟨gb108, _, none⟩) NB107_108.out _).trans (hHeld.2))))))⟩ (fun hHeld => ?_); clear hK K; refine done_ (done_of HT_.out (by kernel_rfl)) ?_
  try go_wp2
  refine bodyPost_ret (results_cell_row rfl _ _ gb108 35 #[.bool false, .int .u64 a0_0, .int .u64 a0_1] (0, 0) _ rfl (by (with_reducible repeat first | apply blk_drewN | apply blk_drew | apply blk_alloc); refine blk_put (cs := #[.bool false, .int .u64 a0_0, .int .u64 0]) ?_ 2 _ rfl; (with_reducible repeat first | apply blk_drewN | apply blk_drew | apply blk_alloc); refine blk_put (cs := #[.bool false, .int .u64 0, .int .u64 0]) ?_ 1 _ rfl; (with_reducible repeat first | apply blk_drewN | apply blk_drew | apply blk_alloc); refine blk_put (cs := #[.bool false, .int .u64 0, .int .u64 0]) ?_ 0 _ rfl; (with_reducible repeat first | apply blk_drewN | apply blk_drew | apply blk_alloc); exact BK108.out) Try.underlying35 rfl (by kernel_rfl)) rfl ?_; exact ⟨by first | rfl | (rw [Int.tdiv_eq_ediv_of_nonneg] <;> first | rfl | assumption | omega) | (simp [errW_none, errW_some] <;> rfl) | (simp [*, errW_none, errW_some] <;> rfl), by repeat (first | (with_reducible first | exact HB.out | apply below_alloc | apply pw_below_drewN | apply below_drew1 | refine below_set ?_ (Aside0.out (by assumption))) | exact HB.out)⟩

/-! ### big_of: function 84 -/
noncomputable def big_of.f (a0_0 : Bool) (a0_1 : Int) (a0_2 : Int) : Option (Int × Int) := some (a0_1, a0_2)
set_option maxHeartbeats 8000000 in
set_option maxRecDepth 100000 in
theorem big_of.calls (a0_0 : Bool) (a0_1 : Int) (a0_2 : Int) (r1 : Int) (r2 : Int) (w : World) (h : big_of.f a0_0 a0_1 a0_2 = some (r1, r2)) :
  Calls Try.prog 84 #[.agg #[.bool a0_0, .int .u64 a0_1, .int .u64 a0_2]] w fun e w' => e = .returned (.agg #[.int .u64 r1, .int .u64 r2]) ∧ Below w.heap.size w w' := by
 have hu35 := Try.underlying35; have hu98 := Try.underlying98; have HB := Aside0.mk (Below.refl w.heap.size w); have H : (some (a0_1, a0_2)) = some (r1, r2) := h; clear h; simp only [Option.some.injEq, Prod.mk.injEq] at H; obtain ⟨rfl, rfl⟩ := H
 go_enter Try.func84, Try.ntmps84
 go_wp2_with (first | ((with_reducible refine gate_dst (N := 1) rfl ?_); refine box_event ?hg (N := 1) ?hd (cs := #[.bool a0_0, .int .u64 a0_1, .int .u64 a0_2]) (t := 35) ?hr ?_; (case hd => rfl); (case hg => rfl); (case hr => first | (go_simp; done) | (go_simp; rfl)); intro gb109 hg w2 hbox hb; have BK109 := Aside0.mk (hbox); obtain ⟨GW109, nHB⟩ := geA hg hb; have GE109 := GW109; replace HB := nHB; clear nHB; clear hb hbox hg) | ((with_reducible refine gate_dst (N := 2) rfl ?_); refine box_event ?hg (N := 2) ?hd (cs := #[.int .u64 0, .int .u64 0]) (t := 98) ?hr ?_; (case hd => rfl); (case hg => rfl); (case hr => first | (go_simp; done) | (go_simp; rfl)); intro gb110 hg w3 hbox hb; have BK110 := Aside0.mk (hbox); obtain ⟨GW110, nHB⟩ := geA hg hb; have GE110 := GW110; obtain ⟨NB109_110, NB110_109, nBK⟩ := nbA BK109 hg hb; replace BK109 := nBK; clear nBK; replace HB := nHB; clear nHB; clear hb hbox hg; have hnb4 := NB109_110.out; have hnc4 := NB110_109.out; have hcz5_0 := czZ BK109 0 (.bool a0_0); have hcz5_1 := czZ BK109 1 (.int .u64 a0_1); have hcz5_2 := czZ BK109 2 (.int .u64 a0_2); have hfz5_0 := blk_frozen BK109.out 0; have hfz5_1 := blk_frozen BK109.out 1; have hfz5_2 := blk_frozen BK109.out 2; have hcz6_0 := czZ BK110 0 (.int .u64 0); have hcz6_1 := czZ BK110 1 (.int .u64 0); have hfz6_0 := blk_frozen BK110.out 0; have hfz6_1 := blk_frozen BK110.out 1))
 refine bodyPost_ret (results_cell_row rfl _ _ gb110 98 #[.int .u64 a0_1, .int .u64 a0_2] (0, 0) _ rfl (by (with_reducible repeat first | apply blk_drewN | apply blk_drew | apply blk_alloc); refine blk_put (cs := #[.int .u64 a0_1, .int .u64 0]) ?_ 1 _ rfl; (with_reducible repeat first | apply blk_drewN | apply blk_drew | apply blk_alloc); refine blk_put (cs := #[.int .u64 0, .int .u64 0]) ?_ 0 _ rfl; (with_reducible repeat first | apply blk_drewN | apply blk_drew | apply blk_alloc); exact BK110.out) Try.underlying98 rfl (by kernel_rfl)) rfl ?_; exact ⟨by first | rfl | (rw [Int.tdiv_eq_ediv_of_nonneg] <;> first | rfl | assumption | omega) | (simp [errW_none, errW_some] <;> rfl) | (simp [*, errW_none, errW_some] <;> rfl), by repeat (first | (with_reducible first | exact HB.out | apply below_alloc | apply pw_below_drewN | apply below_drew1 | refine below_set ?_ (Aside0.out (by assumption))) | exact HB.out)⟩

/-! ### cmp_Or_int: function 90 -/
noncomputable def cmp_Or_int.l0 : Nat → Int → List Int → Int → Int → Option (Int)
 | 0, _, _, _, _ => none
 | k + 1, x3, x6, x7, x8 => if x8 < x7 then (if 0 ≤ x8 then (if x8 < (x6.length : Int) then (if (rd x6 x8) = x3 then (cmp_Or_int.l0 k x3 x6 x7 (wrap64 (x8 + 1))) else (some (rd x6 x8))) else (none)) else (none)) else (some x3)
noncomputable def cmp_Or_int.f (k : Nat) (l0 : List Int) : Option (Int) := cmp_Or_int.l0 k 0 l0 (l0.length : Int) 0
theorem cmp_Or_int.mono_l : ∀ k, (∀ y0 y1 y2 y3, LeO (cmp_Or_int.l0 k y0 y1 y2 y3) (cmp_Or_int.l0 (k + 1) y0 y1 y2 y3))
 | 0 => fun _ _ _ _ r h => by simp [cmp_Or_int.l0] at h
 | k + 1 => by
  have ih0 := cmp_Or_int.mono_l k
  ·intro y0 y1 y2 y3
   unfold cmp_Or_int.l0
   repeat' first
   | (with_reducible exact ih0 _ _ _ _)
   | (with_reducible exact LeO.refl _)
   | (with_reducible exact LeO.none _)
   | (with_reducible refine LeO.ite ?_ ?_)
   | (with_reducible refine LeO.bind ?_ (fun _ => ?_))
   | exact ih0 _ _ _ _
   | exact LeO.none _
   | refine LeO.ite ?_ ?_
   | refine LeO.bind ?_ (fun _ => ?_)
theorem cmp_Or_int.mono : ∀ a0 k, LeO (cmp_Or_int.f k a0) (cmp_Or_int.f (k + 1) a0) := by
 intro a0 k; have ih0 := cmp_Or_int.mono_l k
 unfold cmp_Or_int.f
 repeat' first
   | (with_reducible exact ih0 _ _ _ _)
   | (with_reducible exact LeO.refl _)
   | (with_reducible exact LeO.none _)
   | (with_reducible refine LeO.ite ?_ ?_)
   | (with_reducible refine LeO.bind ?_ (fun _ => ?_))
   | exact ih0 _ _ _ _
   | exact LeO.none _
   | refine LeO.ite ?_ ?_
   | refine LeO.bind ?_ (fun _ => ?_)
set_option maxHeartbeats 8000000 in
set_option maxRecDepth 100000 in
theorem cmp_Or_int.calls (k : Nat) (A0 : Option Addr) (c0 : Nat) (l0 : List Int) (r : Int) (w : World) (hr0 : Kd.C (Kd.int .i64) w A0 l0.length l0) (hc0 : l0.length ≤ c0) (h : cmp_Or_int.f k l0 = some r) :
  Calls Try.prog 90 #[.slice A0 l0.length c0] w fun e w' => e = .returned (.int .i64 r) ∧ Drawn0 w w' := by
 have HR0 := Aside0.mk hr0; have HC0 := Aside0.mk hc0; clear hr0 hc0; have H : (cmp_Or_int.l0 k 0 l0 (l0.length : Int) 0) = some r := h; clear h; have H' := Aside0.mk H; clear H
 go_enter Try.func90, Try.ntmps90
 go_wp2
 go_loopg [8] k (fun kq v8 w' => ∃ (x8_1 : Int), v8 = .int .i64 x8_1 ∧ Aside0 (cmp_Or_int.l0 kq 0 l0 (l0.length : Int) x8_1 = some r) ∧ Aside0 (kq ≤ k) ∧ Drawn0 w w')
 case atStart => exact ⟨(0), (by first | rfl | (simp; done) | (simp [*]; done)), H', ⟨Nat.le_refl _⟩, by repeat (first | exact Drawn0.refl _ | apply Drawn0.step)⟩
 case round =>
  clear H'; obtain ⟨x8_1, rfl, HA, HK1, ⟨m1, rfl⟩⟩ := hrel
  cases gk with
  | zero => exact absurd HA.out (by simp [cmp_Or_int.l0])
  | succ k1 =>
   have H := HA.out; clear HA; simp only [cmp_Or_int.l0] at H
   by_cases c2 : x8_1 < (l0.length : Int)
   ·rw [if_pos c2] at H
    have c2b0 : decide (x8_1 < (l0.length : Int)) = true := decide_eq_true c2; clear c2
    by_cases c3 : 0 ≤ x8_1
    ·rw [if_pos c3] at H
     have c3b0 : decide (0 ≤ x8_1) = true := decide_eq_true c3; clear c3
     by_cases c4 : x8_1 < (l0.length : Int)
     ·rw [if_pos c4] at H
      have c4b0 : decide (x8_1 < (l0.length : Int)) = true := decide_eq_true c4; clear c4
      by_cases c5 : (rd l0 x8_1) = 0
      ·rw [if_pos c5] at H
       have c5b0 : ((rd l0 x8_1) == 0) = true := beq_iff_eq.mpr c5; have c5b1 : ((rd l0 x8_1) != 0) = false := bne_eq_false_iff_eq.mpr c5; clear c5; have H' := Aside0.mk H; clear H; have p111 : 0 ≤ (x8_1 : Int) := of_decide_eq_true (by first | (with_reducible assumption) | assumption); have q111 : x8_1 < (l0.length : Int) := of_decide_eq_true (by first | (with_reducible assumption) | assumption); obtain ⟨ad111, e111, hx111_0⟩ := Kd.at_int HR0.out x8_1 p111 q111
       cases e111
       replace p111 := eq_true p111; replace q111 := eq_true q111
       go_wp2
       go_roundg k1
       case measure => have := HK1.out; omega
       case rel => exact ⟨(wrap64 (x8_1 + 1)), (by first | rfl | (simp; done) | (simp [*]; done)), H', ⟨by have := HK1.out; omega⟩, by repeat (first | exact Drawn0.refl _ | apply Drawn0.step)⟩
      ·rw [if_neg c5] at H
       have c5b0 : ((rd l0 x8_1) == 0) = false := beq_eq_false_iff_ne.mpr c5; have c5b1 : ((rd l0 x8_1) != 0) = true := bne_iff_ne.mpr c5; obtain rfl := Option.some.inj H; have p111 : 0 ≤ (x8_1 : Int) := of_decide_eq_true (by first | (with_reducible assumption) | assumption); have q111 : x8_1 < (l0.length : Int) := of_decide_eq_true (by first | (with_reducible assumption) | assumption); obtain ⟨ad111, e111, hx111_0⟩ := Kd.at_int HR0.out x8_1 p111 q111
       cases e111
       replace p111 := eq_true p111; replace q111 := eq_true q111
       go_wp2
       go_ret
       exact ⟨by first | rfl | (simp; done) | (simp [*]; done), by repeat (first | exact Drawn0.refl _ | apply Drawn0.step)⟩
     ·rw [if_neg c4] at H
      exact absurd H (by simp)
    ·rw [if_neg c3] at H
     exact absurd H (by simp)
   ·rw [if_neg c2] at H
    have c2b0 : decide (x8_1 < (l0.length : Int)) = false := decide_eq_false c2; clear c2; obtain rfl := Option.some.inj H
    go_wp2
    go_ret
    exact ⟨by first | rfl | (simp; done) | (simp [*]; done), by repeat (first | exact Drawn0.refl _ | apply Drawn0.step)⟩

/-! ### cmp_isNaN_uint64: function 94 -/
noncomputable def cmp_isNaN_uint64.f (a0 : Int) : Option (Bool) := some (a0 != a0)
set_option maxHeartbeats 8000000 in
set_option maxRecDepth 100000 in
theorem cmp_isNaN_uint64.calls (a0 : Int) (r : Bool) (w : World) (h : cmp_isNaN_uint64.f a0 = some r) :
  Calls Try.prog 94 #[.int .u64 a0] w fun e w' => e = .returned (.bool r) ∧ Drawn0 w w' := by
 have H : (some (a0 != a0)) = some r := h; clear h; obtain rfl := Option.some.inj H
 go_enter Try.func94, Try.ntmps94
 go_wp2
 go_ret
 exact ⟨by first | rfl | (simp; done) | (simp [*]; done), by repeat (first | exact Drawn0.refl _ | apply Drawn0.step)⟩

end Go.Proofs.Ytghpecgpdhaibaa.Px
