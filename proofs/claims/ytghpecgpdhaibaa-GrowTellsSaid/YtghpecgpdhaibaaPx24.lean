/- Printed by a program of this session (wip/tool/px.py), over the kit's print: for each Go function a Lean function, and the proof that the machine's call answers as that function says. Conditions: none beside what the theorems state. -/
import Derived.Test.YtghpecgpdhaibaaPx0
import Derived.Test.YtghpecgpdhaibaaPx3
import Derived.Test.YtghpecgpdhaibaaPx23
import Derived.Test.YtghpecgpdhaibaaSpec
namespace Go.Proofs.Ytghpecgpdhaibaa.Px
open Go.RowKit Go.Proofs.YtghpecgpdhaibaaW.PrintWords Go.Proofs.YtghpecgpdhaibaaW.PrintLast Go.Proofs.YtghpecgpdhaibaaW.PrintMore
attribute [local go_sem] max2_int min2_int max_two min_two max_three min_three max_four min_four   -- for this text's walks alone
set_option linter.unusedVariables false
set_option linter.unusedSimpArgs false

/-! ### grow_Calm: function 27 -/
theorem grow_by_calm (v : Value) (w : World) : (method 231 76 v "sawtooth/grow.by").run Try.prog w = .ok (113, v) w := by kernel_rfl
theorem grow_is_old_calm (v : Value) (w : World) : (Instr.typeAssert (.iface 76 v) 78 80 true).run Try.prog w = .ok (.tuple #[.agg #[.nilIface, .int .i64 0], .bool false]) w := by kernel_rfl
theorem grow_is_calm_calm (v : Value) (w : World) : (Instr.typeAssert (.iface 76 v) 78 76 true).run Try.prog w = .ok (.tuple #[v, .bool true]) w := by kernel_rfl
set_option maxHeartbeats 1000000 in
set_option maxRecDepth 100000 in
theorem grow_after_calm.calls_t (a0 a1 t W T p n m r : Int) (hx : decide (t > W) = true) (hn : (if t < n then t else n) = m) (HW : Aside0 (grow_givenS.f a0 = some W)) (HT : Aside0 (safe_ClampS.f a1 0 68719476736 = some T)) (HP : Aside0 (grow_calm_by.f t W T = some p)) (HA : Aside0 (safe_Add.f W p = some n)) (HG : Aside0 (grow_givenS.f m = some r)) (w : World) :
  Calls Try.prog 51 #[.int .i64 a0, .int .i64 a1, .iface 76 (.agg #[.int .i64 t])] w fun e w' => e = .returned (.int .i64 r) ∧ Below w.heap.size w w' := by
 have hm := grow_by_calm; have t1 := grow_is_old_calm; have t2 := grow_is_calm_calm; have hu73 := Try.underlying73; have hu76 := Try.underlying76; have hu80 := Try.underlying80
 go_enter Try.func51, Try.ntmps51
 go_wp2_with (first
  | (go_at_call 56; refine (grow_givenS.calls a0 W _ HW.out).mono ?_; rintro e w1 ⟨rfl, hb⟩; clear HW; have HB := Aside0.mk hb; clear hb)
  | (go_at_call 68; refine (safe_ClampS.calls a1 0 68719476736 T _ HT.out).mono ?_; rintro e w2 ⟨rfl, hb2⟩; replace HB := Aside0.mk (Go.Proofs.YtghpecgpdhaibaaW.PrintWords.below_then HB.out HB.out.size hb2); clear hb2)
  | (go_at_call 113; refine (grow_calm_by.calls t W T p _ HP.out).mono ?_; rintro e w3 ⟨rfl, hb3⟩; replace HB := Aside0.mk (Go.Proofs.YtghpecgpdhaibaaW.PrintWords.below_then HB.out HB.out.size hb3); clear hb3)
  | (go_at_call 69; refine (safe_Add.calls W p n _ HA.out).mono ?_; rintro e w4 ⟨rfl, hb4⟩; replace HB := Aside0.mk (Go.Proofs.YtghpecgpdhaibaaW.PrintWords.below_then HB.out HB.out.size hb4); clear hb4)
  | (go_at_call 56; refine (grow_givenS.calls m r _ HG.out).mono ?_; rintro e w5 ⟨rfl, hb5⟩; have HZ := Aside0.mk hb5; clear hb5)
  | fail)
 go_ret
 exact ⟨rfl, by first | exact below_step HB.out HZ.out | exact Go.Proofs.YtghpecgpdhaibaaW.PrintWords.below_then (by repeat (with_reducible first | exact HB.out | apply below_alloc | apply pw_below_drewN)) (by have := HB.out.size; simp at *; omega) HZ.out⟩
set_option maxHeartbeats 1000000 in
set_option maxRecDepth 100000 in
theorem grow_after_calm.calls_f (a0 a1 t W T p m r : Int) (hx : decide (t > W) = false) (HW : Aside0 (grow_givenS.f a0 = some W)) (HT : Aside0 (safe_ClampS.f a1 0 68719476736 = some T)) (HP : Aside0 (grow_calm_by.f t W T = some p)) (HA : Aside0 (safe_Add.f W p = some m)) (HG : Aside0 (grow_givenS.f m = some r)) (w : World) :
  Calls Try.prog 51 #[.int .i64 a0, .int .i64 a1, .iface 76 (.agg #[.int .i64 t])] w fun e w' => e = .returned (.int .i64 r) ∧ Below w.heap.size w w' := by
 have hm := grow_by_calm; have t1 := grow_is_old_calm; have t2 := grow_is_calm_calm; have hu73 := Try.underlying73; have hu76 := Try.underlying76; have hu80 := Try.underlying80
 go_enter Try.func51, Try.ntmps51
 go_wp2_with (first
  | (go_at_call 56; refine (grow_givenS.calls a0 W _ HW.out).mono ?_; rintro e w1 ⟨rfl, hb⟩; clear HW; have HB := Aside0.mk hb; clear hb)
  | (go_at_call 68; refine (safe_ClampS.calls a1 0 68719476736 T _ HT.out).mono ?_; rintro e w2 ⟨rfl, hb2⟩; replace HB := Aside0.mk (Go.Proofs.YtghpecgpdhaibaaW.PrintWords.below_then HB.out HB.out.size hb2); clear hb2)
  | (go_at_call 113; refine (grow_calm_by.calls t W T p _ HP.out).mono ?_; rintro e w3 ⟨rfl, hb3⟩; replace HB := Aside0.mk (Go.Proofs.YtghpecgpdhaibaaW.PrintWords.below_then HB.out HB.out.size hb3); clear hb3)
  | (go_at_call 69; refine (safe_Add.calls W p m _ HA.out).mono ?_; rintro e w4 ⟨rfl, hb4⟩; replace HB := Aside0.mk (Go.Proofs.YtghpecgpdhaibaaW.PrintWords.below_then HB.out HB.out.size hb4); clear hb4)
  | (go_at_call 56; refine (grow_givenS.calls m r _ HG.out).mono ?_; rintro e w5 ⟨rfl, hb5⟩; have HZ := Aside0.mk hb5; clear hb5)
  | fail)
 go_ret
 exact ⟨rfl, by first | exact below_step HB.out HZ.out | exact Go.Proofs.YtghpecgpdhaibaaW.PrintWords.below_then (by repeat (with_reducible first | exact HB.out | apply below_alloc | apply pw_below_drewN)) (by have := HB.out.size; simp at *; omega) HZ.out⟩
noncomputable def grow_Calm.f (a0 a1 a2 : Int) : Option Int := Go.Proofs.Ytghpecgpdhaibaa.Sp.need (Go.Proofs.Ytghpecgpdhaibaa.Sp.I a0 ∧ Go.Proofs.Ytghpecgpdhaibaa.Sp.I a1 ∧ Go.Proofs.Ytghpecgpdhaibaa.Sp.I a2) (some (Go.Proofs.Ytghpecgpdhaibaa.Sp.calmQ a0 a1 a2))
theorem grow_Calm.eq {a0 a1 a2 : Int} (h1 : Go.Proofs.Ytghpecgpdhaibaa.Sp.I a0) (h2 : Go.Proofs.Ytghpecgpdhaibaa.Sp.I a1) (h3 : Go.Proofs.Ytghpecgpdhaibaa.Sp.I a2) : grow_Calm.f a0 a1 a2 = some (Go.Proofs.Ytghpecgpdhaibaa.Sp.calmQ a0 a1 a2) := Go.Proofs.Ytghpecgpdhaibaa.Sp.need_pos ⟨h1, h2, h3⟩
section
open Go.Proofs.Ytghpecgpdhaibaa.Sp
theorem grow_calm_by.part {a t u : Int} (h1 : I t) (h2 : I u) : grow_calm_by.f t (win a) (clamp u 0 68719476736) = some (byQ a t u) := by
 have w := win_bd a; have b := clamp_bd (a := u) (low := 0) (high := 68719476736) (by omega)
 unfold grow_calm_by.f byQ
 by_cases c : t ≤ win a
 ·rw [if_pos c, if_pos c]
 ·rw [if_neg c, if_neg c, w64 (x := t - win a) (by omega), frac_FloorS.eq (by omega) (by omega) (by omega)]
  unfold floorQ
  rw [if_neg (by omega)]
  have q0 : 0 ≤ clamp u 0 68719476736 * (t - win a) / win a := Int.ediv_nonneg (Int.mul_nonneg b.1 (by omega)) (by omega)
  generalize clamp u 0 68719476736 * (t - win a) / win a = q at *
  by_cases i : I q
  ·rw [fit_in i]
   simp only [Option.bind_some, if_true]
   first | rfl | (congr 1; unfold mn Go.Proofs.Ytghpecgpdhaibaa.Sp.min2; (repeat' split) <;> omega)
  ·rw [fit_out i]
   simp only [Option.bind_some]
   rw [if_neg (by omega)]
   congr 1
   unfold Go.Proofs.Ytghpecgpdhaibaa.Sp.min2; rw [if_pos (by omega)]
end
set_option maxHeartbeats 1000000 in
set_option maxRecDepth 100000 in
theorem grow_Calm.walk (a0 a1 a2 r : Int) (HC : Aside0 (∀ w : World, Calls Try.prog 51 #[.int .i64 a0, .int .i64 a2, .iface 76 (.agg #[.int .i64 a1])] w fun e w' => e = .returned (.int .i64 r) ∧ Below w.heap.size w w')) (w : World) :
  Calls Try.prog 27 #[.int .i64 a0, .int .i64 a1, .int .i64 a2] w fun e w' => e = .returned (.int .i64 r) ∧ Below w.heap.size w w' := by
 have hu76 := Try.underlying76; have HB := Aside0.mk (Below.refl w.heap.size w)
 go_enter Try.func27, Try.ntmps27
 go_wp2_with (first
  | (go_at_call 51; refine (HC.out _).mono ?_; rintro e w1 ⟨rfl, hb⟩; have HZ := Aside0.mk hb; clear hb)
  | fail)
 go_ret
 exact ⟨rfl, by first | exact HZ.out | exact Go.Proofs.YtghpecgpdhaibaaW.PrintWords.below_then (by repeat (with_reducible first | exact HB.out | apply below_alloc | apply pw_below_drewN)) (by simp) HZ.out⟩
theorem grow_Calm.calls (a0 a1 a2 r : Int) (w : World) (h : grow_Calm.f a0 a1 a2 = some r) :
  Calls Try.prog 27 #[.int .i64 a0, .int .i64 a1, .int .i64 a2] w fun e w' => e = .returned (.int .i64 r) ∧ Below w.heap.size w w' := by
 obtain ⟨⟨h1, h2, h3⟩, h⟩ := Go.Proofs.Ytghpecgpdhaibaa.Sp.need_some h; obtain rfl := Option.some.inj h; have a := Go.Proofs.Ytghpecgpdhaibaa.Sp.win_bd a0; have b := Go.Proofs.Ytghpecgpdhaibaa.Sp.byQ_bd a0 a2 h2.2; refine grow_Calm.walk a0 a1 a2 _ ⟨fun w => ?_⟩ w; have HW := Aside0.mk (grow_givenS.eq (a := a0) h1); have HT := Aside0.mk (safe_ClampS.eq (a := a2) (b := 0) (c := 68719476736) h3 (by omega) (by omega)); have HP := Aside0.mk (grow_calm_by.part (a := a0) h2 h3)
 have HA : Aside0 (safe_Add.f (Go.Proofs.Ytghpecgpdhaibaa.Sp.win a0) (Go.Proofs.Ytghpecgpdhaibaa.Sp.byQ a0 a1 a2) = some (Go.Proofs.Ytghpecgpdhaibaa.Sp.win a0 + Go.Proofs.Ytghpecgpdhaibaa.Sp.byQ a0 a1 a2)) := ⟨by rw [safe_Add.eq (by omega) (by omega), Go.Proofs.Ytghpecgpdhaibaa.Sp.near_in (by omega)]⟩
 have HG : Aside0 (grow_givenS.f (Go.Proofs.Ytghpecgpdhaibaa.Sp.win a0 + Go.Proofs.Ytghpecgpdhaibaa.Sp.byQ a0 a1 a2) = some (Go.Proofs.Ytghpecgpdhaibaa.Sp.calmQ a0 a1 a2)) := ⟨by rw [grow_givenS.eq (by omega)]; rfl⟩
 by_cases c : a1 > Go.Proofs.Ytghpecgpdhaibaa.Sp.win a0
 ·exact grow_after_calm.calls_t (hx := decide_eq_true c) (hn := by rw [if_neg (by omega)]) (HW := HW) (HT := HT) (HP := HP) (HA := HA) (HG := HG) (w := w)
 ·exact grow_after_calm.calls_f (hx := decide_eq_false c) (HW := HW) (HT := HT) (HP := HP) (HA := HA) (HG := HG) (w := w)

/-! ### grow_Both: function 29 -/
theorem grow_by_old (v e : Value) (w : World) : (method 231 80 (.agg #[.iface 76 v, e]) "sawtooth/grow.by").run Try.prog w = .ok (113, v) w := by kernel_rfl
theorem grow_is_old_old (v : Value) (w : World) : (Instr.typeAssert (.iface 80 v) 78 80 true).run Try.prog w = .ok (.tuple #[v, .bool true]) w := by kernel_rfl
set_option maxHeartbeats 1000000 in
set_option maxRecDepth 100000 in
theorem grow_after_old.calls (a0 a1 t s W T p n m r : Int) (hn : (if n < s then s else n) = m) (HW : Aside0 (grow_givenS.f a0 = some W)) (HT : Aside0 (safe_ClampS.f a1 0 68719476736 = some T)) (HP : Aside0 (grow_calm_by.f t W T = some p)) (HA : Aside0 (safe_Add.f W p = some n)) (HG : Aside0 (grow_givenS.f m = some r)) (w : World) :
  Calls Try.prog 51 #[.int .i64 a0, .int .i64 a1, .iface 80 (.agg #[.iface 76 (.agg #[.int .i64 t]), .int .i64 s])] w fun e w' => e = .returned (.int .i64 r) ∧ Below w.heap.size w w' := by
 have hm := grow_by_old; have t1 := grow_is_old_old; have hu73 := Try.underlying73; have hu76 := Try.underlying76; have hu80 := Try.underlying80
 go_enter Try.func51, Try.ntmps51
 go_wp2_with (first
  | (go_at_call 56; refine (grow_givenS.calls a0 W _ HW.out).mono ?_; rintro e w1 ⟨rfl, hb⟩; clear HW; have HB := Aside0.mk hb; clear hb)
  | (go_at_call 68; refine (safe_ClampS.calls a1 0 68719476736 T _ HT.out).mono ?_; rintro e w2 ⟨rfl, hb2⟩; replace HB := Aside0.mk (Go.Proofs.YtghpecgpdhaibaaW.PrintWords.below_then HB.out HB.out.size hb2); clear hb2)
  | (go_at_call 113; refine (grow_calm_by.calls t W T p _ HP.out).mono ?_; rintro e w3 ⟨rfl, hb3⟩; replace HB := Aside0.mk (Go.Proofs.YtghpecgpdhaibaaW.PrintWords.below_then HB.out HB.out.size hb3); clear hb3)
  | (go_at_call 69; refine (safe_Add.calls W p n _ HA.out).mono ?_; rintro e w4 ⟨rfl, hb4⟩; replace HB := Aside0.mk (Go.Proofs.YtghpecgpdhaibaaW.PrintWords.below_then HB.out HB.out.size hb4); clear hb4)
  | (go_at_call 56; refine (grow_givenS.calls m r _ HG.out).mono ?_; rintro e w5 ⟨rfl, hb5⟩; have HZ := Aside0.mk hb5; clear hb5)
  | fail)
 go_ret
 exact ⟨rfl, by first | exact below_step HB.out HZ.out | exact Go.Proofs.YtghpecgpdhaibaaW.PrintWords.below_then (by repeat (with_reducible first | exact HB.out | apply below_alloc | apply pw_below_drewN)) (by have := HB.out.size; simp at *; omega) HZ.out⟩
noncomputable def grow_Both.f (a0 a1 a2 a3 : Int) : Option Int := Go.Proofs.Ytghpecgpdhaibaa.Sp.need (Go.Proofs.Ytghpecgpdhaibaa.Sp.I a0 ∧ Go.Proofs.Ytghpecgpdhaibaa.Sp.I a1 ∧ Go.Proofs.Ytghpecgpdhaibaa.Sp.I a2 ∧ Go.Proofs.Ytghpecgpdhaibaa.Sp.I a3) (some (Go.Proofs.Ytghpecgpdhaibaa.Sp.bothQ a0 a1 a2 a3))
theorem grow_Both.eq {a0 a1 a2 a3 : Int} (h1 : Go.Proofs.Ytghpecgpdhaibaa.Sp.I a0) (h2 : Go.Proofs.Ytghpecgpdhaibaa.Sp.I a1) (h3 : Go.Proofs.Ytghpecgpdhaibaa.Sp.I a2) (h4 : Go.Proofs.Ytghpecgpdhaibaa.Sp.I a3) : grow_Both.f a0 a1 a2 a3 = some (Go.Proofs.Ytghpecgpdhaibaa.Sp.bothQ a0 a1 a2 a3) := Go.Proofs.Ytghpecgpdhaibaa.Sp.need_pos ⟨h1, h2, h3, h4⟩
set_option maxHeartbeats 1000000 in
set_option maxRecDepth 100000 in
theorem grow_Both.walk (a0 a1 a2 a3 r : Int) (HC : Aside0 (∀ w : World, Calls Try.prog 51 #[.int .i64 a0, .int .i64 a3, .iface 80 (.agg #[.iface 76 (.agg #[.int .i64 a1]), .int .i64 a2])] w fun e w' => e = .returned (.int .i64 r) ∧ Below w.heap.size w w')) (w : World) :
  Calls Try.prog 29 #[.int .i64 a0, .int .i64 a1, .int .i64 a2, .int .i64 a3] w fun e w' => e = .returned (.int .i64 r) ∧ Below w.heap.size w w' := by
 have hu76 := Try.underlying76; have hu80 := Try.underlying80; have HB := Aside0.mk (Below.refl w.heap.size w)
 go_enter Try.func29, Try.ntmps29
 go_wp2_with (first
  | (go_at_call 51; refine (HC.out _).mono ?_; rintro e w1 ⟨rfl, hb⟩; have HZ := Aside0.mk hb; clear hb)
  | fail)
 go_ret
 exact ⟨rfl, by first | exact HZ.out | exact Go.Proofs.YtghpecgpdhaibaaW.PrintWords.below_then (by repeat (with_reducible first | exact HB.out | apply below_alloc | apply pw_below_drewN)) (by simp) HZ.out⟩
theorem grow_Both.calls (a0 a1 a2 a3 r : Int) (w : World) (h : grow_Both.f a0 a1 a2 a3 = some r) :
  Calls Try.prog 29 #[.int .i64 a0, .int .i64 a1, .int .i64 a2, .int .i64 a3] w fun e w' => e = .returned (.int .i64 r) ∧ Below w.heap.size w w' := by
 obtain ⟨⟨h1, h2, h3, h4⟩, h⟩ := Go.Proofs.Ytghpecgpdhaibaa.Sp.need_some h; obtain rfl := Option.some.inj h; have a := Go.Proofs.Ytghpecgpdhaibaa.Sp.win_bd a0; have b := Go.Proofs.Ytghpecgpdhaibaa.Sp.byQ_bd a0 a3 h2.2; refine grow_Both.walk a0 a1 a2 a3 _ ⟨fun w => ?_⟩ w
 have HA : Aside0 (safe_Add.f (Go.Proofs.Ytghpecgpdhaibaa.Sp.win a0) (Go.Proofs.Ytghpecgpdhaibaa.Sp.byQ a0 a1 a3) = some (Go.Proofs.Ytghpecgpdhaibaa.Sp.win a0 + Go.Proofs.Ytghpecgpdhaibaa.Sp.byQ a0 a1 a3)) := ⟨by rw [safe_Add.eq (by omega) (by omega), Go.Proofs.Ytghpecgpdhaibaa.Sp.near_in (by omega)]⟩
 exact grow_after_old.calls (hn := rfl) (HW := ⟨grow_givenS.eq (a := a0) h1⟩) (HT := ⟨safe_ClampS.eq (a := a3) (b := 0) (c := 68719476736) h4 (by omega) (by omega)⟩) (HP := ⟨grow_calm_by.part (a := a0) h2 h4⟩) (HA := HA) (HG := ⟨by rw [grow_givenS.eq (by split <;> omega)]; rfl⟩) (w := w)

/-! ### grow_Limit: function 31 -/
noncomputable def grow_Limit.f (a0 : Int) (a1 : Int) : Option (Int) := (grow_givenS.f a0).bind fun t246 => ((grow_givenS.f a1).bind fun t247 => (some (mn t246 t247)))
set_option maxHeartbeats 8000000 in
set_option maxRecDepth 100000 in
theorem grow_Limit.calls (a0 : Int) (a1 : Int) (r : Int) (w : World) (h : grow_Limit.f a0 a1 = some r) :
  Calls Try.prog 31 #[.int .i64 a0, .int .i64 a1] w fun e w' => e = .returned (.int .i64 r) ∧ Below w.heap.size w w' := by
 have HB := Aside0.mk (Below.refl w.heap.size w); have H : ((grow_givenS.f a0).bind fun t246 => ((grow_givenS.f a1).bind fun t247 => (some (mn t246 t247)))) = some r := h; clear h; replace H := Option.bind_eq_some_iff.mp H; obtain ⟨t246, A30, H⟩ := H; replace H : ((grow_givenS.f a1).bind fun t247 => (some (mn t246 t247))) = some r := H; have A3 := Aside0.mk A30; clear A30; replace H := Option.bind_eq_some_iff.mp H; obtain ⟨t247, A40, H⟩ := H; replace H : (some (mn t246 t247)) = some r := H; have A4 := Aside0.mk A40; clear A40
 obtain ⟨ji5, hji5⟩ : ∃ j_ : Int, (mn t246 t247) = j_ := ⟨_, rfl⟩
 replace H : (some ji5) = some r := by first | (rw [hji5] at H; exact H) | (simp only [hji5] at H ⊢; exact H)
 (try rw [hji5] at A3)
 (try rw [hji5] at A4)
 have hji5_ : (if t247 < t246 then t247 else t246) = ji5 := hji5; obtain rfl := Option.some.inj H
 go_enter Try.func31, Try.ntmps31
 go_wp2_with (first | ((with_reducible refine gate_callee (f := 56) rfl ?_); refine goesLA_ (some 6) rfl rfl Try.func56 rfl #[.int .i64 a0] rfl ?_; (with_reducible refine (grow_givenS.calls a0 t246 _ A3.out).mono ?_); rintro e w6 ⟨rfl, hb⟩; refine ⟨_, rfl, ?_⟩; replace HB := stA hb; clear hb) | ((with_reducible refine gate_callee (f := 56) rfl ?_); refine goesLA_ (some 8) rfl rfl Try.func56 rfl #[.int .i64 a1] rfl ?_; (with_reducible refine (grow_givenS.calls a1 t247 _ A4.out).mono ?_); rintro e w7 ⟨rfl, hb⟩; refine ⟨_, rfl, ?_⟩; replace HB := stA hb; clear hb))
 go_ret
 exact ⟨by first | rfl | (simp [errW_none, errW_some] <;> rfl) | (simp only [← hji5]; first | rfl | (simp [errW_none, errW_some] <;> rfl)) | (simp [*, errW_none, errW_some] <;> rfl), by repeat (first | (with_reducible first | exact HB.out | apply below_alloc | apply pw_below_drewN | apply below_drew1) | exact HB.out)⟩

/-! ### grow_LimitS: one between bounds: pure, behind function 31 -/
noncomputable def grow_LimitS.f (a b : Int) : Option Int := Go.Proofs.Ytghpecgpdhaibaa.Sp.need (Go.Proofs.Ytghpecgpdhaibaa.Sp.I a ∧ Go.Proofs.Ytghpecgpdhaibaa.Sp.I b) (some (Go.Proofs.Ytghpecgpdhaibaa.Sp.min2 (Go.Proofs.Ytghpecgpdhaibaa.Sp.win a) (Go.Proofs.Ytghpecgpdhaibaa.Sp.win b)))
theorem grow_LimitS.eq {a b : Int} (h1 : Go.Proofs.Ytghpecgpdhaibaa.Sp.I a) (h2 : Go.Proofs.Ytghpecgpdhaibaa.Sp.I b) : grow_LimitS.f a b = some (Go.Proofs.Ytghpecgpdhaibaa.Sp.min2 (Go.Proofs.Ytghpecgpdhaibaa.Sp.win a) (Go.Proofs.Ytghpecgpdhaibaa.Sp.win b)) := Go.Proofs.Ytghpecgpdhaibaa.Sp.need_pos ⟨h1, h2⟩
theorem grow_LimitS.calls (a0 a1 r : Int) (w : World) (h : grow_LimitS.f a0 a1 = some r) :
  Calls Try.prog 31 #[.int .i64 a0, .int .i64 a1] w fun e w' => e = .returned (.int .i64 r) ∧ Below w.heap.size w w' := by
 obtain ⟨⟨h1, h2⟩, h⟩ := Go.Proofs.Ytghpecgpdhaibaa.Sp.need_some h; refine grow_Limit.calls a0 a1 r w ?_
 unfold grow_Limit.f
 rw [grow_givenS.eq h1, grow_givenS.eq h2, ← h]
 simp only [Option.bind_some]
 first | rfl | (congr 1; unfold mn Go.Proofs.Ytghpecgpdhaibaa.Sp.min2; (repeat' split) <;> omega)

/-! ### sawtoothlaw14_awake: function 24 -/
noncomputable def sawtoothlaw14_awake.f  : Option (Bool) := (grow_Slow.f 655360 196608 0 0 0 false false 0 0).bind fun t249 => (if t249 = 851968 then ((grow_Slow.f 655360 1966080 0 0 0 false false 0 0).bind fun t250 => (if t250 = 1179648 then ((grow_Slow.f 655360 1966080 0 0 0 true false 5 0).bind fun t251 => (if t251 = 786432 then ((grow_Slow.f 655360 196608 0 0 0 false true 0 0).bind fun t252 => (if t252 = 655360 then ((grow_Calm.f 655360 786432 327680).bind fun t253 => (if t253 = 720896 then ((grow_Calm.f 655360 589824 327680).bind fun t254 => (if t254 = 655360 then ((grow_Calm.f 655360 786432 3276800).bind fun t255 => (if t255 = 786432 then ((grow_Calm.f 0 0 0).bind fun t256 => (if t256 = 131072 then ((grow_Both.f 655360 786432 851968 327680).bind fun t257 => (if t257 = 851968 then ((grow_Both.f 655360 786432 196608 327680).bind fun t258 => (if t258 = 720896 then ((grow_LimitS.f 655360 589824).bind fun t259 => (if t259 = 589824 then ((grow_LimitS.f 0 0).bind fun t260 => (if t260 = 131072 then ((grow_LimitS.f 1152921504606846976 1152921504606846976).bind fun t261 => (some (t261 == 68719476736))) else (none))) else (none))) else (none))) else (none))) else (none))) else (none))) else (none))) else (none))) else (none))) else (none))) else (none))) else (none))
set_option maxHeartbeats 8000000 in
set_option maxRecDepth 100000 in
theorem sawtoothlaw14_awake.calls  (r : Bool) (w : World) (h : sawtoothlaw14_awake.f  = some r) :
  Calls Try.prog 24 #[] w fun e w' => e = .returned (.bool r) ∧ Below w.heap.size w w' := by
 have hu43 := Try.underlying43; have HB := Aside0.mk (Below.refl w.heap.size w); have H : ((grow_Slow.f 655360 196608 0 0 0 false false 0 0).bind fun t249 => (if t249 = 851968 then ((grow_Slow.f 655360 1966080 0 0 0 false false 0 0).bind fun t250 => (if t250 = 1179648 then ((grow_Slow.f 655360 1966080 0 0 0 true false 5 0).bind fun t251 => (if t251 = 786432 then ((grow_Slow.f 655360 196608 0 0 0 false true 0 0).bind fun t252 => (if t252 = 655360 then ((grow_Calm.f 655360 786432 327680).bind fun t253 => (if t253 = 720896 then ((grow_Calm.f 655360 589824 327680).bind fun t254 => (if t254 = 655360 then ((grow_Calm.f 655360 786432 3276800).bind fun t255 => (if t255 = 786432 then ((grow_Calm.f 0 0 0).bind fun t256 => (if t256 = 131072 then ((grow_Both.f 655360 786432 851968 327680).bind fun t257 => (if t257 = 851968 then ((grow_Both.f 655360 786432 196608 327680).bind fun t258 => (if t258 = 720896 then ((grow_LimitS.f 655360 589824).bind fun t259 => (if t259 = 589824 then ((grow_LimitS.f 0 0).bind fun t260 => (if t260 = 131072 then ((grow_LimitS.f 1152921504606846976 1152921504606846976).bind fun t261 => (some (t261 == 68719476736))) else (none))) else (none))) else (none))) else (none))) else (none))) else (none))) else (none))) else (none))) else (none))) else (none))) else (none))) else (none))) = some r := h; clear h; replace H := Option.bind_eq_some_iff.mp H; obtain ⟨t249, A10, H⟩ := H; (try dsimp only at H); have A1 := Aside0.mk A10; clear A10
 by_cases c2 : t249 = 851968
 ·rw [if_pos c2] at H
  have c2b0 : (t249 == 851968) = true := beq_iff_eq.mpr c2; have c2b1 : (t249 != 851968) = false := bne_eq_false_iff_eq.mpr c2; clear c2; replace H := Option.bind_eq_some_iff.mp H; obtain ⟨t250, A30, H⟩ := H; (try dsimp only at H); have A3 := Aside0.mk A30; clear A30
  by_cases c4 : t250 = 1179648
  ·rw [if_pos c4] at H
   have c4b0 : (t250 == 1179648) = true := beq_iff_eq.mpr c4; have c4b1 : (t250 != 1179648) = false := bne_eq_false_iff_eq.mpr c4; clear c4; replace H := Option.bind_eq_some_iff.mp H; obtain ⟨t251, A50, H⟩ := H; (try dsimp only at H); have A5 := Aside0.mk A50; clear A50
   by_cases c6 : t251 = 786432
   ·rw [if_pos c6] at H
    have c6b0 : (t251 == 786432) = true := beq_iff_eq.mpr c6; have c6b1 : (t251 != 786432) = false := bne_eq_false_iff_eq.mpr c6; clear c6; replace H := Option.bind_eq_some_iff.mp H; obtain ⟨t252, A70, H⟩ := H; (try dsimp only at H); have A7 := Aside0.mk A70; clear A70
    by_cases c8 : t252 = 655360
    ·rw [if_pos c8] at H
     have c8b0 : (t252 == 655360) = true := beq_iff_eq.mpr c8; have c8b1 : (t252 != 655360) = false := bne_eq_false_iff_eq.mpr c8; clear c8; replace H := Option.bind_eq_some_iff.mp H; obtain ⟨t253, A90, H⟩ := H; (try dsimp only at H); have A9 := Aside0.mk A90; clear A90
     by_cases c10 : t253 = 720896
     ·rw [if_pos c10] at H
      have c10b0 : (t253 == 720896) = true := beq_iff_eq.mpr c10; have c10b1 : (t253 != 720896) = false := bne_eq_false_iff_eq.mpr c10; clear c10; replace H := Option.bind_eq_some_iff.mp H; obtain ⟨t254, A110, H⟩ := H; (try dsimp only at H); have A11 := Aside0.mk A110; clear A110
      by_cases c12 : t254 = 655360
      ·rw [if_pos c12] at H
       have c12b0 : (t254 == 655360) = true := beq_iff_eq.mpr c12; have c12b1 : (t254 != 655360) = false := bne_eq_false_iff_eq.mpr c12; clear c12; replace H := Option.bind_eq_some_iff.mp H; obtain ⟨t255, A130, H⟩ := H; (try dsimp only at H); have A13 := Aside0.mk A130; clear A130
       by_cases c14 : t255 = 786432
       ·rw [if_pos c14] at H
        have c14b0 : (t255 == 786432) = true := beq_iff_eq.mpr c14; have c14b1 : (t255 != 786432) = false := bne_eq_false_iff_eq.mpr c14; clear c14; replace H := Option.bind_eq_some_iff.mp H; obtain ⟨t256, A150, H⟩ := H; (try dsimp only at H); have A15 := Aside0.mk A150; clear A150
        by_cases c16 : t256 = 131072
        ·rw [if_pos c16] at H
         have c16b0 : (t256 == 131072) = true := beq_iff_eq.mpr c16; have c16b1 : (t256 != 131072) = false := bne_eq_false_iff_eq.mpr c16; clear c16; replace H := Option.bind_eq_some_iff.mp H; obtain ⟨t257, A170, H⟩ := H; (try dsimp only at H); have A17 := Aside0.mk A170; clear A170
         by_cases c18 : t257 = 851968
         ·rw [if_pos c18] at H
          have c18b0 : (t257 == 851968) = true := beq_iff_eq.mpr c18; have c18b1 : (t257 != 851968) = false := bne_eq_false_iff_eq.mpr c18; clear c18; replace H := Option.bind_eq_some_iff.mp H; obtain ⟨t258, A190, H⟩ := H; (try dsimp only at H); have A19 := Aside0.mk A190; clear A190
          by_cases c20 : t258 = 720896
          ·rw [if_pos c20] at H
           have c20b0 : (t258 == 720896) = true := beq_iff_eq.mpr c20; have c20b1 : (t258 != 720896) = false := bne_eq_false_iff_eq.mpr c20; clear c20; replace H := Option.bind_eq_some_iff.mp H; obtain ⟨t259, A210, H⟩ := H; (try dsimp only at H); have A21 := Aside0.mk A210; clear A210
           by_cases c22 : t259 = 589824
           ·rw [if_pos c22] at H
            have c22b0 : (t259 == 589824) = true := beq_iff_eq.mpr c22; have c22b1 : (t259 != 589824) = false := bne_eq_false_iff_eq.mpr c22; clear c22; replace H := Option.bind_eq_some_iff.mp H; obtain ⟨t260, A230, H⟩ := H; replace H : (if t260 = 131072 then ((grow_LimitS.f 1152921504606846976 1152921504606846976).bind fun t261 => (some (t261 == 68719476736))) else (none)) = some r := H; have A23 := Aside0.mk A230; clear A230
            by_cases c24 : t260 = 131072
            ·rw [if_pos c24] at H
             have c24b0 : (t260 == 131072) = true := beq_iff_eq.mpr c24; have c24b1 : (t260 != 131072) = false := bne_eq_false_iff_eq.mpr c24; clear c24; replace H := Option.bind_eq_some_iff.mp H; obtain ⟨t261, A250, H⟩ := H; replace H : (some (t261 == 68719476736)) = some r := H; have A25 := Aside0.mk A250; clear A250; obtain rfl := Option.some.inj H
             go_enter Try.func24, Try.ntmps24
             go_wp2_with (first | ((with_reducible refine gate_dst (N := 1) rfl ?_); refine box_event ?hg (N := 1) ?hd (cs := #[.int .i64 0, .int .i64 0, .int .i64 0, .bool false, .bool false, .int .i64 0, .int .i64 0]) (t := 43) ?hr ?_; (case hd => rfl); (case hg => rfl); (case hr => first | (go_simp; done) | (go_simp; rfl)); intro gb248 hg w26 hbox hb; have BK248 := Aside0.mk (hbox); obtain ⟨GW248, nHB⟩ := geA hg hb; have GE248 := GW248; replace HB := nHB; clear nHB; clear hb hbox hg; have hcz27_0 := czZ BK248 0 (.int .i64 0); have hcz27_1 := czZ BK248 1 (.int .i64 0); have hcz27_2 := czZ BK248 2 (.int .i64 0); have hcz27_3 := czZ BK248 3 (.bool false); have hcz27_4 := czZ BK248 4 (.bool false); have hcz27_5 := czZ BK248 5 (.int .i64 0); have hcz27_6 := czZ BK248 6 (.int .i64 0); have hfz27_0 := blk_frozen BK248.out 0; have hfz27_1 := blk_frozen BK248.out 1; have hfz27_2 := blk_frozen BK248.out 2; have hfz27_3 := blk_frozen BK248.out 3; have hfz27_4 := blk_frozen BK248.out 4; have hfz27_5 := blk_frozen BK248.out 5; have hfz27_6 := blk_frozen BK248.out 6) | ((with_reducible refine gate_callee (f := 25) rfl ?_); refine goesLA_ (some 4) rfl rfl Try.func25 rfl #[.int .i64 655360, .int .i64 196608, .agg #[.int .i64 0, .int .i64 0, .int .i64 0, .bool false, .bool false, .int .i64 0, .int .i64 0]] rfl ?_; (with_reducible refine (grow_Slow.calls 655360 196608 0 0 0 false false 0 0 t249 _ A1.out).mono ?_); rintro e w28 ⟨rfl, hb⟩; refine ⟨_, rfl, ?_⟩; replace BK248 := Aside0.mk (blk_below (g := gb248) (o := .cells #[.int .i64 0, .int .i64 0, .int .i64 0, .bool true, .bool false, .int .i64 5, .int .i64 0] 43 (0, 0)) (by (with_reducible repeat first | apply blk_drewN | apply blk_drew | apply blk_alloc); refine blk_put (cs := #[.int .i64 0, .int .i64 0, .int .i64 0, .bool true, .bool false, .int .i64 5, .int .i64 0]) ?_ 6 _ rfl; (with_reducible repeat first | apply blk_drewN | apply blk_drew | apply blk_alloc); refine blk_put (cs := #[.int .i64 0, .int .i64 0, .int .i64 0, .bool true, .bool false, .int .i64 0, .int .i64 0]) ?_ 5 _ rfl; (with_reducible repeat first | apply blk_drewN | apply blk_drew | apply blk_alloc); refine blk_put (cs := #[.int .i64 0, .int .i64 0, .int .i64 0, .bool true, .bool false, .int .i64 0, .int .i64 0]) ?_ 4 _ rfl; (with_reducible repeat first | apply blk_drewN | apply blk_drew | apply blk_alloc); refine blk_put (cs := #[.int .i64 0, .int .i64 0, .int .i64 0, .bool false, .bool false, .int .i64 0, .int .i64 0]) ?_ 3 _ rfl; (with_reducible repeat first | apply blk_drewN | apply blk_drew | apply blk_alloc); refine blk_put (cs := #[.int .i64 0, .int .i64 0, .int .i64 0, .bool false, .bool false, .int .i64 0, .int .i64 0]) ?_ 2 _ rfl; (with_reducible repeat first | apply blk_drewN | apply blk_drew | apply blk_alloc); refine blk_put (cs := #[.int .i64 0, .int .i64 0, .int .i64 0, .bool false, .bool false, .int .i64 0, .int .i64 0]) ?_ 1 _ rfl; (with_reducible repeat first | apply blk_drewN | apply blk_drew | apply blk_alloc); refine blk_put (cs := #[.int .i64 0, .int .i64 0, .int .i64 0, .bool false, .bool false, .int .i64 0, .int .i64 0]) ?_ 0 _ rfl; (with_reducible repeat first | apply blk_drewN | apply blk_drew | apply blk_alloc); exact BK248.out) hb); replace HB := stA hb; clear hb) | (go_at_call 25; (with_reducible refine (grow_Slow.calls 655360 1966080 0 0 0 false false 0 0 t250 _ A3.out).mono ?_); rintro e w29 ⟨rfl, hb⟩; replace BK248 := bdZ BK248 hb; replace HB := stA hb; clear hb; have hcz30_0 := czZ BK248 0 (.int .i64 0); have hcz30_1 := czZ BK248 1 (.int .i64 0); have hcz30_2 := czZ BK248 2 (.int .i64 0); have hcz30_3 := czZ BK248 3 (.bool true); have hcz30_4 := czZ BK248 4 (.bool false); have hcz30_5 := czZ BK248 5 (.int .i64 5); have hcz30_6 := czZ BK248 6 (.int .i64 0); have hfz30_0 := blk_frozen BK248.out 0; have hfz30_1 := blk_frozen BK248.out 1; have hfz30_2 := blk_frozen BK248.out 2; have hfz30_3 := blk_frozen BK248.out 3; have hfz30_4 := blk_frozen BK248.out 4; have hfz30_5 := blk_frozen BK248.out 5; have hfz30_6 := blk_frozen BK248.out 6) | (go_at_call 25; (with_reducible refine (grow_Slow.calls 655360 1966080 0 0 0 true false 5 0 t251 _ A5.out).mono ?_); rintro e w31 ⟨rfl, hb⟩; replace BK248 := bdZ BK248 hb; replace HB := stA hb; clear hb) | (go_at_call 25; (with_reducible refine (grow_Slow.calls 655360 196608 0 0 0 false true 0 0 t252 _ A7.out).mono ?_); rintro e w32 ⟨rfl, hb⟩; replace BK248 := bdZ BK248 hb; replace HB := stA hb; clear hb) | (go_at_call 27; (with_reducible refine (grow_Calm.calls 655360 786432 327680 t253 _ A9.out).mono ?_); rintro e w33 ⟨rfl, hb⟩; replace BK248 := bdZ BK248 hb; replace HB := stA hb; clear hb) | (go_at_call 27; (with_reducible refine (grow_Calm.calls 655360 589824 327680 t254 _ A11.out).mono ?_); rintro e w34 ⟨rfl, hb⟩; replace BK248 := bdZ BK248 hb; replace HB := stA hb; clear hb) | (go_at_call 27; (with_reducible refine (grow_Calm.calls 655360 786432 3276800 t255 _ A13.out).mono ?_); rintro e w35 ⟨rfl, hb⟩; replace BK248 := bdZ BK248 hb; replace HB := stA hb; clear hb) | (go_at_call 27; (with_reducible refine (grow_Calm.calls 0 0 0 t256 _ A15.out).mono ?_); rintro e w36 ⟨rfl, hb⟩; replace BK248 := bdZ BK248 hb; replace HB := stA hb; clear hb) | (go_at_call 29; (with_reducible refine (grow_Both.calls 655360 786432 851968 327680 t257 _ A17.out).mono ?_); rintro e w37 ⟨rfl, hb⟩; replace BK248 := bdZ BK248 hb; replace HB := stA hb; clear hb) | (go_at_call 29; (with_reducible refine (grow_Both.calls 655360 786432 196608 327680 t258 _ A19.out).mono ?_); rintro e w38 ⟨rfl, hb⟩; replace BK248 := bdZ BK248 hb; replace HB := stA hb; clear hb) | (go_at_call 31; (with_reducible refine (grow_LimitS.calls 655360 589824 t259 _ A21.out).mono ?_); rintro e w39 ⟨rfl, hb⟩; replace BK248 := bdZ BK248 hb; replace HB := stA hb; clear hb) | (go_at_call 31; (with_reducible refine (grow_LimitS.calls 0 0 t260 _ A23.out).mono ?_); rintro e w40 ⟨rfl, hb⟩; replace BK248 := bdZ BK248 hb; replace HB := stA hb; clear hb) | (go_at_call 31; (with_reducible refine (grow_LimitS.calls 1152921504606846976 1152921504606846976 t261 _ A25.out).mono ?_); rintro e w41 ⟨rfl, hb⟩; replace BK248 := bdZ BK248 hb; replace HB := stA hb; clear hb))
             go_ret
             exact ⟨by first | rfl | (simp [errW_none, errW_some] <;> rfl) | (simp [*, errW_none, errW_some] <;> rfl), by repeat (first | (with_reducible first | exact HB.out | apply below_alloc | apply pw_below_drewN | apply below_drew1 | refine below_set ?_ GE248.out) | exact HB.out)⟩
            ·rw [if_neg c24] at H
             exact absurd H (by simp)
           ·rw [if_neg c22] at H
            exact absurd H (by simp)
          ·rw [if_neg c20] at H
           exact absurd H (by simp)
         ·rw [if_neg c18] at H
          exact absurd H (by simp)
        ·rw [if_neg c16] at H
         exact absurd H (by simp)
       ·rw [if_neg c14] at H
        exact absurd H (by simp)
      ·rw [if_neg c12] at H
       exact absurd H (by simp)
     ·rw [if_neg c10] at H
      exact absurd H (by simp)
    ·rw [if_neg c8] at H
     exact absurd H (by simp)
   ·rw [if_neg c6] at H
    exact absurd H (by simp)
  ·rw [if_neg c4] at H
   exact absurd H (by simp)
 ·rw [if_neg c2] at H
  exact absurd H (by simp)

/-! ### sawtoothlaw14_awakeS: the answers that the document fixes: pure, behind function 24 -/
noncomputable def sawtoothlaw14_awakeS.f : Option Bool := some true
section
open Go.Proofs.Ytghpecgpdhaibaa.Sp
theorem sawtoothlaw14_awake.main : sawtoothlaw14_awake.f = some true := by
 have hs : ∀ (a b c d e : Int) (g h : Bool) (i j : Int), I a → I b → grow_Slow.f a b c d e g h i j = some (slowQ a b g h) := fun _ _ _ _ _ _ _ _ _ x y => grow_Slow.eq x y
 unfold sawtoothlaw14_awake.f
 rw [hs _ _ _ _ _ _ _ _ _ (by omega) (by omega), hs _ _ _ _ _ _ _ _ _ (by omega) (by omega), hs _ _ _ _ _ _ _ _ _ (by omega) (by omega), hs _ _ _ _ _ _ _ _ _ (by omega) (by omega), grow_Calm.eq (by omega) (by omega) (by omega), grow_Calm.eq (by omega) (by omega) (by omega), grow_Calm.eq (by omega) (by omega) (by omega), grow_Calm.eq (by omega) (by omega) (by omega), grow_Both.eq (by omega) (by omega) (by omega) (by omega), grow_Both.eq (by omega) (by omega) (by omega) (by omega), grow_LimitS.eq (by omega) (by omega), grow_LimitS.eq (by omega) (by omega), grow_LimitS.eq (by omega) (by omega)]
 simp [slowQ, partQ, calmQ, byQ, bothQ, Go.Proofs.Ytghpecgpdhaibaa.Sp.min2, win, clamp]
end
theorem sawtoothlaw14_awakeS.calls (r : Bool) (w : World) (h : sawtoothlaw14_awakeS.f = some r) :
  Calls Try.prog 24 #[] w fun e w' => e = .returned (.bool r) ∧ Below w.heap.size w w' :=
 sawtoothlaw14_awake.calls r w (by rw [sawtoothlaw14_awake.main]; exact h)

/-! ### sawtoothref01_Clamp: function 39 -/
noncomputable def sawtoothref01_Clamp.f (a0 : Int) (a1 : Int) (a2 : Int) : Option (Int) := if a0 < a1 then (some a1) else (if a0 > a2 then (some a2) else (some a0))
set_option maxHeartbeats 8000000 in
set_option maxRecDepth 100000 in
theorem sawtoothref01_Clamp.calls (a0 : Int) (a1 : Int) (a2 : Int) (r : Int) (w : World) (h : sawtoothref01_Clamp.f a0 a1 a2 = some r) :
  Calls Try.prog 39 #[.int .i64 a0, .int .i64 a1, .int .i64 a2] w fun e w' => e = .returned (.int .i64 r) ∧ Drawn0 w w' := by
 have H : (if a0 < a1 then (some a1) else (if a0 > a2 then (some a2) else (some a0))) = some r := h; clear h
 by_cases c4 : a0 < a1
 ·rw [if_pos c4] at H
  have c4b0 : decide (a0 < a1) = true := decide_eq_true c4; clear c4; obtain rfl := Option.some.inj H
  go_enter Try.func39, Try.ntmps39
  go_wp2
  go_ret
  exact ⟨by first | rfl | (simp; done) | (simp [*]; done), by repeat (first | exact Drawn0.refl _ | apply Drawn0.step)⟩
 ·rw [if_neg c4] at H
  have c4b0 : decide (a0 < a1) = false := decide_eq_false c4; clear c4
  by_cases c5 : a0 > a2
  ·rw [if_pos c5] at H
   have c5b0 : decide (a2 < a0) = true := decide_eq_true c5; clear c5; obtain rfl := Option.some.inj H
   go_enter Try.func39, Try.ntmps39
   go_wp2
   go_ret
   exact ⟨by first | rfl | (simp; done) | (simp [*]; done), by repeat (first | exact Drawn0.refl _ | apply Drawn0.step)⟩
  ·rw [if_neg c5] at H
   have c5b0 : decide (a2 < a0) = false := decide_eq_false c5; clear c5; obtain rfl := Option.some.inj H
   go_enter Try.func39, Try.ntmps39
   go_wp2
   go_ret
   exact ⟨by first | rfl | (simp; done) | (simp [*]; done), by repeat (first | exact Drawn0.refl _ | apply Drawn0.step)⟩

/-! ### sawtoothref14_told: function 52 -/
noncomputable def sawtoothref14_told.f (a0 : Int) : Option (Int) := (sawtoothref01_Clamp.f a0 0 68719476736).bind fun t262 => (some t262)
set_option maxHeartbeats 8000000 in
set_option maxRecDepth 100000 in
theorem sawtoothref14_told.calls (a0 : Int) (r : Int) (w : World) (h : sawtoothref14_told.f a0 = some r) :
  Calls Try.prog 52 #[.int .i64 a0] w fun e w' => e = .returned (.int .i64 r) ∧ Drawn0 w w' := by
 have H : ((sawtoothref01_Clamp.f a0 0 68719476736).bind fun t262 => (some t262)) = some r := h; clear h; replace H := Option.bind_eq_some_iff.mp H; obtain ⟨t262, A20, H⟩ := H; replace H : (some t262) = some r := H; have A2 := Aside0.mk A20; clear A20; obtain rfl := Option.some.inj H
 go_enter Try.func52, Try.ntmps52
 go_wp2_with (first | ((with_reducible refine gate_callee (f := 39) rfl ?_); refine goesLA_ (some 4) rfl rfl Try.func39 rfl #[.int .i64 a0, .int .i64 0, .int .i64 68719476736] rfl ?_; (with_reducible refine (sawtoothref01_Clamp.calls a0 0 68719476736 t262 _ A2.out).mono ?_); rintro e w' ⟨rfl, ⟨nd, rfl⟩⟩; refine ⟨_, rfl, ?_⟩))
 go_ret
 exact ⟨by first | rfl | (simp; done) | (simp [*]; done), by repeat (first | exact Drawn0.refl _ | apply Drawn0.step)⟩

/-! ### sawtoothref14_Given: function 53 -/
noncomputable def sawtoothref14_Given.f (a0 : Int) : Option (Int) := (sawtoothref01_Clamp.f a0 131072 68719476736).bind fun t263 => (some t263)
set_option maxHeartbeats 8000000 in
set_option maxRecDepth 100000 in
theorem sawtoothref14_Given.calls (a0 : Int) (r : Int) (w : World) (h : sawtoothref14_Given.f a0 = some r) :
  Calls Try.prog 53 #[.int .i64 a0] w fun e w' => e = .returned (.int .i64 r) ∧ Drawn0 w w' := by
 have H : ((sawtoothref01_Clamp.f a0 131072 68719476736).bind fun t263 => (some t263)) = some r := h; clear h; replace H := Option.bind_eq_some_iff.mp H; obtain ⟨t263, A20, H⟩ := H; replace H : (some t263) = some r := H; have A2 := Aside0.mk A20; clear A20; obtain rfl := Option.some.inj H
 go_enter Try.func53, Try.ntmps53
 go_wp2_with (first | ((with_reducible refine gate_callee (f := 39) rfl ?_); refine goesLA_ (some 4) rfl rfl Try.func39 rfl #[.int .i64 a0, .int .i64 131072, .int .i64 68719476736] rfl ?_; (with_reducible refine (sawtoothref01_Clamp.calls a0 131072 68719476736 t263 _ A2.out).mono ?_); rintro e w' ⟨rfl, ⟨nd, rfl⟩⟩; refine ⟨_, rfl, ?_⟩))
 go_ret
 exact ⟨by first | rfl | (simp; done) | (simp [*]; done), by repeat (first | exact Drawn0.refl _ | apply Drawn0.step)⟩

/-! ### sawtoothref10_Part: function 54 -/
noncomputable def sawtoothref10_Part.j0 : Nat → Int → Bool → Int → Int → Int → Bool → Bool → Int → Int → Option (Int)
 | 0, _, _, _, _, _, _, _, _, _ => none
 | k + 1, x1, x10, x265000, x265001, x265002, x265003, x265004, x265005, x265006 => if x10 = true then (some 0) else (if x265003 = true then (some (wrap64 (Int.tdiv x1 4))) else (some x1))
noncomputable def sawtoothref10_Part.f (k : Nat) (a0_0 : Int) (a0_1 : Int) (a0_2 : Int) (a0_3 : Bool) (a0_4 : Bool) (a0_5 : Int) (a0_6 : Int) (a1 : Int) : Option (Int) := if a0_4 = true then (sawtoothref10_Part.j0 k a1 true a0_0 a0_1 a0_2 a0_3 a0_4 a0_5 a0_6) else (sawtoothref10_Part.j0 k a1 (decide (a1 < 0)) a0_0 a0_1 a0_2 a0_3 a0_4 a0_5 a0_6)
theorem sawtoothref10_Part.mono_l : ∀ k, (∀ y0 y1 y2 y3 y4 y5 y6 y7 y8, LeO (sawtoothref10_Part.j0 k y0 y1 y2 y3 y4 y5 y6 y7 y8) (sawtoothref10_Part.j0 (k + 1) y0 y1 y2 y3 y4 y5 y6 y7 y8))
 | 0 => fun _ _ _ _ _ _ _ _ _ r h => by simp [sawtoothref10_Part.j0] at h
 | k + 1 => by
  have ih0 := sawtoothref10_Part.mono_l k
  ·intro y0 y1 y2 y3 y4 y5 y6 y7 y8
   unfold sawtoothref10_Part.j0
   repeat' first
   | (with_reducible exact ih0 _ _ _ _ _ _ _ _ _)
   | (with_reducible exact LeO.refl _)
   | (with_reducible exact LeO.none _)
   | (with_reducible refine LeO.ite ?_ ?_)
   | (with_reducible refine LeO.bind ?_ (fun _ => ?_))
   | exact ih0 _ _ _ _ _ _ _ _ _
   | exact LeO.none _
   | refine LeO.ite ?_ ?_
   | refine LeO.bind ?_ (fun _ => ?_)
theorem sawtoothref10_Part.mono : ∀ a0 a1 a2 a3 a4 a5 a6 a7 k, LeO (sawtoothref10_Part.f k a0 a1 a2 a3 a4 a5 a6 a7) (sawtoothref10_Part.f (k + 1) a0 a1 a2 a3 a4 a5 a6 a7) := by
 intro a0 a1 a2 a3 a4 a5 a6 a7 k; have ih0 := sawtoothref10_Part.mono_l k
 unfold sawtoothref10_Part.f
 repeat' first
   | (with_reducible exact ih0 _ _ _ _ _ _ _ _ _)
   | (with_reducible exact LeO.refl _)
   | (with_reducible exact LeO.none _)
   | (with_reducible refine LeO.ite ?_ ?_)
   | (with_reducible refine LeO.bind ?_ (fun _ => ?_))
   | exact ih0 _ _ _ _ _ _ _ _ _
   | exact LeO.none _
   | refine LeO.ite ?_ ?_
   | refine LeO.bind ?_ (fun _ => ?_)
set_option maxHeartbeats 8000000 in
set_option maxRecDepth 100000 in
theorem sawtoothref10_Part.calls (k : Nat) (a0_0 : Int) (a0_1 : Int) (a0_2 : Int) (a0_3 : Bool) (a0_4 : Bool) (a0_5 : Int) (a0_6 : Int) (a1 : Int) (r : Int) (w : World) (h : sawtoothref10_Part.f k a0_0 a0_1 a0_2 a0_3 a0_4 a0_5 a0_6 a1 = some r) :
  Calls Try.prog 54 #[.agg #[.int .i64 a0_0, .int .i64 a0_1, .int .i64 a0_2, .bool a0_3, .bool a0_4, .int .i64 a0_5, .int .i64 a0_6], .int .i64 a1] w fun e w' => e = .returned (.int .i64 r) ∧ Below w.heap.size w w' := by
 have hu43 := Try.underlying43; have HB := Aside0.mk (Below.refl w.heap.size w); have H : (if a0_4 = true then (sawtoothref10_Part.j0 k a1 true a0_0 a0_1 a0_2 a0_3 a0_4 a0_5 a0_6) else (sawtoothref10_Part.j0 k a1 (decide (a1 < 0)) a0_0 a0_1 a0_2 a0_3 a0_4 a0_5 a0_6)) = some r := h; clear h; have HC3 := Aside0.mk H; clear H
 go_enter Try.func54, Try.ntmps54
 go_upto_region 1 with (first | ((with_reducible refine gate_dst (N := 2) rfl ?_); refine box_event ?hg (N := 2) ?hd (cs := #[.int .i64 a0_0, .int .i64 a0_1, .int .i64 a0_2, .bool a0_3, .bool a0_4, .int .i64 a0_5, .int .i64 a0_6]) (t := 43) ?hr ?_; (case hd => rfl); (case hg => rfl); (case hr => first | (go_simp; done) | (go_simp; rfl)); intro gb264 hg w4 hbox hb; have BK264 := Aside0.mk (hbox); obtain ⟨GW264, nHB⟩ := geA hg hb; have GE264 := GW264; replace HB := nHB; clear nHB; clear hb hbox hg))
 (try simp only [Act.put, sA, sB, sC])
 go_cut [10] (fun v10 wc => ∃ (kq : Nat) (x10_2 : Bool), v10 = .bool x10_2 ∧ Aside0 (sawtoothref10_Part.j0 kq a1 x10_2 a0_0 a0_1 a0_2 a0_3 a0_4 a0_5 a0_6 = some r) ∧ Aside0 (kq ≤ k) ∧ Aside0 (wc.heap[gb264]? = some (.cells #[.int .i64 a0_0, .int .i64 a0_1, .int .i64 a0_2, .bool a0_3, .bool a0_4, .int .i64 a0_5, .int .i64 a0_6] 43 (0, 0))) ∧ Aside0 (Below w.heap.size w wc))
 case first =>
  have H := HC3.out; clear HC3
  by_cases c5 : a0_4 = true
  ·subst c5
   have H1 : (sawtoothref10_Part.j0 k a1 true a0_0 a0_1 a0_2 a0_3 true a0_5 a0_6) = some r := by rw [if_pos rfl] at H; exact H
   clear H; have H := H1; clear H1; have H' := Aside0.mk H; clear H; have hcz6_0 := czZ BK264 0 (.int .i64 a0_0); have hcz6_1 := czZ BK264 1 (.int .i64 a0_1); have hcz6_2 := czZ BK264 2 (.int .i64 a0_2); have hcz6_3 := czZ BK264 3 (.bool a0_3); have hcz6_4 := czZ BK264 4 (.bool true); have hcz6_5 := czZ BK264 5 (.int .i64 a0_5); have hcz6_6 := czZ BK264 6 (.int .i64 a0_6); have hfz6_0 := blk_frozen BK264.out 0; have hfz6_1 := blk_frozen BK264.out 1; have hfz6_2 := blk_frozen BK264.out 2; have hfz6_3 := blk_frozen BK264.out 3; have hfz6_4 := blk_frozen BK264.out 4; have hfz6_5 := blk_frozen BK264.out 5; have hfz6_6 := blk_frozen BK264.out 6
   go_wp2
   go_meet
   case rel => exact ⟨_, (true), (by first | rfl | (simp; done) | (simp [*]; done)), H', ⟨by first | omega | exact Nat.le_refl _⟩, ⟨by (with_reducible repeat first | apply blk_drewN | apply blk_drew | apply blk_alloc); exact BK264.out⟩, ⟨by repeat (first | (with_reducible first | exact HB.out | apply below_alloc | apply pw_below_drewN | apply below_drew1 | refine below_set ?_ GE264.out) | exact HB.out)⟩⟩
  ·replace c5 := Bool.eq_false_iff.mpr c5
   subst c5
   have H1 : (sawtoothref10_Part.j0 k a1 (decide (a1 < 0)) a0_0 a0_1 a0_2 a0_3 false a0_5 a0_6) = some r := by rw [if_neg (show ¬ (false = true) by decide)] at H; exact H
   clear H; have H := H1; clear H1; have H' := Aside0.mk H; clear H; have hcz7_0 := czZ BK264 0 (.int .i64 a0_0); have hcz7_1 := czZ BK264 1 (.int .i64 a0_1); have hcz7_2 := czZ BK264 2 (.int .i64 a0_2); have hcz7_3 := czZ BK264 3 (.bool a0_3); have hcz7_4 := czZ BK264 4 (.bool false); have hcz7_5 := czZ BK264 5 (.int .i64 a0_5); have hcz7_6 := czZ BK264 6 (.int .i64 a0_6); have hfz7_0 := blk_frozen BK264.out 0; have hfz7_1 := blk_frozen BK264.out 1; have hfz7_2 := blk_frozen BK264.out 2; have hfz7_3 := blk_frozen BK264.out 3; have hfz7_4 := blk_frozen BK264.out 4; have hfz7_5 := blk_frozen BK264.out 5; have hfz7_6 := blk_frozen BK264.out 6
   go_wp2
   go_meet
   case rel => exact ⟨_, (decide (a1 < 0)), (by first | rfl | (simp; done) | (simp [*]; done)), H', ⟨by first | omega | exact Nat.le_refl _⟩, ⟨by (with_reducible repeat first | apply blk_drewN | apply blk_drew | apply blk_alloc); exact BK264.out⟩, ⟨by repeat (first | (with_reducible first | exact HB.out | apply below_alloc | apply pw_below_drewN | apply below_drew1 | refine below_set ?_ GE264.out) | exact HB.out)⟩⟩
 case rest =>
  clear HC3
  try clear p2
  try clear c5
  try clear hcz6_0
  try clear hcz6_1
  try clear hcz6_2
  try clear hcz6_3
  try clear hcz6_4
  try clear hcz6_5
  try clear hcz6_6
  try clear hcz7_0
  try clear hcz7_1
  try clear hcz7_2
  try clear hcz7_3
  try clear hcz7_4
  try clear hcz7_5
  try clear hcz7_6
  try clear hfz6_0
  try clear hfz6_1
  try clear hfz6_2
  try clear hfz6_3
  try clear hfz6_4
  try clear hfz6_5
  try clear hfz6_6
  try clear hfz7_0
  try clear hfz7_1
  try clear hfz7_2
  try clear hfz7_3
  try clear hfz7_4
  try clear hfz7_5
  try clear hfz7_6
  obtain ⟨kq, x10_2, rfl, HA, HJ2, BK264, HB⟩ := hcut
  cases kq with
  | zero => exact absurd HA.out (by simp [sawtoothref10_Part.j0])
  | succ kj2 =>
   have H := HA.out; clear HA; simp only [sawtoothref10_Part.j0] at H
   by_cases c8 : x10_2 = true
   ·subst c8
    have H1 : (some 0) = some r := by rw [if_pos rfl] at H; exact H
    clear H; have H := H1; clear H1; obtain rfl := Option.some.inj H
    go_wp2
    go_ret
    exact ⟨by first | rfl | (simp [errW_none, errW_some] <;> rfl) | (simp [*, errW_none, errW_some] <;> rfl), by repeat (first | (with_reducible first | exact HB.out | apply below_alloc | apply pw_below_drewN | apply below_drew1 | refine below_set ?_ GE264.out) | exact HB.out)⟩
   ·replace c8 := Bool.eq_false_iff.mpr c8
    subst c8
    have H1 : (if a0_3 = true then (some (wrap64 (Int.tdiv a1 4))) else (some a1)) = some r := by rw [if_neg (show ¬ (false = true) by decide)] at H; exact H
    clear H; have H := H1; clear H1
    by_cases c9 : a0_3 = true
    ·subst c9
     have H1 : (some (wrap64 (Int.tdiv a1 4))) = some r := by rw [if_pos rfl] at H; exact H
     clear H; have H := H1; clear H1; obtain rfl := Option.some.inj H; have hcz10_0 : wc.cell? ⟨gb264, 0, none⟩ = some (.int .i64 a0_0) := (blk_cell BK264.out 0).trans rfl; have hcz10_1 : wc.cell? ⟨gb264, 1, none⟩ = some (.int .i64 a0_1) := (blk_cell BK264.out 1).trans rfl; have hcz10_2 : wc.cell? ⟨gb264, 2, none⟩ = some (.int .i64 a0_2) := (blk_cell BK264.out 2).trans rfl; have hcz10_3 : wc.cell? ⟨gb264, 3, none⟩ = some (.bool true) := (blk_cell BK264.out 3).trans rfl; have hcz10_4 : wc.cell? ⟨gb264, 4, none⟩ = some (.bool a0_4) := (blk_cell BK264.out 4).trans rfl; have hcz10_5 : wc.cell? ⟨gb264, 5, none⟩ = some (.int .i64 a0_5) := (blk_cell BK264.out 5).trans rfl; have hcz10_6 : wc.cell? ⟨gb264, 6, none⟩ = some (.int .i64 a0_6) := (blk_cell BK264.out 6).trans rfl; have hfz10_0 := blk_frozen BK264.out 0; have hfz10_1 := blk_frozen BK264.out 1; have hfz10_2 := blk_frozen BK264.out 2; have hfz10_3 := blk_frozen BK264.out 3; have hfz10_4 := blk_frozen BK264.out 4; have hfz10_5 := blk_frozen BK264.out 5; have hfz10_6 := blk_frozen BK264.out 6
     go_wp2
     go_ret
     exact ⟨by first | rfl | (simp [errW_none, errW_some] <;> rfl) | (simp [*, errW_none, errW_some] <;> rfl), by repeat (first | (with_reducible first | exact HB.out | apply below_alloc | apply pw_below_drewN | apply below_drew1 | refine below_set ?_ GE264.out) | exact HB.out)⟩
    ·replace c9 := Bool.eq_false_iff.mpr c9
     subst c9
     have H1 : (some a1) = some r := by rw [if_neg (show ¬ (false = true) by decide)] at H; exact H
     clear H; have H := H1; clear H1; obtain rfl := Option.some.inj H; have hcz11_0 : wc.cell? ⟨gb264, 0, none⟩ = some (.int .i64 a0_0) := (blk_cell BK264.out 0).trans rfl; have hcz11_1 : wc.cell? ⟨gb264, 1, none⟩ = some (.int .i64 a0_1) := (blk_cell BK264.out 1).trans rfl; have hcz11_2 : wc.cell? ⟨gb264, 2, none⟩ = some (.int .i64 a0_2) := (blk_cell BK264.out 2).trans rfl; have hcz11_3 : wc.cell? ⟨gb264, 3, none⟩ = some (.bool false) := (blk_cell BK264.out 3).trans rfl; have hcz11_4 : wc.cell? ⟨gb264, 4, none⟩ = some (.bool a0_4) := (blk_cell BK264.out 4).trans rfl; have hcz11_5 : wc.cell? ⟨gb264, 5, none⟩ = some (.int .i64 a0_5) := (blk_cell BK264.out 5).trans rfl; have hcz11_6 : wc.cell? ⟨gb264, 6, none⟩ = some (.int .i64 a0_6) := (blk_cell BK264.out 6).trans rfl; have hfz11_0 := blk_frozen BK264.out 0; have hfz11_1 := blk_frozen BK264.out 1; have hfz11_2 := blk_frozen BK264.out 2; have hfz11_3 := blk_frozen BK264.out 3; have hfz11_4 := blk_frozen BK264.out 4; have hfz11_5 := blk_frozen BK264.out 5; have hfz11_6 := blk_frozen BK264.out 6
     go_wp2
     go_ret
     exact ⟨by first | rfl | (simp [errW_none, errW_some] <;> rfl) | (simp [*, errW_none, errW_some] <;> rfl), by repeat (first | (with_reducible first | exact HB.out | apply below_alloc | apply pw_below_drewN | apply below_drew1 | refine below_set ?_ GE264.out) | exact HB.out)⟩

end Go.Proofs.Ytghpecgpdhaibaa.Px
