/- Printed by a program of this session (wip/tool/px.py), over the kit's print: for each Go function a Lean function, and the proof that the machine's call answers as that function says. Conditions: none beside what the theorems state. -/
import Derived.Test.YtepmnfjcmppghaaPx0
import Derived.Test.YtepmnfjcmppghaaPx3
import Derived.Test.YtepmnfjcmppghaaPx22
import Derived.Test.YtepmnfjcmppghaaSpec
namespace Go.Proofs.Ytepmnfjcmppghaa.Px
open Go.RowKit Go.Proofs.YtepmnfjcmppghaaW.PrintWords Go.Proofs.YtepmnfjcmppghaaW.PrintLast Go.Proofs.YtepmnfjcmppghaaW.PrintMore
attribute [local go_sem] max2_int min2_int max_two min_two max_three min_three max_four min_four   -- for this text's walks alone
set_option linter.unusedVariables false
set_option linter.unusedSimpArgs false

theorem unguard_Px23 {P : Program} {ops : Array Oper} {rest : List Oper} {o : Oper} {a : Act} {W : World} {Q : Exit → Act → World → Prop} (hw : Region.wanted o (yielded ops a.tmps) = true) (h : wpList P ops Q ({ o with guard := none } :: rest) a W) : wpList P ops Q (o :: rest) a W := by
 unfold wpList at h ⊢
 rw [if_pos hw]
 rw [if_pos (by simp [Region.wanted])] at h
 exact h

/-! ### reno_Step: function 23 -/
noncomputable def reno_Step.f (a0 : Int) (a1 : Int) (a2 : Int) (a3 : Int) : Option (Int) := (reno_Part.f a0 a1).bind fun bt237 => ((reno_between_int.f a0 0 68719476736).bind fun t239 => ((reno_between_int.f a2 65536 68719476736).bind fun t240 => ((reno_between_int.f a3 0 68719476736).bind fun t241 => ((frac_FloorS.f (wrap64 (t241 * bt237.1)) 65536 (wrap64 (t240 * bt237.2))).bind fun bt242 => ((safe_Add.f t239 bt242.1).bind fun t244 => ((reno_between_int.f t244 0 68719476736).bind fun t245 => (some t245)))))))
set_option maxHeartbeats 8000000 in
set_option maxRecDepth 100000 in
theorem reno_Step.calls (a0 : Int) (a1 : Int) (a2 : Int) (a3 : Int) (r : Int) (w : World) (h : reno_Step.f a0 a1 a2 a3 = some r) :
  Calls Try.prog 23 #[.int .i64 a0, .int .i64 a1, .int .i64 a2, .int .i64 a3] w fun e w' => e = .returned (.int .i64 r) ∧ Below w.heap.size w w' := by
 have HB := Aside0.mk (Below.refl w.heap.size w); have H : ((reno_Part.f a0 a1).bind fun bt237 => ((reno_between_int.f a0 0 68719476736).bind fun t239 => ((reno_between_int.f a2 65536 68719476736).bind fun t240 => ((reno_between_int.f a3 0 68719476736).bind fun t241 => ((frac_FloorS.f (wrap64 (t241 * bt237.1)) 65536 (wrap64 (t240 * bt237.2))).bind fun bt242 => ((safe_Add.f t239 bt242.1).bind fun t244 => ((reno_between_int.f t244 0 68719476736).bind fun t245 => (some t245)))))))) = some r := h; clear h; replace H := Option.bind_eq_some_iff.mp H; obtain ⟨⟨t237, t238⟩, A50, H⟩ := H; (try dsimp only at H); have A5 := Aside0.mk A50; clear A50; replace H := Option.bind_eq_some_iff.mp H; obtain ⟨t239, A60, H⟩ := H; (try dsimp only at H); have A6 := Aside0.mk A60; clear A60; replace H := Option.bind_eq_some_iff.mp H; obtain ⟨t240, A70, H⟩ := H; (try dsimp only at H); have A7 := Aside0.mk A70; clear A70; replace H := Option.bind_eq_some_iff.mp H; obtain ⟨t241, A80, H⟩ := H; (try dsimp only at H); have A8 := Aside0.mk A80; clear A80; replace H := Option.bind_eq_some_iff.mp H; obtain ⟨⟨t242, t243⟩, A90, H⟩ := H; replace H : ((safe_Add.f t239 t242).bind fun t244 => ((reno_between_int.f t244 0 68719476736).bind fun t245 => (some t245))) = some r := H; have A9 := Aside0.mk A90; clear A90; replace H := Option.bind_eq_some_iff.mp H; obtain ⟨t244, A100, H⟩ := H; replace H : ((reno_between_int.f t244 0 68719476736).bind fun t245 => (some t245)) = some r := H; have A10 := Aside0.mk A100; clear A100; replace H := Option.bind_eq_some_iff.mp H; obtain ⟨t245, A110, H⟩ := H; replace H : (some t245) = some r := H; have A11 := Aside0.mk A110; clear A110; obtain rfl := Option.some.inj H
 go_enter Try.func23, Try.ntmps23
 go_wp2_with (first | ((with_reducible refine gate_callee (f := 22) rfl ?_); refine goesLA_ (some 16) rfl rfl Try.func22 rfl #[.int .i64 a0, .int .i64 a1] rfl ?_; (with_reducible refine (reno_Part.calls a0 a1 t237 t238 _ A5.out).mono ?_); rintro e w' ⟨rfl, ⟨nd, rfl⟩⟩; refine ⟨_, rfl, ?_⟩) | ((with_reducible refine gate_callee (f := 35) rfl ?_); refine goesLA_ (some 20) rfl rfl Try.func35 rfl #[.int .i64 a0, .int .i64 0, .int .i64 68719476736] rfl ?_; (with_reducible refine (reno_between_int.calls a0 0 68719476736 t239 _ A6.out).mono ?_); rintro e w12 ⟨rfl, hb⟩; refine ⟨_, rfl, ?_⟩; replace HB := stA hb; (try clear hb); (try clear hb2); (try clear hk); (try clear hi)) | ((with_reducible refine gate_callee (f := 35) rfl ?_); refine goesLA_ (some 22) rfl rfl Try.func35 rfl #[.int .i64 a2, .int .i64 65536, .int .i64 68719476736] rfl ?_; (with_reducible refine (reno_between_int.calls a2 65536 68719476736 t240 _ A7.out).mono ?_); rintro e w13 ⟨rfl, hb⟩; refine ⟨_, rfl, ?_⟩; replace HB := stA hb; (try clear hb); (try clear hb2); (try clear hk); (try clear hi)) | ((with_reducible refine gate_callee (f := 35) rfl ?_); refine goesLA_ (some 24) rfl rfl Try.func35 rfl #[.int .i64 a3, .int .i64 0, .int .i64 68719476736] rfl ?_; (with_reducible refine (reno_between_int.calls a3 0 68719476736 t241 _ A8.out).mono ?_); rintro e w14 ⟨rfl, hb⟩; refine ⟨_, rfl, ?_⟩; replace HB := stA hb; (try clear hb); (try clear hb2); (try clear hk); (try clear hi)) | ((with_reducible refine gate_callee (f := 36) rfl ?_); refine goesLA_ (some 32) rfl rfl Try.func36 rfl #[.int .i64 (wrap64 (t241 * t237)), .int .i64 65536, .int .i64 (wrap64 (t240 * t238))] rfl ?_; (with_reducible refine (frac_FloorS.calls (wrap64 (t241 * t237)) 65536 (wrap64 (t240 * t238)) t242 t243 _ A9.out).mono ?_); rintro e w15 ⟨rfl, hb⟩; refine ⟨_, rfl, ?_⟩; replace HB := stA hb; (try clear hb); (try clear hb2); (try clear hk); (try clear hi)) | ((with_reducible refine gate_callee (f := 37) rfl ?_); refine goesLA_ (some 37) rfl rfl Try.func37 rfl #[.int .i64 t239, .int .i64 t242] rfl ?_; (with_reducible refine (safe_Add.calls t239 t242 t244 _ A10.out).mono ?_); rintro e w16 ⟨rfl, hb⟩; refine ⟨_, rfl, ?_⟩; replace HB := stA hb; (try clear hb); (try clear hb2); (try clear hk); (try clear hi)) | ((with_reducible refine gate_callee (f := 35) rfl ?_); refine goesLA_ (some 38) rfl rfl Try.func35 rfl #[.int .i64 t244, .int .i64 0, .int .i64 68719476736] rfl ?_; (with_reducible refine (reno_between_int.calls t244 0 68719476736 t245 _ A11.out).mono ?_); rintro e w17 ⟨rfl, hb⟩; refine ⟨_, rfl, ?_⟩; replace HB := stA hb; (try clear hb); (try clear hb2); (try clear hk); (try clear hi)))
 go_ret
 exact ⟨by first | rfl | (simp [errW_none, errW_some] <;> rfl) | (simp [*, errW_none, errW_some] <;> rfl), by repeat (first | (with_reducible first | exact HB.out | apply below_alloc | apply pw_below_drewN | apply below_drew1) | exact HB.out)⟩

/-! ### reno_StepS: pure, behind function 23 -/
noncomputable def reno_StepS.f (a b c d : Int) : Option Int := Go.Proofs.Ytepmnfjcmppghaa.Sp.need (Go.Proofs.Ytepmnfjcmppghaa.Sp.I a ∧ Go.Proofs.Ytepmnfjcmppghaa.Sp.I b ∧ Go.Proofs.Ytepmnfjcmppghaa.Sp.I c ∧ Go.Proofs.Ytepmnfjcmppghaa.Sp.I d) (some (Go.Proofs.Ytepmnfjcmppghaa.Sp.stepQ a b c d))
theorem reno_StepS.eq {a b c d : Int} (h1 : Go.Proofs.Ytepmnfjcmppghaa.Sp.I a) (h2 : Go.Proofs.Ytepmnfjcmppghaa.Sp.I b) (h3 : Go.Proofs.Ytepmnfjcmppghaa.Sp.I c) (h4 : Go.Proofs.Ytepmnfjcmppghaa.Sp.I d) : reno_StepS.f a b c d = some (Go.Proofs.Ytepmnfjcmppghaa.Sp.stepQ a b c d) := Go.Proofs.Ytepmnfjcmppghaa.Sp.need_pos ⟨h1, h2, h3, h4⟩
section
open Go.Proofs.Ytepmnfjcmppghaa.Sp
theorem reno_Step.main {a b c d : Int} (h1 : Go.Proofs.Ytepmnfjcmppghaa.Sp.I a) (h2 : Go.Proofs.Ytepmnfjcmppghaa.Sp.I b) (h3 : Go.Proofs.Ytepmnfjcmppghaa.Sp.I c) (h4 : Go.Proofs.Ytepmnfjcmppghaa.Sp.I d) : reno_Step.f a b c d = some (Go.Proofs.Ytepmnfjcmppghaa.Sp.stepQ a b c d) := by
 unfold reno_Step.f reno_Part.f reno_between_int.f stepQ
 have e0 : ∀ x l u : Int, l ≤ u → mn (mx x l) u = clamp x l u := by
  intro x l u h; unfold mn mx clamp; split <;> split <;> (try split) <;> omega
 simp only [Option.bind_some, e0 _ 0 68719476736 (by omega), e0 _ 65536 68719476736 (by omega)]; have b1 := clamp_bd (a := a) (low := 0) (high := 68719476736) (by omega); have b2 := clamp_bd (a := c) (low := 65536) (high := 68719476736) (by omega); have b3 := clamp_bd (a := d) (low := 0) (high := 68719476736) (by omega)
 generalize clamp a 0 68719476736 = x at b1 ⊢
 generalize clamp c 65536 68719476736 = y at b2 ⊢
 generalize clamp d 0 68719476736 = z at b3 ⊢
 have key : ∀ p q : Int, 1 ≤ p → p ≤ 9 → 1 ≤ q → q ≤ 17 → I (z * p) ∧ I (y * q) ∧ 0 < y * q ∧ I (z * p * 65536 / (y * q)) ∧ I (x + z * p * 65536 / (y * q)) := by
  intro p q hp1 hp2 hq1 hq2; have m1 : 0 ≤ z * p := Int.mul_nonneg (by omega) (by omega); have m2 : z * p ≤ 68719476736 * 9 := Int.mul_le_mul (by omega) (by omega) (by omega) (by omega); have m3 : 65536 * 1 ≤ y * q := Int.mul_le_mul (by omega) (by omega) (by omega) (by omega); have m4 : y * q ≤ 68719476736 * 17 := Int.mul_le_mul (by omega) (by omega) (by omega) (by omega)
  generalize z * p = u at *
  generalize y * q = v at *
  have d1 : 0 ≤ u * 65536 / v := Int.ediv_nonneg (by omega) (by omega)
  have d2 : u * 65536 / v ≤ u := by
   apply Int.ediv_le_of_le_mul (by omega)
   exact Int.mul_le_mul_of_nonneg_left (by omega) (by omega)
  omega
 have fin : ∀ p q : Int, I (z * p) ∧ I (y * q) ∧ 0 < y * q ∧ I (z * p * 65536 / (y * q)) ∧ I (x + z * p * 65536 / (y * q)) → ((frac_FloorS.f (wrap64 (z * p)) 65536 (wrap64 (y * q))).bind fun bt => (safe_Add.f x bt.1).bind fun t => some (clamp t 0 68719476736)) = some (clamp (x + z * p * 65536 / (y * q)) 0 68719476736) := by
  intro p q ⟨k1, k2, k3, k4, k5⟩
  rw [w64 k1, w64 k2, frac_FloorS.eq k1 (by omega) k2, floorQ_in k3 k4]
  simp only [Option.bind_some]
  rw [safe_Add.eq (by omega) k4, near_in k5]
  rfl
 by_cases c : a < b
 ·simp only [if_pos c]; exact fin 9 17 (key 9 17 (by omega) (by omega) (by omega) (by omega))
 ·simp only [if_neg c]; exact fin 1 1 (key 1 1 (by omega) (by omega) (by omega) (by omega))
end
theorem reno_StepS.calls (a b c d r : Int) (w : World) (h : reno_StepS.f a b c d = some r) :
  Calls Try.prog 23 #[.int .i64 a, .int .i64 b, .int .i64 c, .int .i64 d] w fun e w' => e = .returned (.int .i64 r) ∧ Below w.heap.size w w' := by
 obtain ⟨hc, h⟩ := Go.Proofs.Ytepmnfjcmppghaa.Sp.need_some h; obtain ⟨h1, h2, h3, h4⟩ := hc; exact reno_Step.calls a b c d r w (by rw [reno_Step.main h1 h2 h3 h4]; exact h)

/-! ### reno_Steps: function 25 -/
noncomputable def reno_Steps.l0 : Nat → Int → Int → Int → List Int → Int → Int → Option (Int)
 | 0, _, _, _, _, _, _ => none
 | k + 1, x0, x1, x2, x11, x12, x13 => if x13 < x12 then (if 0 ≤ x13 then (if x13 < (x11.length : Int) then ((reno_StepS.f x0 x1 x2 (rd x11 x13)).bind fun t247 => (reno_Steps.l0 k t247 x1 x2 x11 x12 (wrap64 (x13 + 1)))) else (none)) else (none)) else (some x0)
noncomputable def reno_Steps.f (k : Nat) (a0 : Int) (a1 : Int) (a2 : Int) (l3 : List Int) : Option (Int) := reno_Steps.l0 k a0 a1 a2 l3 (l3.length : Int) 0
theorem reno_Steps.mono_l : ∀ k, (∀ y0 y1 y2 y3 y4 y5, LeO (reno_Steps.l0 k y0 y1 y2 y3 y4 y5) (reno_Steps.l0 (k + 1) y0 y1 y2 y3 y4 y5))
 | 0 => fun _ _ _ _ _ _ r h => by simp [reno_Steps.l0] at h
 | k + 1 => by
  have ih0 := reno_Steps.mono_l k
  ·intro y0 y1 y2 y3 y4 y5
   unfold reno_Steps.l0
   repeat' first
   | (with_reducible exact ih0 _ _ _ _ _ _)
   | (with_reducible exact LeO.refl _)
   | (with_reducible exact LeO.none _)
   | (with_reducible refine LeO.ite ?_ ?_)
   | (with_reducible refine LeO.bind ?_ (fun _ => ?_))
   | exact ih0 _ _ _ _ _ _
   | exact LeO.none _
   | refine LeO.ite ?_ ?_
   | refine LeO.bind ?_ (fun _ => ?_)
theorem reno_Steps.mono : ∀ a0 a1 a2 a3 k, LeO (reno_Steps.f k a0 a1 a2 a3) (reno_Steps.f (k + 1) a0 a1 a2 a3) := by
 intro a0 a1 a2 a3 k; have ih0 := reno_Steps.mono_l k
 unfold reno_Steps.f
 repeat' first
   | (with_reducible exact ih0 _ _ _ _ _ _)
   | (with_reducible exact LeO.refl _)
   | (with_reducible exact LeO.none _)
   | (with_reducible refine LeO.ite ?_ ?_)
   | (with_reducible refine LeO.bind ?_ (fun _ => ?_))
   | exact ih0 _ _ _ _ _ _
   | exact LeO.none _
   | refine LeO.ite ?_ ?_
   | refine LeO.bind ?_ (fun _ => ?_)
set_option maxHeartbeats 8000000 in
set_option maxRecDepth 100000 in
theorem reno_Steps.calls (k : Nat) (a0 : Int) (a1 : Int) (a2 : Int) (A3 : Option Addr) (c3 : Nat) (l3 : List Int) (r : Int) (w : World) (hr3 : Kd.C (Kd.int .i64) w A3 l3.length l3) (hc3 : l3.length ≤ c3) (h : reno_Steps.f k a0 a1 a2 l3 = some r) :
  Calls Try.prog 25 #[.int .i64 a0, .int .i64 a1, .int .i64 a2, .slice A3 l3.length c3] w fun e w' => e = .returned (.int .i64 r) ∧ Below w.heap.size w w' := by
 have HR3 := Aside0.mk hr3; have HC3 := Aside0.mk hc3; clear hr3 hc3; have HB := Aside0.mk (Below.refl w.heap.size w); have H : (reno_Steps.l0 k a0 a1 a2 l3 (l3.length : Int) 0) = some r := h; clear h; have H' := Aside0.mk H; clear H
 go_enter Try.func25, Try.ntmps25
 go_wp2
 go_loopg [0, 13] k (fun kq v0 v13 w' => ∃ (x0_1 : Int) (x13_1 : Int), v0 = .int .i64 x0_1 ∧ v13 = .int .i64 x13_1 ∧ Aside0 (reno_Steps.l0 kq x0_1 a1 a2 l3 (l3.length : Int) x13_1 = some r) ∧ Aside0 (kq ≤ k) ∧ Aside0 (Below w.heap.size w w'))
 case atStart => exact ⟨(a0), (0), (by first | rfl | (simp; done) | (simp [*]; done)), (by first | rfl | (simp; done) | (simp [*]; done)), H', ⟨Nat.le_refl _⟩, ⟨by repeat (first | (with_reducible first | exact HB.out | apply below_alloc | apply pw_below_drewN | apply below_drew1) | exact HB.out)⟩⟩
 case round =>
  clear H'
  try clear c2
  try clear p2
  try clear c3
  obtain ⟨x0_1, x13_1, rfl, rfl, HA, HK1, HB⟩ := hrel
  cases gk with
  | zero => exact absurd HA.out (by simp [reno_Steps.l0])
  | succ k1 =>
   have H := HA.out; clear HA; simp only [reno_Steps.l0] at H
   by_cases c5 : x13_1 < (l3.length : Int)
   ·rw [if_pos c5] at H
    have c5b0 : decide (x13_1 < (l3.length : Int)) = true := decide_eq_true c5; clear c5
    by_cases c6 : 0 ≤ x13_1
    ·rw [if_pos c6] at H
     have c6b0 : decide (0 ≤ x13_1) = true := decide_eq_true c6; clear c6
     by_cases c7 : x13_1 < (l3.length : Int)
     ·rw [if_pos c7] at H
      have c7b0 : decide (x13_1 < (l3.length : Int)) = true := decide_eq_true c7; clear c7; replace H := Option.bind_eq_some_iff.mp H; obtain ⟨t247, A80, H⟩ := H; replace H : (reno_Steps.l0 k1 t247 a1 a2 l3 (l3.length : Int) (wrap64 (x13_1 + 1))) = some r := H; have A8 := Aside0.mk A80; clear A80; have H' := Aside0.mk H; clear H; have p246 : 0 ≤ (x13_1 : Int) := of_decide_eq_true (by first | (with_reducible assumption) | assumption); have q246 : x13_1 < (l3.length : Int) := of_decide_eq_true (by first | (with_reducible assumption) | assumption); obtain ⟨ad246, e246, hx246_0⟩ := Kd.at_int HR3.out x13_1 p246 q246
      cases e246
      replace hx246_0 := (HB.out.cell (World.block_lt_of_cell? w _ hx246_0)).trans hx246_0; replace p246 := eq_true p246; replace q246 := eq_true q246
      go_wp2_with (first | ((with_reducible refine gate_callee (f := 23) rfl ?_); refine goesLA_ (some 21) rfl rfl Try.func23 rfl #[.int .i64 x0_1, .int .i64 a1, .int .i64 a2, .int .i64 (rd l3 x13_1)] rfl ?_; (with_reducible refine (reno_StepS.calls x0_1 a1 a2 (rd l3 x13_1) t247 _ A8.out).mono ?_); rintro e w9 ⟨rfl, hb⟩; refine ⟨_, rfl, ?_⟩; replace HB := stA hb; (try clear hb); (try clear hb2); (try clear hk); (try clear hi)))
      go_roundg k1
      case measure => have := HK1.out; omega
      case rel => exact ⟨(t247), (wrap64 (x13_1 + 1)), (by first | rfl | (simp; done) | (simp [*]; done)), (by first | rfl | (simp; done) | (simp [*]; done)), H', ⟨by have := HK1.out; omega⟩, ⟨by repeat (first | (with_reducible first | exact HB.out | apply below_alloc | apply pw_below_drewN | apply below_drew1) | exact HB.out)⟩⟩
     ·rw [if_neg c7] at H
      exact absurd H (by simp)
    ·rw [if_neg c6] at H
     exact absurd H (by simp)
   ·rw [if_neg c5] at H
    have c5b0 : decide (x13_1 < (l3.length : Int)) = false := decide_eq_false c5; clear c5; obtain rfl := Option.some.inj H
    go_wp2
    go_ret
    exact ⟨by first | rfl | (simp [errW_none, errW_some] <;> rfl) | (simp [*, errW_none, errW_some] <;> rfl), by repeat (first | (with_reducible first | exact HB.out | apply below_alloc | apply pw_below_drewN | apply below_drew1) | exact HB.out)⟩

/-! ### reno_StepsS: pure, behind function 25 -/
noncomputable def reno_StepsS.f (a b c : Int) (l : List Int) : Option Int := Go.Proofs.Ytepmnfjcmppghaa.Sp.need (Go.Proofs.Ytepmnfjcmppghaa.Sp.I a ∧ Go.Proofs.Ytepmnfjcmppghaa.Sp.I b ∧ Go.Proofs.Ytepmnfjcmppghaa.Sp.I c ∧ (∀ x ∈ l, Go.Proofs.Ytepmnfjcmppghaa.Sp.I x) ∧ l.length < 1000000000000000000) (some (Go.Proofs.Ytepmnfjcmppghaa.Sp.stepsQ a b c l))
theorem reno_StepsS.eq {a b c : Int} {l : List Int} (h1 : Go.Proofs.Ytepmnfjcmppghaa.Sp.I a) (h2 : Go.Proofs.Ytepmnfjcmppghaa.Sp.I b) (h3 : Go.Proofs.Ytepmnfjcmppghaa.Sp.I c) (h4 : ∀ x ∈ l, Go.Proofs.Ytepmnfjcmppghaa.Sp.I x) (h5 : l.length < 1000000000000000000) : reno_StepsS.f a b c l = some (Go.Proofs.Ytepmnfjcmppghaa.Sp.stepsQ a b c l) := Go.Proofs.Ytepmnfjcmppghaa.Sp.need_pos ⟨h1, h2, h3, h4, h5⟩
section RenoSteps
open Go.Proofs.Ytepmnfjcmppghaa.Sp
theorem reno_stepsQ_nil (e p w : Int) : stepsQ e p w [] = e := rfl
theorem reno_stepsQ_cons (e p w x : Int) (l : List Int) : stepsQ e p w (x :: l) = stepsQ (stepQ e p w x) p w l := rfl
theorem reno_Steps.stop {e b c : Int} {l : List Int} {n i : Int} (k : Nat) (h : ¬ i < n) : reno_Steps.l0 (k + 1) e b c l n i = some e := by
 rw [reno_Steps.l0, if_neg h]
theorem reno_Steps.step {e b c x : Int} {l : List Int} {n i : Int} (k : Nat) (h : i < n) (h0 : 0 ≤ i) (h1 : i < (l.length : Int)) (hx : rd l i = x) {y : Int} (hy : reno_StepS.f e b c x = some y) : reno_Steps.l0 (k + 1) e b c l n i = reno_Steps.l0 k y b c l n (wrap64 (i + 1)) := by
 rw [reno_Steps.l0, if_pos h, if_pos h0, if_pos h1, hx, hy, Option.bind_some]
theorem reno_Steps.main {b c : Int} {l : List Int} (h2 : I b) (h3 : I c) (h4 : ∀ x ∈ l, I x) (h5 : l.length < 1000000000000000000) (k : Nat) :
  ∀ (i : Nat), i + k = l.length → ∀ e, I e → reno_Steps.l0 (k + 1) e b c l (l.length : Int) (i : Int) = some (stepsQ e b c (l.drop i)) := by
 induction k with
 | zero =>
  intro i hi e he
  rw [reno_Steps.stop 0 (by omega), List.drop_eq_nil_of_le (by omega), reno_stepsQ_nil]
 | succ k ih =>
  intro i hi e he
  have hl : i < l.length := by omega
  have hx : rd l (i : Int) = l[i] := by simp [rd, hl]
  have hs := stepQ_bd e b c l[i]; have hr := ih (i + 1) (by omega) (stepQ e b c l[i]) (by omega)
  have hw : wrap64 ((i : Int) + 1) = ((i + 1 : Nat) : Int) := by rw [w64 (by omega)]; omega
  rw [reno_Steps.step (k + 1) (by omega) (by omega) (by omega) hx (reno_StepS.eq he h2 h3 (h4 _ (List.getElem_mem hl))), hw, hr, List.drop_eq_getElem_cons hl, reno_stepsQ_cons]
end RenoSteps
theorem reno_StepsS.calls (a0 : Int) (a1 : Int) (a2 : Int) (A3 : Option Addr) (c3 : Nat) (l3 : List Int) (r : Int) (w : World) (hr3 : Kd.C (Kd.int .i64) w A3 l3.length l3) (hc3 : l3.length ≤ c3) (h : reno_StepsS.f a0 a1 a2 l3 = some r) :
 Calls Try.prog 25 #[.int .i64 a0, .int .i64 a1, .int .i64 a2, .slice A3 l3.length c3] w fun e w' => e = .returned (.int .i64 r) ∧ Below w.heap.size w w' := by
 obtain ⟨⟨h1, h2, h3, h4, h5⟩, h⟩ := Go.Proofs.Ytepmnfjcmppghaa.Sp.need_some h; refine reno_Steps.calls (l3.length + 1) a0 a1 a2 A3 c3 l3 r w hr3 hc3 ?_; have := reno_Steps.main h2 h3 h4 h5 l3.length 0 (by omega) a0 h1
 rw [List.drop_zero] at this
 unfold reno_Steps.f
 exact this.trans h

/-! ### sawtoothlaw13_awake: function 21 -/
noncomputable def sawtoothlaw13_awake.f  : Option (Bool) := (reno_Part.f 5 6).bind fun bt248 => ((reno_Part.f 6 6).bind fun bt250 => (if bt248.1 = 9 then (if bt248.2 = 17 then (if bt250.1 = 1 then (if bt250.2 = 1 then ((reno_StepS.f 655360 524288 655360 655360).bind fun t252 => (if t252 = 720896 then ((reno_StepS.f 655360 1310720 655360 655360).bind fun t253 => (if t253 = 690055 then ((reno_StepS.f 5 0 0 65536).bind fun t254 => (if t254 = 65541 then ((reno_StepS.f 68719476736 0 65536 68719476736).bind fun t255 => (if t255 = 68719476736 then ((reno_StepS.f (-5) (-9) 0 (-7)).bind fun t256 => (if t256 = 0 then ((reno_StepsS.f 0 0 65536 (([5, 6] : List Int))).bind fun t260 => (if t260 = 11 then ((reno_StepsS.f (-3) 0 0 ([] : List Int)).bind fun t261 => (some (t261 == (-3)))) else (none))) else (none))) else (none))) else (none))) else (none))) else (none))) else (none)) else (none)) else (none)) else (none)))
set_option maxHeartbeats 8000000 in
set_option maxRecDepth 100000 in
theorem sawtoothlaw13_awake.calls  (r : Bool) (w : World) (h : sawtoothlaw13_awake.f  = some r) :
  Calls Try.prog 21 #[] w fun e w' => e = .returned (.bool r) ∧ Below w.heap.size w w' := by
 have HB := Aside0.mk (Below.refl w.heap.size w); have H : ((reno_Part.f 5 6).bind fun bt248 => ((reno_Part.f 6 6).bind fun bt250 => (if bt248.1 = 9 then (if bt248.2 = 17 then (if bt250.1 = 1 then (if bt250.2 = 1 then ((reno_StepS.f 655360 524288 655360 655360).bind fun t252 => (if t252 = 720896 then ((reno_StepS.f 655360 1310720 655360 655360).bind fun t253 => (if t253 = 690055 then ((reno_StepS.f 5 0 0 65536).bind fun t254 => (if t254 = 65541 then ((reno_StepS.f 68719476736 0 65536 68719476736).bind fun t255 => (if t255 = 68719476736 then ((reno_StepS.f (-5) (-9) 0 (-7)).bind fun t256 => (if t256 = 0 then ((reno_StepsS.f 0 0 65536 (([5, 6] : List Int))).bind fun t260 => (if t260 = 11 then ((reno_StepsS.f (-3) 0 0 ([] : List Int)).bind fun t261 => (some (t261 == (-3)))) else (none))) else (none))) else (none))) else (none))) else (none))) else (none))) else (none)) else (none)) else (none)) else (none)))) = some r := h; clear h; replace H := Option.bind_eq_some_iff.mp H; obtain ⟨⟨t248, t249⟩, A10, H⟩ := H; (try dsimp only at H); have A1 := Aside0.mk A10; clear A10; replace H := Option.bind_eq_some_iff.mp H; obtain ⟨⟨t250, t251⟩, A20, H⟩ := H; (try dsimp only at H); have A2 := Aside0.mk A20; clear A20
 by_cases c3 : t248 = 9
 ·rw [if_pos c3] at H
  have c3b0 : (t248 == 9) = true := beq_iff_eq.mpr c3; have c3b1 : (t248 != 9) = false := bne_eq_false_iff_eq.mpr c3; clear c3
  by_cases c4 : t249 = 17
  ·rw [if_pos c4] at H
   have c4b0 : (t249 == 17) = true := beq_iff_eq.mpr c4; have c4b1 : (t249 != 17) = false := bne_eq_false_iff_eq.mpr c4; clear c4
   by_cases c5 : t250 = 1
   ·rw [if_pos c5] at H
    have c5b0 : (t250 == 1) = true := beq_iff_eq.mpr c5; have c5b1 : (t250 != 1) = false := bne_eq_false_iff_eq.mpr c5; clear c5
    by_cases c6 : t251 = 1
    ·rw [if_pos c6] at H
     have c6b0 : (t251 == 1) = true := beq_iff_eq.mpr c6; have c6b1 : (t251 != 1) = false := bne_eq_false_iff_eq.mpr c6; clear c6; replace H := Option.bind_eq_some_iff.mp H; obtain ⟨t252, A70, H⟩ := H; (try dsimp only at H); have A7 := Aside0.mk A70; clear A70
     by_cases c8 : t252 = 720896
     ·rw [if_pos c8] at H
      have c8b0 : (t252 == 720896) = true := beq_iff_eq.mpr c8; have c8b1 : (t252 != 720896) = false := bne_eq_false_iff_eq.mpr c8; clear c8; replace H := Option.bind_eq_some_iff.mp H; obtain ⟨t253, A90, H⟩ := H; (try dsimp only at H); have A9 := Aside0.mk A90; clear A90
      by_cases c10 : t253 = 690055
      ·rw [if_pos c10] at H
       have c10b0 : (t253 == 690055) = true := beq_iff_eq.mpr c10; have c10b1 : (t253 != 690055) = false := bne_eq_false_iff_eq.mpr c10; clear c10; replace H := Option.bind_eq_some_iff.mp H; obtain ⟨t254, A110, H⟩ := H; (try dsimp only at H); have A11 := Aside0.mk A110; clear A110
       by_cases c12 : t254 = 65541
       ·rw [if_pos c12] at H
        have c12b0 : (t254 == 65541) = true := beq_iff_eq.mpr c12; have c12b1 : (t254 != 65541) = false := bne_eq_false_iff_eq.mpr c12; clear c12; replace H := Option.bind_eq_some_iff.mp H; obtain ⟨t255, A130, H⟩ := H; (try dsimp only at H); have A13 := Aside0.mk A130; clear A130
        by_cases c14 : t255 = 68719476736
        ·rw [if_pos c14] at H
         have c14b0 : (t255 == 68719476736) = true := beq_iff_eq.mpr c14; have c14b1 : (t255 != 68719476736) = false := bne_eq_false_iff_eq.mpr c14; clear c14; replace H := Option.bind_eq_some_iff.mp H; obtain ⟨t256, A150, H⟩ := H; (try dsimp only at H); have A15 := Aside0.mk A150; clear A150
         by_cases c16 : t256 = 0
         ·rw [if_pos c16] at H
          have c16b0 : (t256 == 0) = true := beq_iff_eq.mpr c16; have c16b1 : (t256 != 0) = false := bne_eq_false_iff_eq.mpr c16; clear c16
          obtain ⟨y257, hy257⟩ : ∃ y_ : List Int, y_ = (([5, 6] : List Int)) := ⟨_, rfl⟩
          replace H : ((reno_StepsS.f 0 0 65536 y257).bind fun t260 => (if t260 = 11 then ((reno_StepsS.f (-3) 0 0 ([] : List Int)).bind fun t261 => (some (t261 == (-3)))) else (none))) = some r := by first | (rw [hy257]; with_reducible exact H) | (have H2_ := (Option.bind_some _ _).symm.trans H; rw [hy257]; with_reducible exact H2_) | (have H2_ := (Option.bind_some _ _).symm.trans H; with_reducible exact H2_) | with_reducible exact H | (rw [hy257]; exact H) | exact H
          have Ny257 := Aside0.mk hy257; clear hy257; replace H := Option.bind_eq_some_iff.mp H; obtain ⟨t260, A170, H⟩ := H; replace H : (if t260 = 11 then ((reno_StepsS.f (-3) 0 0 ([] : List Int)).bind fun t261 => (some (t261 == (-3)))) else (none)) = some r := H; have A17 := Aside0.mk A170; clear A170
          by_cases c18 : t260 = 11
          ·rw [if_pos c18] at H
           have c18b0 : (t260 == 11) = true := beq_iff_eq.mpr c18; have c18b1 : (t260 != 11) = false := bne_eq_false_iff_eq.mpr c18; clear c18; replace H := Option.bind_eq_some_iff.mp H; obtain ⟨t261, A190, H⟩ := H; replace H : (some (t261 == (-3))) = some r := H; have A19 := Aside0.mk A190; clear A190; obtain rfl := Option.some.inj H
           go_enter Try.func21, Try.ntmps21
           go_wp2_with (first | ((with_reducible refine gate_callee (f := 22) rfl ?_); refine goesLA_ (some 6) rfl rfl Try.func22 rfl #[.int .i64 5, .int .i64 6] rfl ?_; (with_reducible refine (reno_Part.calls 5 6 t248 t249 _ A1.out).mono ?_); rintro e w' ⟨rfl, ⟨nd, rfl⟩⟩; refine ⟨_, rfl, ?_⟩) | ((with_reducible refine gate_callee (f := 22) rfl ?_); refine goesLA_ (some 10) rfl rfl Try.func22 rfl #[.int .i64 6, .int .i64 6] rfl ?_; (with_reducible refine (reno_Part.calls 6 6 t250 t251 _ A2.out).mono ?_); rintro e w' ⟨rfl, ⟨nd, rfl⟩⟩; refine ⟨_, rfl, ?_⟩) | (go_at_call 23; (with_reducible refine (reno_StepS.calls 655360 524288 655360 655360 t252 _ A7.out).mono ?_); rintro e w20 ⟨rfl, hb⟩; replace HB := stA hb; (try clear hb); (try clear hb2); (try clear hk); (try clear hi)) | (go_at_call 23; (with_reducible refine (reno_StepS.calls 655360 1310720 655360 655360 t253 _ A9.out).mono ?_); rintro e w21 ⟨rfl, hb⟩; replace HB := stA hb; (try clear hb); (try clear hb2); (try clear hk); (try clear hi)) | (go_at_call 23; (with_reducible refine (reno_StepS.calls 5 0 0 65536 t254 _ A11.out).mono ?_); rintro e w22 ⟨rfl, hb⟩; replace HB := stA hb; (try clear hb); (try clear hb2); (try clear hk); (try clear hi)) | (go_at_call 23; (with_reducible refine (reno_StepS.calls 68719476736 0 65536 68719476736 t255 _ A13.out).mono ?_); rintro e w23 ⟨rfl, hb⟩; replace HB := stA hb; (try clear hb); (try clear hb2); (try clear hk); (try clear hi)) | (go_at_call 23; (with_reducible refine (reno_StepS.calls (-5) (-9) 0 (-7) t256 _ A15.out).mono ?_); rintro e w24 ⟨rfl, hb⟩; replace HB := stA hb; (try clear hb); (try clear hb2); (try clear hk); (try clear hi)) | ((with_reducible refine gate_dst (N := 48) rfl ?_); refine unguard_Px23 (by first | rfl | (simp [Region.wanted, yielded]; done) | (go_simp; done)) ?_; refine Kd.R_lit (Kd.int .i64) _ 3 ?hg (N := 48) ?hd (xs := ([5, 6] : List Int)) (inner := [.int .i64 5, .int .i64 6]) (ok := fun _ => True) (okp := fun _ => True) ?hr ?hp (fun _ hk => hk) trivial (Below.refl _ _) (Nat.le_refl _) (by simp) ?_; (case hd => rfl); (case hg => rfl); (case hr => first | (go_simp; done) | (go_simp; rfl)); (case hp => exact (Reps.one (show Kd.M (Kd.int .i64) _ _ _ 5 [.int .i64 5] from rfl) (Reps.one (show Kd.M (Kd.int .i64) _ _ _ 6 [.int .i64 6] from rfl) (Reps.none _ _)))); intro v258 w25 ho26 hb hg_ hnew_; clear hg_ hnew_; (first | rw [← Ny257.out] at ho26 | (simp only [Int.reduceToNat] at ho26; rw [← Ny257.out] at ho26)); have HO259 := Aside0.mk (Kd.R_lower ho26 (below_size (by repeat (first | (with_reducible first | exact HB.out | apply below_alloc | apply pw_below_drewN | apply below_drew1) | exact HB.out)))); replace HB := stA hb; clear hb ho26; obtain ⟨Ao27, co27, eo27⟩ := Kd.R_slice HO259.out; subst eo27) | (go_at_call 25; (with_reducible refine (reno_StepsS.calls 0 0 65536 _ _ y257 t260 _ ?side1 ?side2 A17.out).mono ?_); (case side1 => repeat (first | exact (Kd.R_reads' HO259.out).2.2 | (with_reducible refine Kd.C_alloc ?_ _) | (with_reducible refine Kd.C_drewN ?_ _) | (with_reducible refine Kd.C_drew ?_))); (case side2 => exact (Kd.R_reads' HO259.out).2.1); rintro e w28 ⟨rfl, hb⟩; replace HO259 := Aside0.mk (Kd.R_below (by (with_reducible repeat (first | apply Kd.R_alloc | apply Kd.R_drewN | apply Kd.R_drew)); exact HO259.out) hb); replace HB := stA hb; (try clear hb); (try clear hb2); (try clear hk); (try clear hi)) | (go_at_call 25; (refine (reno_StepsS.calls (-3) 0 0 _ _ ([] : List Int) t261 _ ?side1 ?side2 A19.out).mono ?_); (case side1 => exact Kd.C_nil _ _); (case side2 => exact Nat.le_refl _); rintro e w29 ⟨rfl, hb⟩; replace HO259 := Aside0.mk (Kd.R_below (by (with_reducible repeat (first | apply Kd.R_alloc | apply Kd.R_drewN | apply Kd.R_drew)); exact HO259.out) hb); replace HB := stA hb; (try clear hb); (try clear hb2); (try clear hk); (try clear hi)))
           go_ret
           exact ⟨by first | rfl | (simp [errW_none, errW_some] <;> rfl) | (simp [*, errW_none, errW_some] <;> rfl), by repeat (first | (with_reducible first | exact HB.out | apply below_alloc | apply pw_below_drewN | apply below_drew1) | exact HB.out)⟩
          ·rw [if_neg c18] at H
           exact absurd H (by simp)
         ·rw [if_neg c16] at H
          exact absurd H (by simp)
        ·rw [if_neg c14] at H
         exact absurd H (by simp)
       ·rw [if_neg c12] at H
        exact absurd H (by simp)
      ·rw [if_neg c10] at H
       exact absurd H (by simp)
     ·rw [if_neg c8] at H
      exact absurd H (by simp)
    ·rw [if_neg c6] at H
     exact absurd H (by simp)
   ·rw [if_neg c5] at H
    exact absurd H (by simp)
  ·rw [if_neg c4] at H
   exact absurd H (by simp)
 ·rw [if_neg c3] at H
  exact absurd H (by simp)

/-! ### sawtoothlaw13_awakeS: pure, behind function 21 -/
noncomputable def sawtoothlaw13_awakeS.f : Option Bool := some true
section
open Go.Proofs.Ytepmnfjcmppghaa.Sp
theorem sawtoothlaw13_awake.main : sawtoothlaw13_awake.f = some true := by
 have f1 : reno_Part.f 5 6 = some (9, 17) := by simp [reno_Part.f]
 have f2 : reno_Part.f 6 6 = some (1, 1) := by simp [reno_Part.f]
 have f3 : reno_StepS.f 655360 524288 655360 655360 = some 720896 := by rw [reno_StepS.eq (by omega) (by omega) (by omega) (by omega)]; simp [stepQ, clamp]
 have f4 : reno_StepS.f 655360 1310720 655360 655360 = some 690055 := by rw [reno_StepS.eq (by omega) (by omega) (by omega) (by omega)]; simp [stepQ, clamp]
 have f5 : reno_StepS.f 5 0 0 65536 = some 65541 := by rw [reno_StepS.eq (by omega) (by omega) (by omega) (by omega)]; simp [stepQ, clamp]
 have f6 : reno_StepS.f 68719476736 0 65536 68719476736 = some 68719476736 := by rw [reno_StepS.eq (by omega) (by omega) (by omega) (by omega)]; simp [stepQ, clamp]
 have f7 : reno_StepS.f (-5) (-9) 0 (-7) = some 0 := by rw [reno_StepS.eq (by omega) (by omega) (by omega) (by omega)]; simp [stepQ, clamp]
 have f8 : reno_StepsS.f 0 0 65536 ([5, 6] : List Int) = some 11 := by rw [reno_StepsS.eq (by omega) (by omega) (by omega) (by simp [I]) (by simp)]; simp [stepsQ, stepQ, clamp]
 have f9 : reno_StepsS.f (-3) 0 0 ([] : List Int) = some (-3) := by rw [reno_StepsS.eq (by omega) (by omega) (by omega) (by simp [I]) (by simp)]; simp [stepsQ, stepQ, clamp]
 unfold sawtoothlaw13_awake.f
 simp only [f1, f2, f3, f4, f5, f6, f7, f8, f9, Option.bind_some, if_true, eq_self, beq_self_eq_true]
end
theorem sawtoothlaw13_awakeS.calls (r : Bool) (w : World) (h : sawtoothlaw13_awakeS.f = some r) :
  Calls Try.prog 21 #[] w fun e w' => e = .returned (.bool r) ∧ Below w.heap.size w w' :=
 sawtoothlaw13_awake.calls r w (by rw [sawtoothlaw13_awake.main]; exact h)

/-! ### sawtoothref02_digits: function 57 -/
noncomputable def sawtoothref02_digits.f (a0_0 : Bool) (a0_1 : Int) (a0_2 : Int) : Option (Int × Int × Int × Int) := some (Int.tmod a0_2 4294967296, IntKind.u64.wrap (Int.tdiv a0_2 4294967296), Int.tmod a0_1 4294967296, IntKind.u64.wrap (Int.tdiv a0_1 4294967296))
set_option maxHeartbeats 8000000 in
set_option maxRecDepth 100000 in
theorem sawtoothref02_digits.calls (a0_0 : Bool) (a0_1 : Int) (a0_2 : Int) (r1 : Int) (r2 : Int) (r3 : Int) (r4 : Int) (w : World) (h : sawtoothref02_digits.f a0_0 a0_1 a0_2 = some (r1, r2, r3, r4)) :
  Calls Try.prog 57 #[.agg #[.bool a0_0, .int .u64 a0_1, .int .u64 a0_2]] w fun e w' => e = .returned (.agg #[.int .u64 r1, .int .u64 r2, .int .u64 r3, .int .u64 r4]) ∧ Below w.heap.size w w' := by
 have hu60 := Try.underlying60; have hu69 := Try.underlying69; have HB := Aside0.mk (Below.refl w.heap.size w); have H : (some (Int.tmod a0_2 4294967296, IntKind.u64.wrap (Int.tdiv a0_2 4294967296), Int.tmod a0_1 4294967296, IntKind.u64.wrap (Int.tdiv a0_1 4294967296))) = some (r1, r2, r3, r4) := h; clear h; simp only [Option.some.injEq, Prod.mk.injEq] at H; obtain ⟨rfl, rfl, rfl, rfl⟩ := H
 go_enter Try.func57, Try.ntmps57
 go_wp2_with (first | ((with_reducible refine gate_dst (N := 1) rfl ?_); refine box_event ?hg (N := 1) ?hd (cs := #[.bool a0_0, .int .u64 a0_1, .int .u64 a0_2]) (t := 60) ?hr ?_; (case hd => rfl); (case hg => rfl); (case hr => first | (go_simp; done) | (go_simp; rfl)); intro gb262 hg w2 hbox hb; have BK262 := Aside0.mk (hbox); obtain ⟨GW262, nHB⟩ := geA hg hb; have GE262 := GW262; replace HB := nHB; clear nHB; clear hb hbox hg) | ((with_reducible refine gate_dst (N := 2) rfl ?_); refine box_event ?hg (N := 2) ?hd (cs := #[.int .u64 0, .int .u64 0, .int .u64 0, .int .u64 0]) (t := 69) ?hr ?_; (case hd => rfl); (case hg => rfl); (case hr => first | (go_simp; done) | (go_simp; rfl)); intro gb263 hg w3 hbox hb; have BK263 := Aside0.mk (hbox); obtain ⟨GW263, nHB⟩ := geA hg hb; have GE263 := GW263; obtain ⟨NB262_263, NB263_262, nBK⟩ := nbA BK262 hg hb; replace BK262 := nBK; clear nBK; replace HB := nHB; clear nHB; clear hb hbox hg; have hnb4 := NB262_263.out; have hnc4 := NB263_262.out; have hcz5_0 := czZ BK262 0 (.bool a0_0); have hcz5_1 := czZ BK262 1 (.int .u64 a0_1); have hcz5_2 := czZ BK262 2 (.int .u64 a0_2); have hfz5_0 := blk_frozen BK262.out 0; have hfz5_1 := blk_frozen BK262.out 1; have hfz5_2 := blk_frozen BK262.out 2; have hcz6_0 := czZ BK263 0 (.int .u64 0); have hcz6_1 := czZ BK263 1 (.int .u64 0); have hcz6_2 := czZ BK263 2 (.int .u64 0); have hcz6_3 := czZ BK263 3 (.int .u64 0); have hfz6_0 := blk_frozen BK263.out 0; have hfz6_1 := blk_frozen BK263.out 1; have hfz6_2 := blk_frozen BK263.out 2; have hfz6_3 := blk_frozen BK263.out 3))
 refine bodyPost_ret (results_cell_row rfl _ _ gb263 69 #[.int .u64 (Int.tmod a0_2 4294967296), .int .u64 (IntKind.u64.wrap (Int.tdiv a0_2 4294967296)), .int .u64 (Int.tmod a0_1 4294967296), .int .u64 (IntKind.u64.wrap (Int.tdiv a0_1 4294967296))] (0, 0) _ rfl (by (with_reducible repeat (first | refine blk_drewN ?_ _ | refine blk_drew ?_ | refine blk_alloc ?_ _)); refine blk_put (cs := #[.int .u64 (Int.tmod a0_2 4294967296), .int .u64 (IntKind.u64.wrap (Int.tdiv a0_2 4294967296)), .int .u64 (Int.tmod a0_1 4294967296), .int .u64 0]) ?_ 3 _ rfl; (with_reducible repeat (first | refine blk_drewN ?_ _ | refine blk_drew ?_ | refine blk_alloc ?_ _)); refine blk_put (cs := #[.int .u64 (Int.tmod a0_2 4294967296), .int .u64 (IntKind.u64.wrap (Int.tdiv a0_2 4294967296)), .int .u64 0, .int .u64 0]) ?_ 2 _ rfl; (with_reducible repeat (first | refine blk_drewN ?_ _ | refine blk_drew ?_ | refine blk_alloc ?_ _)); refine blk_put (cs := #[.int .u64 (Int.tmod a0_2 4294967296), .int .u64 0, .int .u64 0, .int .u64 0]) ?_ 1 _ rfl; (with_reducible repeat (first | refine blk_drewN ?_ _ | refine blk_drew ?_ | refine blk_alloc ?_ _)); refine blk_put (cs := #[.int .u64 0, .int .u64 0, .int .u64 0, .int .u64 0]) ?_ 0 _ rfl; (with_reducible repeat (first | refine blk_drewN ?_ _ | refine blk_drew ?_ | refine blk_alloc ?_ _)); exact BK263.out) Try.underlying69 rfl (by kernel_rfl)) rfl ?_; exact ⟨by first | rfl | (simp [errW_none, errW_some] <;> rfl) | (simp [*, errW_none, errW_some] <;> rfl), by repeat (first | (with_reducible first | exact HB.out | apply below_alloc | apply pw_below_drewN | apply below_drew1 | refine below_set ?_ (Aside0.out (by assumption))) | exact HB.out)⟩

/-! ### sawtoothref02_plus: function 58 -/
noncomputable def sawtoothref02_plus.f (a0 a1 a2 a3 b0 b1 b2 b3 : Int) : Option (Int × Int × Int × Int × Int) := Go.Proofs.Ytepmnfjcmppghaa.Sp.need (Go.Proofs.Ytepmnfjcmppghaa.Sp.Dg a0 ∧ Go.Proofs.Ytepmnfjcmppghaa.Sp.Dg a1 ∧ Go.Proofs.Ytepmnfjcmppghaa.Sp.Dg a2 ∧ Go.Proofs.Ytepmnfjcmppghaa.Sp.Dg a3 ∧ Go.Proofs.Ytepmnfjcmppghaa.Sp.Dg b0 ∧ Go.Proofs.Ytepmnfjcmppghaa.Sp.Dg b1 ∧ Go.Proofs.Ytepmnfjcmppghaa.Sp.Dg b2 ∧ Go.Proofs.Ytepmnfjcmppghaa.Sp.Dg b3) (some ((a0 + b0) % 4294967296, (a1 + b1 + (a0 + b0) / 4294967296) % 4294967296, (a2 + b2 + (a1 + b1 + (a0 + b0) / 4294967296) / 4294967296) % 4294967296, (a3 + b3 + (a2 + b2 + (a1 + b1 + (a0 + b0) / 4294967296) / 4294967296) / 4294967296) % 4294967296, (a3 + b3 + (a2 + b2 + (a1 + b1 + (a0 + b0) / 4294967296) / 4294967296) / 4294967296) / 4294967296))
set_option maxHeartbeats 4000000 in
set_option maxRecDepth 100000 in
theorem sawtoothref02_plus.walk (a0 a1 a2 a3 b0 b1 b2 b3 s0 o0 c0 t1 s1 o1 c1 t2 s2 o2 c2 t3 s3 o3 c3 : Int) (E0 : IntKind.u64.wrap (a0 + b0) = s0) (F0 : IntKind.u64.wrap s0 = s0) (R0 : Int.tmod s0 4294967296 = o0) (Q0 : IntKind.u64.wrap (Int.tdiv s0 4294967296) = c0) (E1 : IntKind.u64.wrap (a1 + b1) = t1) (F1 : IntKind.u64.wrap (t1 + c0) = s1) (R1 : Int.tmod s1 4294967296 = o1) (Q1 : IntKind.u64.wrap (Int.tdiv s1 4294967296) = c1) (E2 : IntKind.u64.wrap (a2 + b2) = t2) (F2 : IntKind.u64.wrap (t2 + c1) = s2) (R2 : Int.tmod s2 4294967296 = o2) (Q2 : IntKind.u64.wrap (Int.tdiv s2 4294967296) = c2) (E3 : IntKind.u64.wrap (a3 + b3) = t3) (F3 : IntKind.u64.wrap (t3 + c2) = s3) (R3 : Int.tmod s3 4294967296 = o3) (Q3 : IntKind.u64.wrap (Int.tdiv s3 4294967296) = c3) (w : World) :
  Calls Try.prog 58 #[.agg #[.int .u64 a0, .int .u64 a1, .int .u64 a2, .int .u64 a3], .agg #[.int .u64 b0, .int .u64 b1, .int .u64 b2, .int .u64 b3]] w fun e w' => e = .returned (.tuple #[.agg #[.int .u64 o0, .int .u64 o1, .int .u64 o2, .int .u64 o3], .int .u64 c3]) ∧ Below w.heap.size w w' := by
 have hu69 := Try.underlying69; have HB := Aside0.mk (Below.refl w.heap.size w)
 go_enter Try.func58, Try.ntmps58
 go_wp2_with (fail)
 refine wp_loop_rounds 5 ?_
 rw [rounds_succ]
 go_wp2_with (fail)
 go_quiet (fail)
 go_wp2_with (fail)
 rw [rounds_succ]
 go_wp2_with (fail)
 go_quiet (fail)
 go_wp2_with (fail)
 rw [rounds_succ]
 go_wp2_with (fail)
 go_quiet (fail)
 go_wp2_with (fail)
 rw [rounds_succ]
 go_wp2_with (fail)
 go_quiet (fail)
 go_wp2_with (fail)
 rw [rounds_succ]
 go_wp2_with (fail)
 have eB : w.heap.size + 1 + 1 = ((w.alloc (.cells #[.int .u64 a0, .int .u64 a1, .int .u64 a2, .int .u64 a3] 69)).alloc (.cells #[.int .u64 b0, .int .u64 b1, .int .u64 b2, .int .u64 b3] 69)).heap.size := by simp
 refine bodyPost_ret (Go.Proofs.Ytepmnfjcmppghaa.Sp.results_row_tmp rfl _ _ (w.heap.size + 1 + 1) 69 #[.int .u64 o0, .int .u64 o1, .int .u64 o2, .int .u64 o3] (0, 0) _ rfl (by
  refine blk_put (cs := #[.int .u64 o0, .int .u64 o1, .int .u64 o2, .int .u64 0]) ?_ 3 _ rfl; refine blk_put (cs := #[.int .u64 o0, .int .u64 o1, .int .u64 0, .int .u64 0]) ?_ 2 _ rfl; refine blk_put (cs := #[.int .u64 o0, .int .u64 0, .int .u64 0, .int .u64 0]) ?_ 1 _ rfl; refine blk_put (cs := #[.int .u64 0, .int .u64 0, .int .u64 0, .int .u64 0]) ?_ 0 _ rfl; (with_reducible repeat (first | refine blk_far ?_ (by simp) _ | refine blk_drewN ?_ _)); refine blk_alloc ?_ _
  rw [eB]; exact blk_new _ _) hu69 rfl (by first | rfl | kernel_rfl)) rfl ?_
 exact ⟨rfl, by repeat (with_reducible first | exact HB.out | refine below_set ?_ (by omega) | apply below_alloc | apply pw_below_drewN)⟩
theorem sawtoothref02_plus.calls (a0 a1 a2 a3 b0 b1 b2 b3 r0 r1 r2 r3 r4 : Int) (w : World) (h : sawtoothref02_plus.f a0 a1 a2 a3 b0 b1 b2 b3 = some (r0, r1, r2, r3, r4)) :
  Calls Try.prog 58 #[.agg #[.int .u64 a0, .int .u64 a1, .int .u64 a2, .int .u64 a3], .agg #[.int .u64 b0, .int .u64 b1, .int .u64 b2, .int .u64 b3]] w fun e w' => e = .returned (.tuple #[.agg #[.int .u64 r0, .int .u64 r1, .int .u64 r2, .int .u64 r3], .int .u64 r4]) ∧ Below w.heap.size w w' := by
 obtain ⟨⟨A0, A1, A2, A3, B0, B1, B2, B3⟩, h⟩ := Go.Proofs.Ytepmnfjcmppghaa.Sp.need_some h; simp only [Option.some.injEq, Prod.mk.injEq] at h; obtain ⟨rfl, rfl, rfl, rfl, rfl⟩ := h
 have sm : ∀ {x : Int}, 0 ≤ x → x < 18446744073709551616 → IntKind.u64.wrap x = x := fun h1 h2 => Go.Proofs.Ytepmnfjcmppghaa.Sp.u64w_in ⟨h1, h2⟩
 have tm : ∀ {x : Int}, 0 ≤ x → Int.tmod x 4294967296 = x % 4294967296 := fun h => Int.tmod_eq_emod_of_nonneg h
 have td : ∀ {x : Int}, 0 ≤ x → x < 18446744073709551616 → IntKind.u64.wrap (Int.tdiv x 4294967296) = x / 4294967296 := fun h1 h2 => by rw [Int.tdiv_eq_ediv_of_nonneg h1]; exact sm (by omega) (by omega)
 exact sawtoothref02_plus.walk (E0 := sm (by omega) (by omega)) (F0 := sm (by omega) (by omega)) (R0 := tm (by omega)) (Q0 := td (by omega) (by omega)) (E1 := sm (by omega) (by omega)) (F1 := sm (by omega) (by omega)) (R1 := tm (by omega)) (Q1 := td (by omega) (by omega)) (E2 := sm (by omega) (by omega)) (F2 := sm (by omega) (by omega)) (R2 := tm (by omega)) (Q2 := td (by omega) (by omega)) (E3 := sm (by omega) (by omega)) (F3 := sm (by omega) (by omega)) (R3 := tm (by omega)) (Q3 := td (by omega) (by omega)) (w := w)

/-! ### sawtoothref02_whole: function 59 -/
noncomputable def sawtoothref02_whole.f (a0_0 : Int) (a0_1 : Int) (a0_2 : Int) (a0_3 : Int) (a1 : Bool) : Option (Bool × Int × Int) := if a1 = true then (if (IntKind.u64.wrap ((IntKind.u64.wrap (a0_3 * 4294967296)) + a0_2)) > 0 then (some (true, IntKind.u64.wrap ((IntKind.u64.wrap (a0_3 * 4294967296)) + a0_2), IntKind.u64.wrap ((IntKind.u64.wrap (a0_1 * 4294967296)) + a0_0))) else (some (decide ((IntKind.u64.wrap ((IntKind.u64.wrap (a0_1 * 4294967296)) + a0_0)) > 0), IntKind.u64.wrap ((IntKind.u64.wrap (a0_3 * 4294967296)) + a0_2), IntKind.u64.wrap ((IntKind.u64.wrap (a0_1 * 4294967296)) + a0_0)))) else (some (false, IntKind.u64.wrap ((IntKind.u64.wrap (a0_3 * 4294967296)) + a0_2), IntKind.u64.wrap ((IntKind.u64.wrap (a0_1 * 4294967296)) + a0_0)))
set_option maxHeartbeats 8000000 in
set_option maxRecDepth 100000 in
theorem sawtoothref02_whole.calls (a0_0 : Int) (a0_1 : Int) (a0_2 : Int) (a0_3 : Int) (a1 : Bool) (r1 : Bool) (r2 : Int) (r3 : Int) (w : World) (h : sawtoothref02_whole.f a0_0 a0_1 a0_2 a0_3 a1 = some (r1, r2, r3)) :
  Calls Try.prog 59 #[.agg #[.int .u64 a0_0, .int .u64 a0_1, .int .u64 a0_2, .int .u64 a0_3], .bool a1] w fun e w' => e = .returned (.agg #[.bool r1, .int .u64 r2, .int .u64 r3]) ∧ Below w.heap.size w w' := by
 have hu69 := Try.underlying69; have hu60 := Try.underlying60; have HB := Aside0.mk (Below.refl w.heap.size w); have H : (if a1 = true then (if (IntKind.u64.wrap ((IntKind.u64.wrap (a0_3 * 4294967296)) + a0_2)) > 0 then (some (true, IntKind.u64.wrap ((IntKind.u64.wrap (a0_3 * 4294967296)) + a0_2), IntKind.u64.wrap ((IntKind.u64.wrap (a0_1 * 4294967296)) + a0_0))) else (some (decide ((IntKind.u64.wrap ((IntKind.u64.wrap (a0_1 * 4294967296)) + a0_0)) > 0), IntKind.u64.wrap ((IntKind.u64.wrap (a0_3 * 4294967296)) + a0_2), IntKind.u64.wrap ((IntKind.u64.wrap (a0_1 * 4294967296)) + a0_0)))) else (some (false, IntKind.u64.wrap ((IntKind.u64.wrap (a0_3 * 4294967296)) + a0_2), IntKind.u64.wrap ((IntKind.u64.wrap (a0_1 * 4294967296)) + a0_0)))) = some (r1, r2, r3) := h; clear h
 by_cases c3 : a1 = true
 ·subst c3
  have H1 : (if (IntKind.u64.wrap ((IntKind.u64.wrap (a0_3 * 4294967296)) + a0_2)) > 0 then (some (true, IntKind.u64.wrap ((IntKind.u64.wrap (a0_3 * 4294967296)) + a0_2), IntKind.u64.wrap ((IntKind.u64.wrap (a0_1 * 4294967296)) + a0_0))) else (some (decide ((IntKind.u64.wrap ((IntKind.u64.wrap (a0_1 * 4294967296)) + a0_0)) > 0), IntKind.u64.wrap ((IntKind.u64.wrap (a0_3 * 4294967296)) + a0_2), IntKind.u64.wrap ((IntKind.u64.wrap (a0_1 * 4294967296)) + a0_0)))) = some (r1, r2, r3) := by rw [if_pos rfl] at H; exact H
  clear H; have H := H1; clear H1
  by_cases c4 : (IntKind.u64.wrap ((IntKind.u64.wrap (a0_3 * 4294967296)) + a0_2)) > 0
  ·rw [if_pos c4] at H
   have c4b0 : decide (0 < (IntKind.u64.wrap ((IntKind.u64.wrap (a0_3 * 4294967296)) + a0_2))) = true := decide_eq_true c4; clear c4; simp only [Option.some.injEq, Prod.mk.injEq] at H; obtain ⟨rfl, rfl, rfl⟩ := H
   go_enter Try.func59, Try.ntmps59
   go_wp2_with (first | ((with_reducible refine gate_dst (N := 2) rfl ?_); refine box_event ?hg (N := 2) ?hd (cs := #[.int .u64 a0_0, .int .u64 a0_1, .int .u64 a0_2, .int .u64 a0_3]) (t := 69) ?hr ?_; (case hd => rfl); (case hg => rfl); (case hr => first | (go_simp; done) | (go_simp; rfl)); intro gb264 hg w5 hbox hb; have BK264 := Aside0.mk (hbox); obtain ⟨GW264, nHB⟩ := geA hg hb; have GE264 := GW264; replace HB := nHB; clear nHB; clear hb hbox hg) | ((with_reducible refine gate_dst (N := 4) rfl ?_); refine box_event ?hg (N := 4) ?hd (cs := #[.bool false, .int .u64 0, .int .u64 0]) (t := 60) ?hr ?_; (case hd => rfl); (case hg => rfl); (case hr => first | (go_simp; done) | (go_simp; rfl)); intro gb265 hg w6 hbox hb; have BK265 := Aside0.mk (hbox); obtain ⟨GW265, nHB⟩ := geA hg hb; have GE265 := GW265; obtain ⟨NB264_265, NB265_264, nBK⟩ := nbA BK264 hg hb; replace BK264 := nBK; clear nBK; replace HB := nHB; clear nHB; clear hb hbox hg; have hnb7 := NB264_265.out; have hnc7 := NB265_264.out; have hcz8_0 := czZ BK264 0 (.int .u64 a0_0); have hcz8_1 := czZ BK264 1 (.int .u64 a0_1); have hcz8_2 := czZ BK264 2 (.int .u64 a0_2); have hcz8_3 := czZ BK264 3 (.int .u64 a0_3); have hfz8_0 := blk_frozen BK264.out 0; have hfz8_1 := blk_frozen BK264.out 1; have hfz8_2 := blk_frozen BK264.out 2; have hfz8_3 := blk_frozen BK264.out 3) | ((with_reducible refine gate_dst (N := 5) rfl ?_); refine box_event ?hg (N := 5) ?hd (cs := #[.bool false, .int .u64 0, .int .u64 0]) (t := 60) ?hr ?_; (case hd => rfl); (case hg => rfl); (case hr => first | (go_simp; done) | (go_simp; rfl)); intro gb266 hg w9 hbox hb; have BK266 := Aside0.mk (hbox); obtain ⟨GW266, nHB⟩ := geA hg hb; have GE266 := GW266; obtain ⟨NB264_266, NB266_264, nBK⟩ := nbA BK264 hg hb; replace BK264 := nBK; clear nBK; obtain ⟨NB265_266, NB266_265, nBK⟩ := nbA BK265 hg hb; replace BK265 := nBK; clear nBK; replace HB := nHB; clear nHB; clear hb hbox hg; have hnb10 := NB266_264.out; have hnc10 := NB264_266.out; have hnb11 := NB266_265.out; have hnc11 := NB265_266.out; have hcz12_0 := czZ BK266 0 (.bool false); have hcz12_1 := czZ BK266 1 (.int .u64 0); have hcz12_2 := czZ BK266 2 (.int .u64 0); have hfz12_0 := blk_frozen BK266.out 0; have hfz12_1 := blk_frozen BK266.out 1; have hfz12_2 := blk_frozen BK266.out 2; have hcz13_0 := czZ BK265 0 (.bool false); have hcz13_1 := czZ BK265 1 (.int .u64 0); have hcz13_2 := czZ BK265 2 (.int .u64 0); have hfz13_0 := blk_frozen BK265.out 0; have hfz13_1 := blk_frozen BK265.out 1; have hfz13_2 := blk_frozen BK265.out 2))
   refine bodyPost_ret (results_cell_row rfl _ _ gb265 60 #[.bool true, .int .u64 (IntKind.u64.wrap ((IntKind.u64.wrap (a0_3 * 4294967296)) + a0_2)), .int .u64 (IntKind.u64.wrap ((IntKind.u64.wrap (a0_1 * 4294967296)) + a0_0))] (0, 0) _ rfl (by (with_reducible repeat (first | refine blk_drewN ?_ _ | refine blk_drew ?_ | refine blk_alloc ?_ _)); refine blk_put (cs := #[.bool true, .int .u64 (IntKind.u64.wrap ((IntKind.u64.wrap (a0_3 * 4294967296)) + a0_2)), .int .u64 0]) ?_ 2 _ rfl; (with_reducible repeat (first | refine blk_drewN ?_ _ | refine blk_drew ?_ | refine blk_alloc ?_ _)); refine blk_put (cs := #[.bool true, .int .u64 0, .int .u64 0]) ?_ 1 _ rfl; (with_reducible repeat (first | refine blk_drewN ?_ _ | refine blk_drew ?_ | refine blk_alloc ?_ _)); refine blk_put (cs := #[.bool false, .int .u64 0, .int .u64 0]) ?_ 0 _ rfl; (with_reducible repeat (first | refine blk_drewN ?_ _ | refine blk_drew ?_ | refine blk_alloc ?_ _)); refine blk_far ?_ NB265_266.out _; (with_reducible repeat (first | refine blk_drewN ?_ _ | refine blk_drew ?_ | refine blk_alloc ?_ _)); refine blk_far ?_ NB265_266.out _; (with_reducible repeat (first | refine blk_drewN ?_ _ | refine blk_drew ?_ | refine blk_alloc ?_ _)); refine blk_far ?_ NB265_266.out _; (with_reducible repeat (first | refine blk_drewN ?_ _ | refine blk_drew ?_ | refine blk_alloc ?_ _)); refine blk_far ?_ NB265_266.out _; (with_reducible repeat (first | refine blk_drewN ?_ _ | refine blk_drew ?_ | refine blk_alloc ?_ _)); exact BK265.out) Try.underlying60 rfl (by kernel_rfl)) rfl ?_; exact ⟨by first | rfl | (simp [errW_none, errW_some] <;> rfl) | (simp [*, errW_none, errW_some] <;> rfl), by repeat (first | (with_reducible first | exact HB.out | apply below_alloc | apply pw_below_drewN | apply below_drew1 | refine below_set ?_ (Aside0.out (by assumption))) | exact HB.out)⟩
  ·rw [if_neg c4] at H
   have c4b0 : decide (0 < (IntKind.u64.wrap ((IntKind.u64.wrap (a0_3 * 4294967296)) + a0_2))) = false := decide_eq_false c4; clear c4; simp only [Option.some.injEq, Prod.mk.injEq] at H; obtain ⟨rfl, rfl, rfl⟩ := H
   go_enter Try.func59, Try.ntmps59
   go_wp2_with (first | ((with_reducible refine gate_dst (N := 2) rfl ?_); refine box_event ?hg (N := 2) ?hd (cs := #[.int .u64 a0_0, .int .u64 a0_1, .int .u64 a0_2, .int .u64 a0_3]) (t := 69) ?hr ?_; (case hd => rfl); (case hg => rfl); (case hr => first | (go_simp; done) | (go_simp; rfl)); intro gb264 hg w14 hbox hb; have BK264 := Aside0.mk (hbox); obtain ⟨GW264, nHB⟩ := geA hg hb; have GE264 := GW264; replace HB := nHB; clear nHB; clear hb hbox hg) | ((with_reducible refine gate_dst (N := 4) rfl ?_); refine box_event ?hg (N := 4) ?hd (cs := #[.bool false, .int .u64 0, .int .u64 0]) (t := 60) ?hr ?_; (case hd => rfl); (case hg => rfl); (case hr => first | (go_simp; done) | (go_simp; rfl)); intro gb265 hg w15 hbox hb; have BK265 := Aside0.mk (hbox); obtain ⟨GW265, nHB⟩ := geA hg hb; have GE265 := GW265; obtain ⟨NB264_265, NB265_264, nBK⟩ := nbA BK264 hg hb; replace BK264 := nBK; clear nBK; replace HB := nHB; clear nHB; clear hb hbox hg; have hnb16 := NB264_265.out; have hnc16 := NB265_264.out; have hcz17_0 := czZ BK264 0 (.int .u64 a0_0); have hcz17_1 := czZ BK264 1 (.int .u64 a0_1); have hcz17_2 := czZ BK264 2 (.int .u64 a0_2); have hcz17_3 := czZ BK264 3 (.int .u64 a0_3); have hfz17_0 := blk_frozen BK264.out 0; have hfz17_1 := blk_frozen BK264.out 1; have hfz17_2 := blk_frozen BK264.out 2; have hfz17_3 := blk_frozen BK264.out 3) | ((with_reducible refine gate_dst (N := 5) rfl ?_); refine box_event ?hg (N := 5) ?hd (cs := #[.bool false, .int .u64 0, .int .u64 0]) (t := 60) ?hr ?_; (case hd => rfl); (case hg => rfl); (case hr => first | (go_simp; done) | (go_simp; rfl)); intro gb266 hg w18 hbox hb; have BK266 := Aside0.mk (hbox); obtain ⟨GW266, nHB⟩ := geA hg hb; have GE266 := GW266; obtain ⟨NB264_266, NB266_264, nBK⟩ := nbA BK264 hg hb; replace BK264 := nBK; clear nBK; obtain ⟨NB265_266, NB266_265, nBK⟩ := nbA BK265 hg hb; replace BK265 := nBK; clear nBK; replace HB := nHB; clear nHB; clear hb hbox hg; have hnb19 := NB266_264.out; have hnc19 := NB264_266.out; have hnb20 := NB266_265.out; have hnc20 := NB265_266.out; have hcz21_0 := czZ BK266 0 (.bool false); have hcz21_1 := czZ BK266 1 (.int .u64 0); have hcz21_2 := czZ BK266 2 (.int .u64 0); have hfz21_0 := blk_frozen BK266.out 0; have hfz21_1 := blk_frozen BK266.out 1; have hfz21_2 := blk_frozen BK266.out 2; have hcz22_0 := czZ BK265 0 (.bool false); have hcz22_1 := czZ BK265 1 (.int .u64 0); have hcz22_2 := czZ BK265 2 (.int .u64 0); have hfz22_0 := blk_frozen BK265.out 0; have hfz22_1 := blk_frozen BK265.out 1; have hfz22_2 := blk_frozen BK265.out 2))
   refine bodyPost_ret (results_cell_row rfl _ _ gb265 60 #[.bool (decide ((IntKind.u64.wrap ((IntKind.u64.wrap (a0_1 * 4294967296)) + a0_0)) > 0)), .int .u64 (IntKind.u64.wrap ((IntKind.u64.wrap (a0_3 * 4294967296)) + a0_2)), .int .u64 (IntKind.u64.wrap ((IntKind.u64.wrap (a0_1 * 4294967296)) + a0_0))] (0, 0) _ rfl (by (with_reducible repeat (first | refine blk_drewN ?_ _ | refine blk_drew ?_ | refine blk_alloc ?_ _)); refine blk_put (cs := #[.bool (decide ((IntKind.u64.wrap ((IntKind.u64.wrap (a0_1 * 4294967296)) + a0_0)) > 0)), .int .u64 (IntKind.u64.wrap ((IntKind.u64.wrap (a0_3 * 4294967296)) + a0_2)), .int .u64 0]) ?_ 2 _ rfl; (with_reducible repeat (first | refine blk_drewN ?_ _ | refine blk_drew ?_ | refine blk_alloc ?_ _)); refine blk_put (cs := #[.bool (decide ((IntKind.u64.wrap ((IntKind.u64.wrap (a0_1 * 4294967296)) + a0_0)) > 0)), .int .u64 0, .int .u64 0]) ?_ 1 _ rfl; (with_reducible repeat (first | refine blk_drewN ?_ _ | refine blk_drew ?_ | refine blk_alloc ?_ _)); refine blk_put (cs := #[.bool false, .int .u64 0, .int .u64 0]) ?_ 0 _ rfl; (with_reducible repeat (first | refine blk_drewN ?_ _ | refine blk_drew ?_ | refine blk_alloc ?_ _)); refine blk_far ?_ NB265_266.out _; (with_reducible repeat (first | refine blk_drewN ?_ _ | refine blk_drew ?_ | refine blk_alloc ?_ _)); refine blk_far ?_ NB265_266.out _; (with_reducible repeat (first | refine blk_drewN ?_ _ | refine blk_drew ?_ | refine blk_alloc ?_ _)); refine blk_far ?_ NB265_266.out _; (with_reducible repeat (first | refine blk_drewN ?_ _ | refine blk_drew ?_ | refine blk_alloc ?_ _)); refine blk_far ?_ NB265_266.out _; (with_reducible repeat (first | refine blk_drewN ?_ _ | refine blk_drew ?_ | refine blk_alloc ?_ _)); exact BK265.out) Try.underlying60 rfl (by kernel_rfl)) rfl ?_; exact ⟨by first | rfl | (simp [errW_none, errW_some] <;> rfl) | (simp [*, errW_none, errW_some] <;> rfl), by repeat (first | (with_reducible first | exact HB.out | apply below_alloc | apply pw_below_drewN | apply below_drew1 | refine below_set ?_ (Aside0.out (by assumption))) | exact HB.out)⟩
 ·replace c3 := Bool.eq_false_iff.mpr c3
  subst c3
  have H1 : (some (false, IntKind.u64.wrap ((IntKind.u64.wrap (a0_3 * 4294967296)) + a0_2), IntKind.u64.wrap ((IntKind.u64.wrap (a0_1 * 4294967296)) + a0_0))) = some (r1, r2, r3) := by rw [if_neg (show ¬ (false = true) by decide)] at H; exact H
  clear H; have H := H1; clear H1; simp only [Option.some.injEq, Prod.mk.injEq] at H; obtain ⟨rfl, rfl, rfl⟩ := H
  go_enter Try.func59, Try.ntmps59
  go_wp2_with (first | ((with_reducible refine gate_dst (N := 2) rfl ?_); refine box_event ?hg (N := 2) ?hd (cs := #[.int .u64 a0_0, .int .u64 a0_1, .int .u64 a0_2, .int .u64 a0_3]) (t := 69) ?hr ?_; (case hd => rfl); (case hg => rfl); (case hr => first | (go_simp; done) | (go_simp; rfl)); intro gb264 hg w23 hbox hb; have BK264 := Aside0.mk (hbox); obtain ⟨GW264, nHB⟩ := geA hg hb; have GE264 := GW264; replace HB := nHB; clear nHB; clear hb hbox hg) | ((with_reducible refine gate_dst (N := 4) rfl ?_); refine box_event ?hg (N := 4) ?hd (cs := #[.bool false, .int .u64 0, .int .u64 0]) (t := 60) ?hr ?_; (case hd => rfl); (case hg => rfl); (case hr => first | (go_simp; done) | (go_simp; rfl)); intro gb265 hg w24 hbox hb; have BK265 := Aside0.mk (hbox); obtain ⟨GW265, nHB⟩ := geA hg hb; have GE265 := GW265; obtain ⟨NB264_265, NB265_264, nBK⟩ := nbA BK264 hg hb; replace BK264 := nBK; clear nBK; replace HB := nHB; clear nHB; clear hb hbox hg; have hnb25 := NB264_265.out; have hnc25 := NB265_264.out; have hcz26_0 := czZ BK264 0 (.int .u64 a0_0); have hcz26_1 := czZ BK264 1 (.int .u64 a0_1); have hcz26_2 := czZ BK264 2 (.int .u64 a0_2); have hcz26_3 := czZ BK264 3 (.int .u64 a0_3); have hfz26_0 := blk_frozen BK264.out 0; have hfz26_1 := blk_frozen BK264.out 1; have hfz26_2 := blk_frozen BK264.out 2; have hfz26_3 := blk_frozen BK264.out 3) | ((with_reducible refine gate_dst (N := 5) rfl ?_); refine box_event ?hg (N := 5) ?hd (cs := #[.bool false, .int .u64 0, .int .u64 0]) (t := 60) ?hr ?_; (case hd => rfl); (case hg => rfl); (case hr => first | (go_simp; done) | (go_simp; rfl)); intro gb266 hg w27 hbox hb; have BK266 := Aside0.mk (hbox); obtain ⟨GW266, nHB⟩ := geA hg hb; have GE266 := GW266; obtain ⟨NB264_266, NB266_264, nBK⟩ := nbA BK264 hg hb; replace BK264 := nBK; clear nBK; obtain ⟨NB265_266, NB266_265, nBK⟩ := nbA BK265 hg hb; replace BK265 := nBK; clear nBK; replace HB := nHB; clear nHB; clear hb hbox hg; have hnb28 := NB266_264.out; have hnc28 := NB264_266.out; have hnb29 := NB266_265.out; have hnc29 := NB265_266.out; have hcz30_0 := czZ BK266 0 (.bool false); have hcz30_1 := czZ BK266 1 (.int .u64 0); have hcz30_2 := czZ BK266 2 (.int .u64 0); have hfz30_0 := blk_frozen BK266.out 0; have hfz30_1 := blk_frozen BK266.out 1; have hfz30_2 := blk_frozen BK266.out 2; have hcz31_0 := czZ BK265 0 (.bool false); have hcz31_1 := czZ BK265 1 (.int .u64 0); have hcz31_2 := czZ BK265 2 (.int .u64 0); have hfz31_0 := blk_frozen BK265.out 0; have hfz31_1 := blk_frozen BK265.out 1; have hfz31_2 := blk_frozen BK265.out 2))
  refine bodyPost_ret (results_cell_row rfl _ _ gb265 60 #[.bool false, .int .u64 (IntKind.u64.wrap ((IntKind.u64.wrap (a0_3 * 4294967296)) + a0_2)), .int .u64 (IntKind.u64.wrap ((IntKind.u64.wrap (a0_1 * 4294967296)) + a0_0))] (0, 0) _ rfl (by (with_reducible repeat (first | refine blk_drewN ?_ _ | refine blk_drew ?_ | refine blk_alloc ?_ _)); refine blk_put (cs := #[.bool false, .int .u64 (IntKind.u64.wrap ((IntKind.u64.wrap (a0_3 * 4294967296)) + a0_2)), .int .u64 0]) ?_ 2 _ rfl; (with_reducible repeat (first | refine blk_drewN ?_ _ | refine blk_drew ?_ | refine blk_alloc ?_ _)); refine blk_put (cs := #[.bool false, .int .u64 0, .int .u64 0]) ?_ 1 _ rfl; (with_reducible repeat (first | refine blk_drewN ?_ _ | refine blk_drew ?_ | refine blk_alloc ?_ _)); refine blk_put (cs := #[.bool false, .int .u64 0, .int .u64 0]) ?_ 0 _ rfl; (with_reducible repeat (first | refine blk_drewN ?_ _ | refine blk_drew ?_ | refine blk_alloc ?_ _)); refine blk_far ?_ NB265_266.out _; (with_reducible repeat (first | refine blk_drewN ?_ _ | refine blk_drew ?_ | refine blk_alloc ?_ _)); refine blk_far ?_ NB265_266.out _; (with_reducible repeat (first | refine blk_drewN ?_ _ | refine blk_drew ?_ | refine blk_alloc ?_ _)); refine blk_far ?_ NB265_266.out _; (with_reducible repeat (first | refine blk_drewN ?_ _ | refine blk_drew ?_ | refine blk_alloc ?_ _)); refine blk_far ?_ NB265_266.out _; (with_reducible repeat (first | refine blk_drewN ?_ _ | refine blk_drew ?_ | refine blk_alloc ?_ _)); exact BK265.out) Try.underlying60 rfl (by kernel_rfl)) rfl ?_; exact ⟨by first | rfl | (simp [errW_none, errW_some] <;> rfl) | (simp [*, errW_none, errW_some] <;> rfl), by repeat (first | (with_reducible first | exact HB.out | apply below_alloc | apply pw_below_drewN | apply below_drew1 | refine below_set ?_ (Aside0.out (by assumption))) | exact HB.out)⟩

/-! ### sawtoothref02_wholeS: four digits and a sign: pure, behind function 59 -/
noncomputable def sawtoothref02_wholeS.f (a b c d : Int) (s : Bool) : Option (Bool × Int × Int) := Go.Proofs.Ytepmnfjcmppghaa.Sp.need (Go.Proofs.Ytepmnfjcmppghaa.Sp.Dg a ∧ Go.Proofs.Ytepmnfjcmppghaa.Sp.Dg b ∧ Go.Proofs.Ytepmnfjcmppghaa.Sp.Dg c ∧ Go.Proofs.Ytepmnfjcmppghaa.Sp.Dg d) (some (Go.Proofs.Ytepmnfjcmppghaa.Sp.encN (Go.Proofs.Ytepmnfjcmppghaa.Sp.val s (d * 4294967296 + c) (b * 4294967296 + a)), Go.Proofs.Ytepmnfjcmppghaa.Sp.encH (Go.Proofs.Ytepmnfjcmppghaa.Sp.val s (d * 4294967296 + c) (b * 4294967296 + a)), Go.Proofs.Ytepmnfjcmppghaa.Sp.encL (Go.Proofs.Ytepmnfjcmppghaa.Sp.val s (d * 4294967296 + c) (b * 4294967296 + a))))
section Ref02Whole
open Go.Proofs.Ytepmnfjcmppghaa.Sp
theorem sawtoothref02_digits.eq {n : Bool} {h l : Int} (h1 : U h) (h2 : U l) : sawtoothref02_digits.f n h l = some (l % 4294967296, l / 4294967296, h % 4294967296, h / 4294967296) := by
 have tm : ∀ {x : Int}, U x → Int.tmod x 4294967296 = x % 4294967296 := fun h => Int.tmod_eq_emod_of_nonneg h.1
 have td : ∀ {x : Int}, U x → IntKind.u64.wrap (Int.tdiv x 4294967296) = x / 4294967296 := fun h => by rw [Int.tdiv_eq_ediv_of_nonneg h.1]; exact u64w_in (by omega)
 unfold sawtoothref02_digits.f; rw [tm h2, td h2, tm h1, td h1]
theorem sawtoothref02_wholeS.eq {a b c d : Int} {s : Bool} (h1 : Dg a) (h2 : Dg b) (h3 : Dg c) (h4 : Dg d) : sawtoothref02_wholeS.f a b c d s = some (encN (val s (d * 4294967296 + c) (b * 4294967296 + a)), encH (val s (d * 4294967296 + c) (b * 4294967296 + a)), encL (val s (d * 4294967296 + c) (b * 4294967296 + a))) := need_pos ⟨h1, h2, h3, h4⟩
theorem sawtoothref02_whole.main {a b c d : Int} {s : Bool} (h1 : Dg a) (h2 : Dg b) (h3 : Dg c) (h4 : Dg d) : sawtoothref02_whole.f a b c d s = some (encN (val s (d * 4294967296 + c) (b * 4294967296 + a)), encH (val s (d * 4294967296 + c) (b * 4294967296 + a)), encL (val s (d * 4294967296 + c) (b * 4294967296 + a))) := by
 unfold sawtoothref02_whole.f
 have e1 : IntKind.u64.wrap (IntKind.u64.wrap (d * 4294967296) + c) = d * 4294967296 + c := by rw [u64w, u64w]; omega
 have e2 : IntKind.u64.wrap (IntKind.u64.wrap (b * 4294967296) + a) = b * 4294967296 + a := by rw [u64w, u64w]; omega
 rw [e1, e2]
 have u1 : U (d * 4294967296 + c) := by omega
 have u2 : U (b * 4294967296 + a) := by omega
 clear e1 e2 h1 h2 h3 h4
 generalize d * 4294967296 + c = h at *
 generalize b * 4294967296 + a = l at *
 cases s with
 | false =>
  obtain ⟨k1, k2, k3⟩ := enc_of (n := false) u1 u2 (by simp)
  rw [if_neg (by simp), k1, k2, k3]
 | true =>
  rw [if_pos rfl]
  by_cases hz : h = 0 ∧ l = 0
  ·obtain ⟨rfl, rfl⟩ := hz
   rw [val_t]; simp [encN, encH, encL]
  ·obtain ⟨k1, k2, k3⟩ := enc_of (n := true) u1 u2 (fun _ => hz)
   rw [k1, k2, k3]
   by_cases hp : h > 0
   ·rw [if_pos hp]
   ·rw [if_neg hp, decide_eq_true (by omega)]
end Ref02Whole
theorem sawtoothref02_wholeS.calls (a b c d : Int) (s : Bool) (r1 : Bool) (r2 r3 : Int) (w : World) (h : sawtoothref02_wholeS.f a b c d s = some (r1, r2, r3)) :
  Calls Try.prog 59 #[.agg #[.int .u64 a, .int .u64 b, .int .u64 c, .int .u64 d], .bool s] w fun e w' => e = .returned (.agg #[.bool r1, .int .u64 r2, .int .u64 r3]) ∧ Below w.heap.size w w' := by
 obtain ⟨hc, h⟩ := Go.Proofs.Ytepmnfjcmppghaa.Sp.need_some h; obtain ⟨h1, h2, h3, h4⟩ := hc; exact sawtoothref02_whole.calls a b c d s r1 r2 r3 w (by rw [sawtoothref02_whole.main h1 h2 h3 h4]; exact h)

/-! ### sawtoothref02_less: function 60 -/
noncomputable def sawtoothref02_less.f (a0 a1 a2 a3 b0 b1 b2 b3 : Int) : Option Bool :=
 if a3 = b3 then (if a2 = b2 then (if a1 = b1 then (if a0 = b0 then some false else some (decide (a0 < b0))) else some (decide (a1 < b1))) else some (decide (a2 < b2))) else some (decide (a3 < b3))
set_option maxHeartbeats 4000000 in
set_option maxRecDepth 100000 in
theorem sawtoothref02_less.calls (a0 a1 a2 a3 b0 b1 b2 b3 : Int) (r : Bool) (w : World) (h : sawtoothref02_less.f a0 a1 a2 a3 b0 b1 b2 b3 = some r) :
  Calls Try.prog 60 #[.agg #[.int .u64 a0, .int .u64 a1, .int .u64 a2, .int .u64 a3], .agg #[.int .u64 b0, .int .u64 b1, .int .u64 b2, .int .u64 b3]] w fun e w' => e = .returned (.bool r) ∧ Below w.heap.size w w' := by
 have hu69 := Try.underlying69; have HB := Aside0.mk (Below.refl w.heap.size w)
 unfold sawtoothref02_less.f at h
 by_cases c3 : a3 = b3
 rotate_left
 ·rw [if_neg c3] at h
  obtain rfl := Option.some.inj h; clear h
  have d3 : (a3 != b3) = true := by simp [c3]
  clear c3
  go_enter Try.func60, Try.ntmps60
  go_wp2_with (fail)
  refine wp_loop_rounds 1 ?_
  rw [rounds_succ]
  go_wp2_with (fail)
  go_quiet (fail)
  go_wp2_with (fail)
  go_quiet (fail)
  go_wp2_with (fail)
  go_ret
  exact ⟨rfl, by repeat (first | exact HB.out | apply below_alloc | apply pw_below_drewN)⟩
 rw [if_pos c3] at h
 subst c3
 by_cases c2 : a2 = b2
 rotate_left
 ·rw [if_neg c2] at h
  obtain rfl := Option.some.inj h; clear h
  have d2 : (a2 != b2) = true := by simp [c2]
  clear c2
  go_enter Try.func60, Try.ntmps60
  go_wp2_with (fail)
  refine wp_loop_rounds 2 ?_
  rw [rounds_succ]
  go_wp2_with (fail)
  go_quiet (fail)
  go_wp2_with (fail)
  rw [rounds_succ]
  go_wp2_with (fail)
  go_quiet (fail)
  go_wp2_with (fail)
  go_quiet (fail)
  go_wp2_with (fail)
  go_ret
  exact ⟨rfl, by repeat (first | exact HB.out | apply below_alloc | apply pw_below_drewN)⟩
 rw [if_pos c2] at h
 subst c2
 by_cases c1 : a1 = b1
 rotate_left
 ·rw [if_neg c1] at h
  obtain rfl := Option.some.inj h; clear h
  have d1 : (a1 != b1) = true := by simp [c1]
  clear c1
  go_enter Try.func60, Try.ntmps60
  go_wp2_with (fail)
  refine wp_loop_rounds 3 ?_
  rw [rounds_succ]
  go_wp2_with (fail)
  go_quiet (fail)
  go_wp2_with (fail)
  rw [rounds_succ]
  go_wp2_with (fail)
  go_quiet (fail)
  go_wp2_with (fail)
  rw [rounds_succ]
  go_wp2_with (fail)
  go_quiet (fail)
  go_wp2_with (fail)
  go_quiet (fail)
  go_wp2_with (fail)
  go_ret
  exact ⟨rfl, by repeat (first | exact HB.out | apply below_alloc | apply pw_below_drewN)⟩
 rw [if_pos c1] at h
 subst c1
 by_cases c0 : a0 = b0
 rotate_left
 ·rw [if_neg c0] at h
  obtain rfl := Option.some.inj h; clear h
  have d0 : (a0 != b0) = true := by simp [c0]
  clear c0
  go_enter Try.func60, Try.ntmps60
  go_wp2_with (fail)
  refine wp_loop_rounds 4 ?_
  rw [rounds_succ]
  go_wp2_with (fail)
  go_quiet (fail)
  go_wp2_with (fail)
  rw [rounds_succ]
  go_wp2_with (fail)
  go_quiet (fail)
  go_wp2_with (fail)
  rw [rounds_succ]
  go_wp2_with (fail)
  go_quiet (fail)
  go_wp2_with (fail)
  rw [rounds_succ]
  go_wp2_with (fail)
  go_quiet (fail)
  go_wp2_with (fail)
  go_quiet (fail)
  go_wp2_with (fail)
  go_ret
  exact ⟨rfl, by repeat (first | exact HB.out | apply below_alloc | apply pw_below_drewN)⟩
 rw [if_pos c0] at h
 subst c0
 obtain rfl := Option.some.inj h; clear h
 go_enter Try.func60, Try.ntmps60
 go_wp2_with (fail)
 refine wp_loop_rounds 5 ?_
 rw [rounds_succ]
 go_wp2_with (fail)
 go_quiet (fail)
 go_wp2_with (fail)
 rw [rounds_succ]
 go_wp2_with (fail)
 go_quiet (fail)
 go_wp2_with (fail)
 rw [rounds_succ]
 go_wp2_with (fail)
 go_quiet (fail)
 go_wp2_with (fail)
 rw [rounds_succ]
 go_wp2_with (fail)
 go_quiet (fail)
 go_wp2_with (fail)
 rw [rounds_succ]
 go_wp2_with (fail)
 go_ret
 exact ⟨rfl, by repeat (first | exact HB.out | apply below_alloc | apply pw_below_drewN)⟩
section Ref02Less
open Go.Proofs.Ytepmnfjcmppghaa.Sp
theorem sawtoothref02_less.eq {h l i k : Int} (h1 : U h) (h2 : U l) (h3 : U i) (h4 : U k) : sawtoothref02_less.f (l % 4294967296) (l / 4294967296) (h % 4294967296) (h / 4294967296) (k % 4294967296) (k / 4294967296) (i % 4294967296) (i / 4294967296) = some (decide (h * 18446744073709551616 + l < i * 18446744073709551616 + k)) := by
 unfold sawtoothref02_less.f
 split
 ·split
  ·split
   ·split
    ·rw [decide_eq_false]; omega
    ·congr 1; rw [decide_eq_decide]; omega
   ·congr 1; rw [decide_eq_decide]; omega
  ·congr 1; rw [decide_eq_decide]; omega
 ·congr 1; rw [decide_eq_decide]; omega
end Ref02Less

/-! ### sawtoothref02_minus: function 61 -/
noncomputable def sawtoothref02_minus.f (a0 a1 a2 a3 b0 b1 b2 b3 : Int) : Option (Int × Int × Int × Int) := Go.Proofs.Ytepmnfjcmppghaa.Sp.need (Go.Proofs.Ytepmnfjcmppghaa.Sp.Dg a0 ∧ Go.Proofs.Ytepmnfjcmppghaa.Sp.Dg a1 ∧ Go.Proofs.Ytepmnfjcmppghaa.Sp.Dg a2 ∧ Go.Proofs.Ytepmnfjcmppghaa.Sp.Dg a3 ∧ Go.Proofs.Ytepmnfjcmppghaa.Sp.Dg b0 ∧ Go.Proofs.Ytepmnfjcmppghaa.Sp.Dg b1 ∧ Go.Proofs.Ytepmnfjcmppghaa.Sp.Dg b2 ∧ Go.Proofs.Ytepmnfjcmppghaa.Sp.Dg b3) (some ((4294967296 + a0 - b0) % 4294967296, (4294967296 + a1 - b1 - (1 - (4294967296 + a0 - b0) / 4294967296)) % 4294967296, (4294967296 + a2 - b2 - (1 - (4294967296 + a1 - b1 - (1 - (4294967296 + a0 - b0) / 4294967296)) / 4294967296)) % 4294967296, (4294967296 + a3 - b3 - (1 - (4294967296 + a2 - b2 - (1 - (4294967296 + a1 - b1 - (1 - (4294967296 + a0 - b0) / 4294967296)) / 4294967296)) / 4294967296)) % 4294967296))
set_option maxHeartbeats 4000000 in
set_option maxRecDepth 100000 in
theorem sawtoothref02_minus.walk (a0 a1 a2 a3 b0 b1 b2 b3 t0 u0 s0 o0 q0 c0 t1 u1 s1 o1 q1 c1 t2 u2 s2 o2 q2 c2 t3 u3 s3 o3 q3 c3 : Int) (E0 : IntKind.u64.wrap (4294967296 + a0) = t0) (G0 : IntKind.u64.wrap (t0 - b0) = u0) (F0 : IntKind.u64.wrap (u0) = s0) (R0 : Int.tmod s0 4294967296 = o0) (Q0 : IntKind.u64.wrap (Int.tdiv s0 4294967296) = q0) (Z0 : IntKind.u64.wrap (1 - q0) = c0) (E1 : IntKind.u64.wrap (4294967296 + a1) = t1) (G1 : IntKind.u64.wrap (t1 - b1) = u1) (F1 : IntKind.u64.wrap (u1 - c0) = s1) (R1 : Int.tmod s1 4294967296 = o1) (Q1 : IntKind.u64.wrap (Int.tdiv s1 4294967296) = q1) (Z1 : IntKind.u64.wrap (1 - q1) = c1) (E2 : IntKind.u64.wrap (4294967296 + a2) = t2) (G2 : IntKind.u64.wrap (t2 - b2) = u2) (F2 : IntKind.u64.wrap (u2 - c1) = s2) (R2 : Int.tmod s2 4294967296 = o2) (Q2 : IntKind.u64.wrap (Int.tdiv s2 4294967296) = q2) (Z2 : IntKind.u64.wrap (1 - q2) = c2) (E3 : IntKind.u64.wrap (4294967296 + a3) = t3) (G3 : IntKind.u64.wrap (t3 - b3) = u3) (F3 : IntKind.u64.wrap (u3 - c2) = s3) (R3 : Int.tmod s3 4294967296 = o3) (Q3 : IntKind.u64.wrap (Int.tdiv s3 4294967296) = q3) (Z3 : IntKind.u64.wrap (1 - q3) = c3) (w : World) :
  Calls Try.prog 61 #[.agg #[.int .u64 a0, .int .u64 a1, .int .u64 a2, .int .u64 a3], .agg #[.int .u64 b0, .int .u64 b1, .int .u64 b2, .int .u64 b3]] w fun e w' => e = .returned (.agg #[.int .u64 o0, .int .u64 o1, .int .u64 o2, .int .u64 o3]) ∧ Below w.heap.size w w' := by
 have hu69 := Try.underlying69; have HB := Aside0.mk (Below.refl w.heap.size w)
 go_enter Try.func61, Try.ntmps61
 go_wp2_with (fail)
 refine wp_loop_rounds 5 ?_
 rw [rounds_succ]
 go_wp2_with (fail)
 go_quiet (fail)
 go_wp2_with (fail)
 rw [rounds_succ]
 go_wp2_with (fail)
 go_quiet (fail)
 go_wp2_with (fail)
 rw [rounds_succ]
 go_wp2_with (fail)
 go_quiet (fail)
 go_wp2_with (fail)
 rw [rounds_succ]
 go_wp2_with (fail)
 go_quiet (fail)
 go_wp2_with (fail)
 rw [rounds_succ]
 go_wp2_with (fail)
 have eB : w.heap.size + 1 + 1 = ((w.alloc (.cells #[.int .u64 a0, .int .u64 a1, .int .u64 a2, .int .u64 a3] 69)).alloc (.cells #[.int .u64 b0, .int .u64 b1, .int .u64 b2, .int .u64 b3] 69)).heap.size := by simp
 refine bodyPost_ret (results_cell_row rfl _ _ (w.heap.size + 1 + 1) 69 #[.int .u64 o0, .int .u64 o1, .int .u64 o2, .int .u64 o3] (0, 0) _ rfl (by
  refine blk_put (cs := #[.int .u64 o0, .int .u64 o1, .int .u64 o2, .int .u64 0]) ?_ 3 _ rfl; refine blk_put (cs := #[.int .u64 o0, .int .u64 o1, .int .u64 0, .int .u64 0]) ?_ 2 _ rfl; refine blk_put (cs := #[.int .u64 o0, .int .u64 0, .int .u64 0, .int .u64 0]) ?_ 1 _ rfl; refine blk_put (cs := #[.int .u64 0, .int .u64 0, .int .u64 0, .int .u64 0]) ?_ 0 _ rfl; (with_reducible repeat (first | refine blk_far ?_ (by simp) _ | refine blk_drewN ?_ _)); refine blk_alloc ?_ _
  rw [eB]; exact blk_new _ _) hu69 rfl (by kernel_rfl)) rfl ?_
 exact ⟨rfl, by repeat (with_reducible first | exact HB.out | refine below_set ?_ (by omega) | apply below_alloc | apply pw_below_drewN)⟩
theorem sawtoothref02_minus.calls (a0 a1 a2 a3 b0 b1 b2 b3 r0 r1 r2 r3 : Int) (w : World) (h : sawtoothref02_minus.f a0 a1 a2 a3 b0 b1 b2 b3 = some (r0, r1, r2, r3)) :
  Calls Try.prog 61 #[.agg #[.int .u64 a0, .int .u64 a1, .int .u64 a2, .int .u64 a3], .agg #[.int .u64 b0, .int .u64 b1, .int .u64 b2, .int .u64 b3]] w fun e w' => e = .returned (.agg #[.int .u64 r0, .int .u64 r1, .int .u64 r2, .int .u64 r3]) ∧ Below w.heap.size w w' := by
 obtain ⟨⟨A0, A1, A2, A3, B0, B1, B2, B3⟩, h⟩ := Go.Proofs.Ytepmnfjcmppghaa.Sp.need_some h; simp only [Option.some.injEq, Prod.mk.injEq] at h; obtain ⟨rfl, rfl, rfl, rfl⟩ := h
 have sm : ∀ {x : Int}, 0 ≤ x → x < 18446744073709551616 → IntKind.u64.wrap x = x := fun h1 h2 => Go.Proofs.Ytepmnfjcmppghaa.Sp.u64w_in ⟨h1, h2⟩
 have tm : ∀ {x : Int}, 0 ≤ x → Int.tmod x 4294967296 = x % 4294967296 := fun h => Int.tmod_eq_emod_of_nonneg h
 have td : ∀ {x : Int}, 0 ≤ x → x < 18446744073709551616 → IntKind.u64.wrap (Int.tdiv x 4294967296) = x / 4294967296 := fun h1 h2 => by rw [Int.tdiv_eq_ediv_of_nonneg h1]; exact sm (by omega) (by omega)
 exact sawtoothref02_minus.walk (E0 := sm (by omega) (by omega)) (G0 := sm (by omega) (by omega)) (F0 := sm (by omega) (by omega)) (R0 := tm (by omega)) (Q0 := td (by omega) (by omega)) (Z0 := sm (by omega) (by omega)) (E1 := sm (by omega) (by omega)) (G1 := sm (by omega) (by omega)) (F1 := sm (by omega) (by omega)) (R1 := tm (by omega)) (Q1 := td (by omega) (by omega)) (Z1 := sm (by omega) (by omega)) (E2 := sm (by omega) (by omega)) (G2 := sm (by omega) (by omega)) (F2 := sm (by omega) (by omega)) (R2 := tm (by omega)) (Q2 := td (by omega) (by omega)) (Z2 := sm (by omega) (by omega)) (E3 := sm (by omega) (by omega)) (G3 := sm (by omega) (by omega)) (F3 := sm (by omega) (by omega)) (R3 := tm (by omega)) (Q3 := td (by omega) (by omega)) (Z3 := sm (by omega) (by omega)) (w := w)

end Go.Proofs.Ytepmnfjcmppghaa.Px
