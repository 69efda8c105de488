/- Printed by px.py, over the kit's print. Conditions: none beside the theorems' own. -/
import Derived.Test.YtbpcfamjidjhjaaDoorPx0
import Derived.Test.YtbpcfamjidjhjaaDoorPx8
import Derived.Test.YtbpcfamjidjhjaaDoorPx14
import Derived.Test.YtbpcfamjidjhjaaDoorPx15
import Derived.Test.YtbpcfamjidjhjaaDoorPx16
import Derived.Test.YtbpcfamjidjhjaaDoorSpec
namespace Go.Proofs.YtbpcfamjidjhjaaDoor.Px
open Go.RowKit Go.Proofs.YtbpcfamjidjhjaaDoorW.PrintWords Go.Proofs.YtbpcfamjidjhjaaDoorW.PrintLast Go.Proofs.YtbpcfamjidjhjaaDoorW.PrintMore
attribute [local go_sem] max2_int min2_int max_two min_two max_three min_three max_four min_four
set_option linter.unusedVariables false
set_option linter.unusedSimpArgs false

/-! ### guide_Used: function 19 -/
noncomputable def guide_Used.f (a0 : Int) (a1 : Int) (a2 : Int) : Option (Bool) := if (mn (mn a0 a1) a2) ≥ 0 then ((big_MulS.f a1 131072).bind fun bt172 => ((big_MulS.f a0 a2).bind fun bt175 => ((big_CmpS.f bt172.1 bt172.2.1 bt172.2.2 bt175.1 bt175.2.1 bt175.2.2).bind fun t178 => (some (decide (t178 ≥ 0)))))) else (some false)
set_option maxHeartbeats 8000000 in
set_option maxRecDepth 100000 in
theorem guide_Used.calls (a0 : Int) (a1 : Int) (a2 : Int) (r : Bool) (w : World) (h : guide_Used.f a0 a1 a2 = some r) :
  Calls Tryd.prog 19 #[.int .i64 a0, .int .i64 a1, .int .i64 a2] w fun e w' => e = .returned (.bool r) ∧ Below w.heap.size w w' := by
 have HB := Aside0.mk (Below.refl w.heap.size w); have H : (if (mn (mn a0 a1) a2) ≥ 0 then ((big_MulS.f a1 131072).bind fun bt172 => ((big_MulS.f a0 a2).bind fun bt175 => ((big_CmpS.f bt172.1 bt172.2.1 bt172.2.2 bt175.1 bt175.2.1 bt175.2.2).bind fun t178 => (some (decide (t178 ≥ 0)))))) else (some false)) = some r := h; clear h
 obtain ⟨ji4, hji4⟩ : ∃ j_ : Int, (mn a0 a1) = j_ := ⟨_, rfl⟩
 replace H : (if (mn (ji4) a2) ≥ 0 then ((big_MulS.f a1 131072).bind fun bt172 => ((big_MulS.f a0 a2).bind fun bt175 => ((big_CmpS.f bt172.1 bt172.2.1 bt172.2.2 bt175.1 bt175.2.1 bt175.2.2).bind fun t178 => (some (decide (t178 ≥ 0)))))) else (some false)) = some r := by first | (rw [hji4] at H; exact H) | (simp only [hji4] at H ⊢; exact H)
 have hji4_ : (if a1 < a0 then a1 else a0) = ji4 := hji4
 obtain ⟨ji5, hji5⟩ : ∃ j_ : Int, (mn (ji4) a2) = j_ := ⟨_, rfl⟩
 replace H : (if (ji5) ≥ 0 then ((big_MulS.f a1 131072).bind fun bt172 => ((big_MulS.f a0 a2).bind fun bt175 => ((big_CmpS.f bt172.1 bt172.2.1 bt172.2.2 bt175.1 bt175.2.1 bt175.2.2).bind fun t178 => (some (decide (t178 ≥ 0)))))) else (some false)) = some r := by first | (rw [hji5] at H; exact H) | (simp only [hji5] at H ⊢; exact H)
 have hji5_ : (if a2 < (ji4) then a2 else (ji4)) = ji5 := hji5
 by_cases c6 : (ji5) ≥ 0
 ·rw [if_pos c6] at H
  have c6b0 : decide (0 ≤ (ji5)) = true := decide_eq_true c6; clear c6; replace H := Option.bind_eq_some_iff.mp H; obtain ⟨⟨t172, t173, t174⟩, A70, H⟩ := H; replace H : ((big_MulS.f a0 a2).bind fun bt175 => ((big_CmpS.f t172 t173 t174 bt175.1 bt175.2.1 bt175.2.2).bind fun t178 => (some (decide (t178 ≥ 0))))) = some r := H; have A7 := Aside0.mk A70; clear A70; replace H := Option.bind_eq_some_iff.mp H; obtain ⟨⟨t175, t176, t177⟩, A80, H⟩ := H; replace H : ((big_CmpS.f t172 t173 t174 t175 t176 t177).bind fun t178 => (some (decide (t178 ≥ 0)))) = some r := H; have A8 := Aside0.mk A80; clear A80; replace H := Option.bind_eq_some_iff.mp H; obtain ⟨t178, A90, H⟩ := H; replace H : (some (decide (t178 ≥ 0))) = some r := H; have A9 := Aside0.mk A90; clear A90; obtain rfl := Option.some.inj H
  go_enter Tryd.func19, Tryd.ntmps19
  go_wp2_with (first | (go_at_call 33; (with_reducible refine (big_MulS.calls a1 131072 t172 t173 t174 _ A7.out).mono ?_); rintro e w10 ⟨rfl, hb⟩; replace HB := stA hb; clear hb) | (go_at_call 33; (with_reducible refine (big_MulS.calls a0 a2 t175 t176 t177 _ A8.out).mono ?_); rintro e w11 ⟨rfl, hb⟩; replace HB := stA hb; clear hb) | (go_at_call 32; (with_reducible refine (big_CmpS.calls t172 t173 t174 t175 t176 t177 t178 _ A9.out).mono ?_); rintro e w12 ⟨rfl, hb⟩; replace HB := stA hb; clear hb))
  go_ret
  exact ⟨by first | rfl | (simp [errW_none, errW_some] <;> rfl) | (simp only [← hji4, ← hji5]; first | rfl | (simp [errW_none, errW_some] <;> rfl)) | (simp [*, errW_none, errW_some] <;> rfl), by repeat (first | (with_reducible first | exact HB.out | apply below_alloc | apply pw_below_drewN | apply below_drew1) | exact HB.out)⟩
 ·rw [if_neg c6] at H
  have c6b0 : decide (0 ≤ (ji5)) = false := decide_eq_false c6; clear c6; obtain rfl := Option.some.inj H
  go_enter Tryd.func19, Tryd.ntmps19
  go_wp2
  go_ret
  exact ⟨by first | rfl | (simp [errW_none, errW_some] <;> rfl) | (simp only [← hji4, ← hji5]; first | rfl | (simp [errW_none, errW_some] <;> rfl)) | (simp [*, errW_none, errW_some] <;> rfl), by repeat (first | (with_reducible first | exact HB.out | apply below_alloc | apply pw_below_drewN | apply below_drew1) | exact HB.out)⟩

/-! ### guide_UsedS: pure, behind function 19 -/
section
open Go.Proofs.YtbpcfamjidjhjaaDoor.Sp
noncomputable def guide_UsedS.f (a : Int) (b : Int) (c : Int) : Option (Bool) := need ((I a) ∧ (I b) ∧ (I c)) (some (usedQ a b c))
theorem guide_UsedS.eq {a : Int} {b : Int} {c : Int} (h1 : I a) (h2 : I b) (h3 : I c) : guide_UsedS.f a b c = some (usedQ a b c) := need_pos ⟨h1, h2, h3⟩
theorem guide_Used.main {a : Int} {b : Int} {c : Int} (h1 : I a) (h2 : I b) (h3 : I c) : guide_Used.f a b c = some (usedQ a b c) := by
 unfold guide_Used.f usedQ
 by_cases k : 0 ≤ a ∧ 0 ≤ b ∧ 0 ≤ c
 ·have m : mn (mn a b) c ≥ 0 := by unfold mn; (repeat' split) <;> omega
  have p1 := mul_le (A := 9223372036854775807) (C := 9223372036854775807) k.1 h1.2 k.2.2 h3.2
  rw [if_pos m, if_pos k, big_MulS.eq h2 (by omega), big_MulS.eq h1 h3]
  simp only [Option.bind_some]
  rw [big_CmpS.el (by omega) (encH_U (by omega)) encL_U, val_enc]
  simp only [Option.bind_some]
  congr 1
  rw [decide_eq_decide]
  unfold cmpI
  split
  ·omega
  ·split <;> omega
 ·have m : ¬ mn (mn a b) c ≥ 0 := by unfold mn; (repeat' split) <;> omega
  rw [if_neg m, if_neg k]
end
theorem guide_UsedS.calls (a0 : Int) (a1 : Int) (a2 : Int) (r : Bool) (w : World) (h : guide_UsedS.f a0 a1 a2 = some r) :
  Calls Tryd.prog 19 #[.int .i64 a0, .int .i64 a1, .int .i64 a2] w fun e w' => e = .returned (.bool r) ∧ Below w.heap.size w w' := by
 obtain ⟨hc, h⟩ := Sp.need_some h; obtain ⟨h1, h2, h3⟩ := hc; exact guide_Used.calls a0 a1 a2 r w (by rw [guide_Used.main h1 h2 h3]; exact h)

/-! ### epoch_window: function 36 -/
noncomputable def epoch_window.f (a0 : Int) : Option (Bool) := if a0 ≥ 0 then (some (decide (a0 ≤ 68719476736))) else (some false)
set_option maxHeartbeats 8000000 in
set_option maxRecDepth 100000 in
theorem epoch_window.calls (a0 : Int) (r : Bool) (w : World) (h : epoch_window.f a0 = some r) :
  Calls Tryd.prog 36 #[.int .i64 a0] w fun e w' => e = .returned (.bool r) ∧ Drawn0 w w' := by
 have H : (if a0 ≥ 0 then (some (decide (a0 ≤ 68719476736))) else (some false)) = some r := h; clear h
 by_cases c2 : a0 ≥ 0
 ·rw [if_pos c2] at H
  have c2b0 : decide (0 ≤ a0) = true := decide_eq_true c2; clear c2; obtain rfl := Option.some.inj H
  go_enter Tryd.func36, Tryd.ntmps36
  go_wp2
  go_ret
  exact ⟨by first | rfl | (simp; done) | (simp [*]; done), by repeat (first | exact Drawn0.refl _ | apply Drawn0.step)⟩
 ·rw [if_neg c2] at H
  have c2b0 : decide (0 ≤ a0) = false := decide_eq_false c2; clear c2; obtain rfl := Option.some.inj H
  go_enter Tryd.func36, Tryd.ntmps36
  go_wp2
  go_ret
  exact ⟨by first | rfl | (simp; done) | (simp [*]; done), by repeat (first | exact Drawn0.refl _ | apply Drawn0.step)⟩

/-! ### epoch_windowS: pure, behind function 36 -/
section
open Go.Proofs.YtbpcfamjidjhjaaDoor.Sp
noncomputable def epoch_windowS.f (n : Int) : Option (Bool) := some (winOk n)
theorem epoch_windowS.eq {n : Int}  : epoch_windowS.f n = some (winOk n) := rfl
theorem epoch_window.main {n : Int}  : epoch_window.f n = some (winOk n) := by
 unfold epoch_window.f winOk
 by_cases c1 : 0 ≤ n <;> by_cases c2 : n ≤ 68719476736 <;> simp [c1, c2]
end
theorem epoch_windowS.calls (a0 : Int) (r : Bool) (w : World) (h : epoch_windowS.f a0 = some r) :
  Calls Tryd.prog 36 #[.int .i64 a0] w fun e w' => e = .returned (.bool r) ∧ Below w.heap.size w w' := by
 refine (epoch_window.calls a0 r w (by rw [epoch_window.main ]; exact h)).mono (fun e w' hq => ⟨hq.1, ?_⟩); obtain ⟨nd, rfl⟩ := hq.2; exact pw_below_drewN (Below.refl _ _) nd

/-! ### epoch_time: function 37 -/
noncomputable def epoch_time.f (a0 : Int) : Option (Bool) := if a0 ≥ 0 then (some (decide (a0 ≤ 1099511627776))) else (some false)
set_option maxHeartbeats 8000000 in
set_option maxRecDepth 100000 in
theorem epoch_time.calls (a0 : Int) (r : Bool) (w : World) (h : epoch_time.f a0 = some r) :
  Calls Tryd.prog 37 #[.int .i64 a0] w fun e w' => e = .returned (.bool r) ∧ Drawn0 w w' := by
 have H : (if a0 ≥ 0 then (some (decide (a0 ≤ 1099511627776))) else (some false)) = some r := h; clear h
 by_cases c2 : a0 ≥ 0
 ·rw [if_pos c2] at H
  have c2b0 : decide (0 ≤ a0) = true := decide_eq_true c2; clear c2; obtain rfl := Option.some.inj H
  go_enter Tryd.func37, Tryd.ntmps37
  go_wp2
  go_ret
  exact ⟨by first | rfl | (simp; done) | (simp [*]; done), by repeat (first | exact Drawn0.refl _ | apply Drawn0.step)⟩
 ·rw [if_neg c2] at H
  have c2b0 : decide (0 ≤ a0) = false := decide_eq_false c2; clear c2; obtain rfl := Option.some.inj H
  go_enter Tryd.func37, Tryd.ntmps37
  go_wp2
  go_ret
  exact ⟨by first | rfl | (simp; done) | (simp [*]; done), by repeat (first | exact Drawn0.refl _ | apply Drawn0.step)⟩

/-! ### safe_Clamp: function 57 -/
noncomputable def safe_Clamp.f (a0 : Int) (a1 : Int) (a2 : Int) : Option (Int) := if a0 < a1 then (some a1) else (some (mn a0 a2))
set_option maxHeartbeats 8000000 in
set_option maxRecDepth 100000 in
theorem safe_Clamp.calls (a0 : Int) (a1 : Int) (a2 : Int) (r : Int) (w : World) (h : safe_Clamp.f a0 a1 a2 = some r) :
  Calls Tryd.prog 57 #[.int .i64 a0, .int .i64 a1, .int .i64 a2] w fun e w' => e = .returned (.int .i64 r) ∧ Below w.heap.size w w' := by
 have HB := Aside0.mk (Below.refl w.heap.size w); have H : (if a0 < a1 then (some a1) else (some (mn a0 a2))) = some r := h; clear h
 by_cases c4 : a0 < a1
 ·rw [if_pos c4] at H
  have c4b0 : decide (a0 < a1) = true := decide_eq_true c4; clear c4; obtain rfl := Option.some.inj H
  go_enter Tryd.func57, Tryd.ntmps57
  go_wp2
  go_ret
  exact ⟨by first | rfl | (simp [errW_none, errW_some] <;> rfl) | (simp [*, errW_none, errW_some] <;> rfl), by repeat (first | (with_reducible first | exact HB.out | apply below_alloc | apply pw_below_drewN | apply below_drew1) | exact HB.out)⟩
 ·rw [if_neg c4] at H
  have c4b0 : decide (a0 < a1) = false := decide_eq_false c4; clear c4
  obtain ⟨ji5, hji5⟩ : ∃ j_ : Int, (mn a0 a2) = j_ := ⟨_, rfl⟩
  replace H : (some ji5) = some r := by first | (rw [hji5] at H; exact H) | (simp only [hji5] at H ⊢; exact H)
  have hji5_ : (if a2 < a0 then a2 else a0) = ji5 := hji5; obtain rfl := Option.some.inj H
  go_enter Tryd.func57, Tryd.ntmps57
  go_wp2
  go_ret
  exact ⟨by first | rfl | (simp [errW_none, errW_some] <;> rfl) | (simp only [← hji5]; first | rfl | (simp [errW_none, errW_some] <;> rfl)) | (simp [*, errW_none, errW_some] <;> rfl), by repeat (first | (with_reducible first | exact HB.out | apply below_alloc | apply pw_below_drewN | apply below_drew1) | exact HB.out)⟩

/-! ### safe_ClampS: pure, behind function 57 -/
noncomputable def safe_ClampS.f (a b c : Int) : Option Int := Sp.need (Sp.I a ∧ Sp.I b ∧ Sp.I c) (some (Sp.clamp a b c))
theorem safe_ClampS.eq {a b c : Int} (h1 : Sp.I a) (h2 : Sp.I b) (h3 : Sp.I c) : safe_ClampS.f a b c = some (Sp.clamp a b c) := Sp.need_pos ⟨h1, h2, h3⟩
section
open Go.Proofs.YtbpcfamjidjhjaaDoor.Sp
theorem safe_Clamp.main {a b c : Int} (h1 : Sp.I a) (h2 : Sp.I b) (h3 : Sp.I c) : safe_Clamp.f a b c = some (Sp.clamp a b c) := by
 unfold safe_Clamp.f clamp mn
 split
 ·rfl
 ·rfl
end
theorem safe_ClampS.calls (a b c r : Int) (w : World) (h : safe_ClampS.f a b c = some r) :
  Calls Tryd.prog 57 #[.int .i64 a, .int .i64 b, .int .i64 c] w fun e w' => e = .returned (.int .i64 r) ∧ Below w.heap.size w w' := by
 obtain ⟨hc, h⟩ := Sp.need_some h; obtain ⟨h1, h2, h3⟩ := hc; exact safe_Clamp.calls a b c r w (by rw [safe_Clamp.main h1 h2 h3]; exact h)

/-! ### bits_Add64: function 68 -/
noncomputable def bits_Add64.f (x y c : Int) : Option (Int × Int) := Sp.need (0 ≤ x ∧ 0 ≤ y ∧ 0 ≤ c ∧ c ≤ 1) (some ((x + y + c) % 18446744073709551616, (x + y + c) / 18446744073709551616))
theorem bits_Add64.runs (x y c r1 r2 : Int) (h : bits_Add64.f x y c = some (r1, r2)) (w : World) :
  (callFunc 68 #[.int .u64 x, .int .u64 y, .int .u64 c]).run Tryd.prog w = .ok (.value (.tuple #[.int .u64 r1, .int .u64 r2])) w := by
 obtain ⟨hc, h⟩ := Sp.need_some h; obtain ⟨h1, h2, h3, h4⟩ := hc; simp only [Option.some.injEq, Prod.mk.injEq] at h; obtain ⟨rfl, rfl⟩ := h
 rw [run_callFunc_extern (e := add64Entry) Tryd.func68 (by kernel_rfl) (by kernel_rfl) (by kernel_rfl) (by kernel_rfl), run_add64 x y c h1 h2 h3 h4]
 rfl

/-! ### big_Scale: function 58 -/
noncomputable def big_Scale.f (a0_0 : Bool) (a0_1 : Int) (a0_2 : Int) (a1 : Int) : Option (Bool × Int × Int × Int) := (bits_Mul64.f a0_1 a1).bind fun bt181 => ((bits_Mul64.f a0_2 a1).bind fun bt183 => ((bits_Add64.f bt181.2 bt183.1 0).bind fun bt185 => (if bt181.1 > 0 then (some (false, 0, 0, 10)) else (if bt185.2 > 0 then (some (false, 0, 0, 10)) else ((big_size_with.f bt185.1 bt183.2 a0_0).bind fun bt187 => (some (bt187.1, bt187.2.1, bt187.2.2, 0)))))))
set_option maxHeartbeats 8000000 in
set_option maxRecDepth 100000 in
theorem big_Scale.calls (a0_0 : Bool) (a0_1 : Int) (a0_2 : Int) (a1 : Int) (r1 : Bool) (r2 : Int) (r3 : Int) (r4 : Int) (w : World) (h : big_Scale.f a0_0 a0_1 a0_2 a1 = some (r1, r2, r3, r4)) :
  Calls Tryd.prog 58 #[.agg #[.bool a0_0, .int .u64 a0_1, .int .u64 a0_2], .int .u64 a1] w fun e w' => e = .returned (.tuple #[.agg #[.bool r1, .int .u64 r2, .int .u64 r3], .int .i64 r4]) ∧ Below w.heap.size w w' := by
 have hu59 := Tryd.underlying59; have hu69 := Tryd.underlying69; have HB := Aside0.mk (Below.refl w.heap.size w); have H : ((bits_Mul64.f a0_1 a1).bind fun bt181 => ((bits_Mul64.f a0_2 a1).bind fun bt183 => ((bits_Add64.f bt181.2 bt183.1 0).bind fun bt185 => (if bt181.1 > 0 then (some (false, 0, 0, 10)) else (if bt185.2 > 0 then (some (false, 0, 0, 10)) else ((big_size_with.f bt185.1 bt183.2 a0_0).bind fun bt187 => (some (bt187.1, bt187.2.1, bt187.2.2, 0)))))))) = some (r1, r2, r3, r4) := h; clear h; replace H := Option.bind_eq_some_iff.mp H; obtain ⟨⟨t181, t182⟩, A30, H⟩ := H; (try dsimp only at H); have A3 := Aside0.mk A30; clear A30; replace H := Option.bind_eq_some_iff.mp H; obtain ⟨⟨t183, t184⟩, A40, H⟩ := H; (try dsimp only at H); have A4 := Aside0.mk A40; clear A40; replace H := Option.bind_eq_some_iff.mp H; obtain ⟨⟨t185, t186⟩, A50, H⟩ := H; (try dsimp only at H); have A5 := Aside0.mk A50; clear A50
 by_cases c6 : t181 > 0
 ·rw [if_pos c6] at H
  have c6b0 : decide (0 < t181) = true := decide_eq_true c6; clear c6; simp only [Option.some.injEq, Prod.mk.injEq] at H; obtain ⟨rfl, rfl, rfl, rfl⟩ := H
  go_enter Tryd.func58, Tryd.ntmps58
  go_wp2_with (first | ((with_reducible refine gate_dst (N := 2) rfl ?_); refine box_event ?hg (N := 2) ?hd (cs := #[.bool a0_0, .int .u64 a0_1, .int .u64 a0_2]) (t := 59) ?hr ?_; (case hd => rfl); (case hg => rfl); (case hr => first | (go_simp; done) | (go_simp; rfl)); intro gb179 hg w7 hbox hb; have BK179 := Aside0.mk (hbox); obtain ⟨GW179, nHB⟩ := geA hg hb; have GE179 := GW179; replace HB := nHB; clear nHB; clear hb hbox hg) | ((with_reducible refine gate_dst (N := 4) rfl ?_); refine box_event ?hg (N := 4) ?hd (cs := #[.bool false, .int .u64 0, .int .u64 0]) (t := 59) ?hr ?_; (case hd => rfl); (case hg => rfl); (case hr => first | (go_simp; done) | (go_simp; rfl)); intro gb180 hg w8 hbox hb; have BK180 := Aside0.mk (hbox); obtain ⟨GW180, nHB⟩ := geA hg hb; have GE180 := GW180; obtain ⟨NB179_180, NB180_179, nBK⟩ := nbA BK179 hg hb; replace BK179 := nBK; clear nBK; replace HB := nHB; clear nHB; clear hb hbox hg; have hnb9 := NB179_180.out; have hnc9 := NB180_179.out; have hcz10_0 := czZ BK179 0 (.bool a0_0); have hcz10_1 := czZ BK179 1 (.int .u64 a0_1); have hcz10_2 := czZ BK179 2 (.int .u64 a0_2); have hfz10_0 := blk_frozen BK179.out 0; have hfz10_1 := blk_frozen BK179.out 1; have hfz10_2 := blk_frozen BK179.out 2) | ((with_reducible refine gate_callee (f := 47) rfl ?_); refine goesLA_ (some 15) rfl rfl Tryd.func47 rfl #[.int .u64 a0_1, .int .u64 a1] rfl ?_; (with_reducible refine (bits_Mul64.calls a0_1 a1 t181 t182 _ A3.out).mono ?_); rintro e w' ⟨rfl, ⟨nd, rfl⟩⟩; refine ⟨_, rfl, ?_⟩; (try (rw [drewN_self w8]; generalize hq_ : World.drewN w8 _ = w8; have n0_ : Aside0 (w8.heap[gb179]? = some (.cells #[.bool a0_0, .int .u64 a0_1, .int .u64 a0_2] 59 (0, 0))) := ⟨by rw [← hq_]; exact (by (with_reducible repeat first | apply blk_drewN | apply blk_drew | apply blk_alloc); exact BK179.out)⟩; have n1_ : Aside0 (w8.heap[gb180]? = some (.cells #[.bool false, .int .u64 0, .int .u64 0] 59 (0, 0))) := ⟨by rw [← hq_]; exact (by (with_reducible repeat first | apply blk_drewN | apply blk_drew | apply blk_alloc); exact BK180.out)⟩; have n2_ : Aside0 (Below w.heap.size w w8) := ⟨by rw [← hq_]; exact (by repeat (first | (with_reducible first | exact HB.out | apply below_alloc | apply pw_below_drewN | apply below_drew1 | refine below_set ?_ (Aside0.out (by assumption))) | exact HB.out))⟩; clear BK179 BK180 HB hq_; have BK179 := n0_; have BK180 := n1_; have HB := n2_; clear n0_ n1_ n2_)); have hcz11_0 := czZ BK179 0 (.bool a0_0); have hcz11_1 := czZ BK179 1 (.int .u64 a0_1); have hcz11_2 := czZ BK179 2 (.int .u64 a0_2); have hfz11_0 := blk_frozen BK179.out 0; have hfz11_1 := blk_frozen BK179.out 1; have hfz11_2 := blk_frozen BK179.out 2) | ((with_reducible refine gate_callee (f := 47) rfl ?_); refine goesLA_ (some 22) rfl rfl Tryd.func47 rfl #[.int .u64 a0_2, .int .u64 a1] rfl ?_; (with_reducible refine (bits_Mul64.calls a0_2 a1 t183 t184 _ A4.out).mono ?_); rintro e w' ⟨rfl, ⟨nd, rfl⟩⟩; refine ⟨_, rfl, ?_⟩; (try (rw [drewN_self w8]; generalize hq_ : World.drewN w8 _ = w8; have n0_ : Aside0 (w8.heap[gb179]? = some (.cells #[.bool a0_0, .int .u64 a0_1, .int .u64 a0_2] 59 (0, 0))) := ⟨by rw [← hq_]; exact (by (with_reducible repeat first | apply blk_drewN | apply blk_drew | apply blk_alloc); exact BK179.out)⟩; have n1_ : Aside0 (w8.heap[gb180]? = some (.cells #[.bool false, .int .u64 0, .int .u64 0] 59 (0, 0))) := ⟨by rw [← hq_]; exact (by (with_reducible repeat first | apply blk_drewN | apply blk_drew | apply blk_alloc); exact BK180.out)⟩; have n2_ : Aside0 (Below w.heap.size w w8) := ⟨by rw [← hq_]; exact (by repeat (first | (with_reducible first | exact HB.out | apply below_alloc | apply pw_below_drewN | apply below_drew1 | refine below_set ?_ (Aside0.out (by assumption))) | exact HB.out))⟩; clear BK179 BK180 HB hq_; have BK179 := n0_; have BK180 := n1_; have HB := n2_; clear n0_ n1_ n2_))) | (simp only [bits_Add64.runs t182 t183 0 t185 t186 A5.out]; have hcz12_0 := czZ BK180 0 (.bool false); have hcz12_1 := czZ BK180 1 (.int .u64 0); have hcz12_2 := czZ BK180 2 (.int .u64 0); have hfz12_0 := blk_frozen BK180.out 0; have hfz12_1 := blk_frozen BK180.out 1; have hfz12_2 := blk_frozen BK180.out 2))
  refine bodyPost_ret (results_ct rfl _ _ gb180 59 #[.bool false, .int .u64 0, .int .u64 0] (0, 0) _ rfl (by (with_reducible repeat first | apply blk_drewN | apply blk_drew | apply blk_alloc); refine blk_put (cs := #[.bool false, .int .u64 0, .int .u64 0]) ?_ 2 _ rfl; (with_reducible repeat first | apply blk_drewN | apply blk_drew | apply blk_alloc); refine blk_put (cs := #[.bool false, .int .u64 0, .int .u64 0]) ?_ 1 _ rfl; (with_reducible repeat first | apply blk_drewN | apply blk_drew | apply blk_alloc); refine blk_put (cs := #[.bool false, .int .u64 0, .int .u64 0]) ?_ 0 _ rfl; (with_reducible repeat first | apply blk_drewN | apply blk_drew | apply blk_alloc); exact BK180.out) Tryd.underlying59 rfl (by kernel_rfl)) rfl ?_; exact ⟨by first | rfl | (simp [errW_none, errW_some] <;> rfl) | (simp [*, errW_none, errW_some] <;> rfl), by repeat (first | (with_reducible first | exact HB.out | apply below_alloc | apply pw_below_drewN | apply below_drew1 | refine below_set ?_ (Aside0.out (by assumption))) | exact HB.out)⟩
 ·rw [if_neg c6] at H
  have c6b0 : decide (0 < t181) = false := decide_eq_false c6; clear c6
  by_cases c13 : t186 > 0
  ·rw [if_pos c13] at H
   have c13b0 : decide (0 < t186) = true := decide_eq_true c13; clear c13; simp only [Option.some.injEq, Prod.mk.injEq] at H; obtain ⟨rfl, rfl, rfl, rfl⟩ := H
   go_enter Tryd.func58, Tryd.ntmps58
   go_wp2_with (first | ((with_reducible refine gate_dst (N := 2) rfl ?_); refine box_event ?hg (N := 2) ?hd (cs := #[.bool a0_0, .int .u64 a0_1, .int .u64 a0_2]) (t := 59) ?hr ?_; (case hd => rfl); (case hg => rfl); (case hr => first | (go_simp; done) | (go_simp; rfl)); intro gb179 hg w14 hbox hb; have BK179 := Aside0.mk (hbox); obtain ⟨GW179, nHB⟩ := geA hg hb; have GE179 := GW179; replace HB := nHB; clear nHB; clear hb hbox hg) | ((with_reducible refine gate_dst (N := 4) rfl ?_); refine box_event ?hg (N := 4) ?hd (cs := #[.bool false, .int .u64 0, .int .u64 0]) (t := 59) ?hr ?_; (case hd => rfl); (case hg => rfl); (case hr => first | (go_simp; done) | (go_simp; rfl)); intro gb180 hg w15 hbox hb; have BK180 := Aside0.mk (hbox); obtain ⟨GW180, nHB⟩ := geA hg hb; have GE180 := GW180; obtain ⟨NB179_180, NB180_179, nBK⟩ := nbA BK179 hg hb; replace BK179 := nBK; clear nBK; replace HB := nHB; clear nHB; clear hb hbox hg; have hnb16 := NB179_180.out; have hnc16 := NB180_179.out; have hcz17_0 := czZ BK179 0 (.bool a0_0); have hcz17_1 := czZ BK179 1 (.int .u64 a0_1); have hcz17_2 := czZ BK179 2 (.int .u64 a0_2); have hfz17_0 := blk_frozen BK179.out 0; have hfz17_1 := blk_frozen BK179.out 1; have hfz17_2 := blk_frozen BK179.out 2) | ((with_reducible refine gate_callee (f := 47) rfl ?_); refine goesLA_ (some 15) rfl rfl Tryd.func47 rfl #[.int .u64 a0_1, .int .u64 a1] rfl ?_; (with_reducible refine (bits_Mul64.calls a0_1 a1 t181 t182 _ A3.out).mono ?_); rintro e w' ⟨rfl, ⟨nd, rfl⟩⟩; refine ⟨_, rfl, ?_⟩; (try (rw [drewN_self w15]; generalize hq_ : World.drewN w15 _ = w15; have n0_ : Aside0 (w15.heap[gb179]? = some (.cells #[.bool a0_0, .int .u64 a0_1, .int .u64 a0_2] 59 (0, 0))) := ⟨by rw [← hq_]; exact (by (with_reducible repeat first | apply blk_drewN | apply blk_drew | apply blk_alloc); exact BK179.out)⟩; have n1_ : Aside0 (w15.heap[gb180]? = some (.cells #[.bool false, .int .u64 0, .int .u64 0] 59 (0, 0))) := ⟨by rw [← hq_]; exact (by (with_reducible repeat first | apply blk_drewN | apply blk_drew | apply blk_alloc); exact BK180.out)⟩; have n2_ : Aside0 (Below w.heap.size w w15) := ⟨by rw [← hq_]; exact (by repeat (first | (with_reducible first | exact HB.out | apply below_alloc | apply pw_below_drewN | apply below_drew1 | refine below_set ?_ (Aside0.out (by assumption))) | exact HB.out))⟩; clear BK179 BK180 HB hq_; have BK179 := n0_; have BK180 := n1_; have HB := n2_; clear n0_ n1_ n2_)); have hcz18_0 := czZ BK179 0 (.bool a0_0); have hcz18_1 := czZ BK179 1 (.int .u64 a0_1); have hcz18_2 := czZ BK179 2 (.int .u64 a0_2); have hfz18_0 := blk_frozen BK179.out 0; have hfz18_1 := blk_frozen BK179.out 1; have hfz18_2 := blk_frozen BK179.out 2) | ((with_reducible refine gate_callee (f := 47) rfl ?_); refine goesLA_ (some 22) rfl rfl Tryd.func47 rfl #[.int .u64 a0_2, .int .u64 a1] rfl ?_; (with_reducible refine (bits_Mul64.calls a0_2 a1 t183 t184 _ A4.out).mono ?_); rintro e w' ⟨rfl, ⟨nd, rfl⟩⟩; refine ⟨_, rfl, ?_⟩; (try (rw [drewN_self w15]; generalize hq_ : World.drewN w15 _ = w15; have n0_ : Aside0 (w15.heap[gb179]? = some (.cells #[.bool a0_0, .int .u64 a0_1, .int .u64 a0_2] 59 (0, 0))) := ⟨by rw [← hq_]; exact (by (with_reducible repeat first | apply blk_drewN | apply blk_drew | apply blk_alloc); exact BK179.out)⟩; have n1_ : Aside0 (w15.heap[gb180]? = some (.cells #[.bool false, .int .u64 0, .int .u64 0] 59 (0, 0))) := ⟨by rw [← hq_]; exact (by (with_reducible repeat first | apply blk_drewN | apply blk_drew | apply blk_alloc); exact BK180.out)⟩; have n2_ : Aside0 (Below w.heap.size w w15) := ⟨by rw [← hq_]; exact (by repeat (first | (with_reducible first | exact HB.out | apply below_alloc | apply pw_below_drewN | apply below_drew1 | refine below_set ?_ (Aside0.out (by assumption))) | exact HB.out))⟩; clear BK179 BK180 HB hq_; have BK179 := n0_; have BK180 := n1_; have HB := n2_; clear n0_ n1_ n2_))) | (simp only [bits_Add64.runs t182 t183 0 t185 t186 A5.out]; have hcz19_0 := czZ BK180 0 (.bool false); have hcz19_1 := czZ BK180 1 (.int .u64 0); have hcz19_2 := czZ BK180 2 (.int .u64 0); have hfz19_0 := blk_frozen BK180.out 0; have hfz19_1 := blk_frozen BK180.out 1; have hfz19_2 := blk_frozen BK180.out 2))
   refine bodyPost_ret (results_ct rfl _ _ gb180 59 #[.bool false, .int .u64 0, .int .u64 0] (0, 0) _ rfl (by (with_reducible repeat first | apply blk_drewN | apply blk_drew | apply blk_alloc); refine blk_put (cs := #[.bool false, .int .u64 0, .int .u64 0]) ?_ 2 _ rfl; (with_reducible repeat first | apply blk_drewN | apply blk_drew | apply blk_alloc); refine blk_put (cs := #[.bool false, .int .u64 0, .int .u64 0]) ?_ 1 _ rfl; (with_reducible repeat first | apply blk_drewN | apply blk_drew | apply blk_alloc); refine blk_put (cs := #[.bool false, .int .u64 0, .int .u64 0]) ?_ 0 _ rfl; (with_reducible repeat first | apply blk_drewN | apply blk_drew | apply blk_alloc); exact BK180.out) Tryd.underlying59 rfl (by kernel_rfl)) rfl ?_; exact ⟨by first | rfl | (simp [errW_none, errW_some] <;> rfl) | (simp [*, errW_none, errW_some] <;> rfl), by repeat (first | (with_reducible first | exact HB.out | apply below_alloc | apply pw_below_drewN | apply below_drew1 | refine below_set ?_ (Aside0.out (by assumption))) | exact HB.out)⟩
  ·rw [if_neg c13] at H
   have c13b0 : decide (0 < t186) = false := decide_eq_false c13; clear c13; replace H := Option.bind_eq_some_iff.mp H; obtain ⟨⟨t187, t188, t189⟩, A200, H⟩ := H; replace H : (some (t187, t188, t189, 0)) = some (r1, r2, r3, r4) := H; have A20 := Aside0.mk A200; clear A200; simp only [Option.some.injEq, Prod.mk.injEq] at H; obtain ⟨rfl, rfl, rfl, rfl⟩ := H
   go_enter Tryd.func58, Tryd.ntmps58
   go_wp2_with (first | ((with_reducible refine gate_dst (N := 2) rfl ?_); refine box_event ?hg (N := 2) ?hd (cs := #[.bool a0_0, .int .u64 a0_1, .int .u64 a0_2]) (t := 59) ?hr ?_; (case hd => rfl); (case hg => rfl); (case hr => first | (go_simp; done) | (go_simp; rfl)); intro gb179 hg w21 hbox hb; have BK179 := Aside0.mk (hbox); obtain ⟨GW179, nHB⟩ := geA hg hb; have GE179 := GW179; replace HB := nHB; clear nHB; clear hb hbox hg) | ((with_reducible refine gate_dst (N := 4) rfl ?_); refine box_event ?hg (N := 4) ?hd (cs := #[.bool false, .int .u64 0, .int .u64 0]) (t := 59) ?hr ?_; (case hd => rfl); (case hg => rfl); (case hr => first | (go_simp; done) | (go_simp; rfl)); intro gb180 hg w22 hbox hb; have BK180 := Aside0.mk (hbox); obtain ⟨GW180, nHB⟩ := geA hg hb; have GE180 := GW180; obtain ⟨NB179_180, NB180_179, nBK⟩ := nbA BK179 hg hb; replace BK179 := nBK; clear nBK; replace HB := nHB; clear nHB; clear hb hbox hg; have hnb23 := NB179_180.out; have hnc23 := NB180_179.out; have hcz24_0 := czZ BK179 0 (.bool a0_0); have hcz24_1 := czZ BK179 1 (.int .u64 a0_1); have hcz24_2 := czZ BK179 2 (.int .u64 a0_2); have hfz24_0 := blk_frozen BK179.out 0; have hfz24_1 := blk_frozen BK179.out 1; have hfz24_2 := blk_frozen BK179.out 2) | ((with_reducible refine gate_callee (f := 47) rfl ?_); refine goesLA_ (some 15) rfl rfl Tryd.func47 rfl #[.int .u64 a0_1, .int .u64 a1] rfl ?_; (with_reducible refine (bits_Mul64.calls a0_1 a1 t181 t182 _ A3.out).mono ?_); rintro e w' ⟨rfl, ⟨nd, rfl⟩⟩; refine ⟨_, rfl, ?_⟩; (try (rw [drewN_self w22]; generalize hq_ : World.drewN w22 _ = w22; have n0_ : Aside0 (w22.heap[gb179]? = some (.cells #[.bool a0_0, .int .u64 a0_1, .int .u64 a0_2] 59 (0, 0))) := ⟨by rw [← hq_]; exact (by (with_reducible repeat first | apply blk_drewN | apply blk_drew | apply blk_alloc); exact BK179.out)⟩; have n1_ : Aside0 (w22.heap[gb180]? = some (.cells #[.bool false, .int .u64 0, .int .u64 0] 59 (0, 0))) := ⟨by rw [← hq_]; exact (by (with_reducible repeat first | apply blk_drewN | apply blk_drew | apply blk_alloc); exact BK180.out)⟩; have n2_ : Aside0 (Below w.heap.size w w22) := ⟨by rw [← hq_]; exact (by repeat (first | (with_reducible first | exact HB.out | apply below_alloc | apply pw_below_drewN | apply below_drew1 | refine below_set ?_ (Aside0.out (by assumption))) | exact HB.out))⟩; clear BK179 BK180 HB hq_; have BK179 := n0_; have BK180 := n1_; have HB := n2_; clear n0_ n1_ n2_)); have hcz25_0 := czZ BK179 0 (.bool a0_0); have hcz25_1 := czZ BK179 1 (.int .u64 a0_1); have hcz25_2 := czZ BK179 2 (.int .u64 a0_2); have hfz25_0 := blk_frozen BK179.out 0; have hfz25_1 := blk_frozen BK179.out 1; have hfz25_2 := blk_frozen BK179.out 2) | ((with_reducible refine gate_callee (f := 47) rfl ?_); refine goesLA_ (some 22) rfl rfl Tryd.func47 rfl #[.int .u64 a0_2, .int .u64 a1] rfl ?_; (with_reducible refine (bits_Mul64.calls a0_2 a1 t183 t184 _ A4.out).mono ?_); rintro e w' ⟨rfl, ⟨nd, rfl⟩⟩; refine ⟨_, rfl, ?_⟩; (try (rw [drewN_self w22]; generalize hq_ : World.drewN w22 _ = w22; have n0_ : Aside0 (w22.heap[gb179]? = some (.cells #[.bool a0_0, .int .u64 a0_1, .int .u64 a0_2] 59 (0, 0))) := ⟨by rw [← hq_]; exact (by (with_reducible repeat first | apply blk_drewN | apply blk_drew | apply blk_alloc); exact BK179.out)⟩; have n1_ : Aside0 (w22.heap[gb180]? = some (.cells #[.bool false, .int .u64 0, .int .u64 0] 59 (0, 0))) := ⟨by rw [← hq_]; exact (by (with_reducible repeat first | apply blk_drewN | apply blk_drew | apply blk_alloc); exact BK180.out)⟩; have n2_ : Aside0 (Below w.heap.size w w22) := ⟨by rw [← hq_]; exact (by repeat (first | (with_reducible first | exact HB.out | apply below_alloc | apply pw_below_drewN | apply below_drew1 | refine below_set ?_ (Aside0.out (by assumption))) | exact HB.out))⟩; clear BK179 BK180 HB hq_; have BK179 := n0_; have BK180 := n1_; have HB := n2_; clear n0_ n1_ n2_))) | (simp only [bits_Add64.runs t182 t183 0 t185 t186 A5.out]; have hcz26_0 := czZ BK179 0 (.bool a0_0); have hcz26_1 := czZ BK179 1 (.int .u64 a0_1); have hcz26_2 := czZ BK179 2 (.int .u64 a0_2); have hfz26_0 := blk_frozen BK179.out 0; have hfz26_1 := blk_frozen BK179.out 1; have hfz26_2 := blk_frozen BK179.out 2) | ((with_reducible refine gate_callee (f := 45) rfl ?_); refine goesLA_ (some 43) rfl rfl Tryd.func45 rfl #[.agg #[.int .u64 t185, .int .u64 t184], .bool a0_0] rfl ?_; (with_reducible refine (big_size_with.calls t185 t184 a0_0 t187 t188 t189 _ A20.out).mono ?_); rintro e w27 ⟨rfl, hb⟩; refine ⟨_, rfl, ?_⟩; replace BK179 := bdZ BK179 hb; replace BK180 := bdZ BK180 hb; replace HB := stA hb; clear hb; have hcz28_0 := czZ BK180 0 (.bool false); have hcz28_1 := czZ BK180 1 (.int .u64 0); have hcz28_2 := czZ BK180 2 (.int .u64 0); have hfz28_0 := blk_frozen BK180.out 0; have hfz28_1 := blk_frozen BK180.out 1; have hfz28_2 := blk_frozen BK180.out 2))
   refine bodyPost_ret (results_ct rfl _ _ gb180 59 #[.bool t187, .int .u64 t188, .int .u64 t189] (0, 0) _ rfl (by (with_reducible repeat first | apply blk_drewN | apply blk_drew | apply blk_alloc); refine blk_put (cs := #[.bool t187, .int .u64 t188, .int .u64 0]) ?_ 2 _ rfl; (with_reducible repeat first | apply blk_drewN | apply blk_drew | apply blk_alloc); refine blk_put (cs := #[.bool t187, .int .u64 0, .int .u64 0]) ?_ 1 _ rfl; (with_reducible repeat first | apply blk_drewN | apply blk_drew | apply blk_alloc); refine blk_put (cs := #[.bool false, .int .u64 0, .int .u64 0]) ?_ 0 _ rfl; (with_reducible repeat first | apply blk_drewN | apply blk_drew | apply blk_alloc); exact BK180.out) Tryd.underlying59 rfl (by kernel_rfl)) rfl ?_; exact ⟨by first | rfl | (simp [errW_none, errW_some] <;> rfl) | (simp [*, errW_none, errW_some] <;> rfl), by repeat (first | (with_reducible first | exact HB.out | apply below_alloc | apply pw_below_drewN | apply below_drew1 | refine below_set ?_ (Aside0.out (by assumption))) | exact HB.out)⟩

end Go.Proofs.YtbpcfamjidjhjaaDoor.Px
