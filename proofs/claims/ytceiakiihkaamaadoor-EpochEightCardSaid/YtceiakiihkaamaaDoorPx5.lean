/- Printed by a program of this session (wip/tool/px.py), over the kit's print: for each Go function a Lean function, and the proof that the machine's call answers as that function says. Conditions: none beside what the theorems state. -/
import Derived.Test.YtceiakiihkaamaaDoorPx0
import Derived.Test.YtceiakiihkaamaaDoorPx4
import Derived.Test.YtceiakiihkaamaaDoorPx7
import Derived.Test.YtceiakiihkaamaaDoorSpec
namespace Go.Proofs.YtceiakiihkaamaaDoor.Px
open Go.RowKit Go.Proofs.YtceiakiihkaamaaDoorW.PrintWords Go.Proofs.YtceiakiihkaamaaDoorW.PrintLast Go.Proofs.YtceiakiihkaamaaDoorW.PrintMore
attribute [local go_sem] max2_int min2_int max_two min_two max_three min_three max_four min_four   -- for this text's walks alone
set_option linter.unusedVariables false
set_option linter.unusedSimpArgs false

/-! ### big_ScaleS: so many times a number: pure, behind function 22 -/
noncomputable def big_ScaleS.f (n : Bool) (h l k : Int) : Option (Bool × Int × Int × Int) := Go.Proofs.YtceiakiihkaamaaDoor.Sp.need (Go.Proofs.YtceiakiihkaamaaDoor.Sp.U h ∧ Go.Proofs.YtceiakiihkaamaaDoor.Sp.U l ∧ Go.Proofs.YtceiakiihkaamaaDoor.Sp.U k) (Go.Proofs.YtceiakiihkaamaaDoor.Sp.held (Go.Proofs.YtceiakiihkaamaaDoor.Sp.val n h l * k))
theorem big_ScaleS.eq {n : Bool} {h l k : Int} (h1 : Go.Proofs.YtceiakiihkaamaaDoor.Sp.U h) (h2 : Go.Proofs.YtceiakiihkaamaaDoor.Sp.U l) (h3 : Go.Proofs.YtceiakiihkaamaaDoor.Sp.U k) : big_ScaleS.f n h l k = Go.Proofs.YtceiakiihkaamaaDoor.Sp.held (Go.Proofs.YtceiakiihkaamaaDoor.Sp.val n h l * k) := Go.Proofs.YtceiakiihkaamaaDoor.Sp.need_pos ⟨h1, h2, h3⟩
theorem big_ScaleS.enc {v k : Int} (h : Go.Proofs.YtceiakiihkaamaaDoor.Sp.B v) (h3 : Go.Proofs.YtceiakiihkaamaaDoor.Sp.U k) : big_ScaleS.f (Go.Proofs.YtceiakiihkaamaaDoor.Sp.encN v) (Go.Proofs.YtceiakiihkaamaaDoor.Sp.encH v) (Go.Proofs.YtceiakiihkaamaaDoor.Sp.encL v) k = Go.Proofs.YtceiakiihkaamaaDoor.Sp.held (v * k) := by
 rw [big_ScaleS.eq (Go.Proofs.YtceiakiihkaamaaDoor.Sp.encH_U h) Go.Proofs.YtceiakiihkaamaaDoor.Sp.encL_U h3, Go.Proofs.YtceiakiihkaamaaDoor.Sp.val_enc]
theorem big_ScaleS.calls (a0_0 : Bool) (a0_1 a0_2 a1 : Int) (r1 : Bool) (r2 r3 r4 : Int) (w : World) (h : big_ScaleS.f a0_0 a0_1 a0_2 a1 = some (r1, r2, r3, r4)) :
  Calls Tryd.prog 22 #[.agg #[.bool a0_0, .int .u64 a0_1, .int .u64 a0_2], .int .u64 a1] w fun e w' => e = .returned (.tuple #[.agg #[.bool r1, .int .u64 r2, .int .u64 r3], .int .i64 r4]) ∧ Below w.heap.size w w' := by
 obtain ⟨hc, h⟩ := Go.Proofs.YtceiakiihkaamaaDoor.Sp.need_some h; obtain ⟨h1, h2, h3⟩ := hc; refine big_Scale.calls a0_0 a0_1 a0_2 a1 r1 r2 r3 r4 w ?_
 rw [← h]
 unfold big_Scale.f bits_Mul64.f bits_Add64.f
 rw [Go.Proofs.YtceiakiihkaamaaDoor.Sp.need_pos ⟨h1.1, h1.2, h3.1, h3.2⟩, Go.Proofs.YtceiakiihkaamaaDoor.Sp.need_pos ⟨h2.1, h2.2, h3.1, h3.2⟩]
 simp only [Option.bind_some]; have p1 : 0 ≤ a0_1 * a1 := Int.mul_nonneg h1.1 h3.1; have p2 : 0 ≤ a0_2 * a1 := Int.mul_nonneg h2.1 h3.1; have p3 := Go.Proofs.YtceiakiihkaamaaDoor.Sp.mulU h1 h3; have p4 := Go.Proofs.YtceiakiihkaamaaDoor.Sp.mulU h2 h3
 rw [Go.Proofs.YtceiakiihkaamaaDoor.Sp.need_pos (by omega)]
 simp only [Option.bind_some]
 have e : Go.Proofs.YtceiakiihkaamaaDoor.Sp.val a0_0 a0_1 a0_2 * a1 = if a0_0 = true then -(a0_1 * a1 * 18446744073709551616 + a0_2 * a1) else a0_1 * a1 * 18446744073709551616 + a0_2 * a1 := by
  unfold Go.Proofs.YtceiakiihkaamaaDoor.Sp.val
  cases a0_0
  ·simp only [Bool.false_eq_true, if_false]; rw [Int.add_mul, Int.mul_right_comm]
  ·simp only [if_true]; rw [Int.neg_mul, Int.add_mul, Int.mul_right_comm]
 have hv : ∀ q r : Int, Go.Proofs.YtceiakiihkaamaaDoor.Sp.val a0_0 q r = if a0_0 = true then -(q * 18446744073709551616 + r) else q * 18446744073709551616 + r := fun _ _ => rfl
 unfold Go.Proofs.YtceiakiihkaamaaDoor.Sp.held
 generalize a0_1 * a1 = X at *
 generalize a0_2 * a1 = Y at *
 by_cases c1 : X / 18446744073709551616 > 0
 ·rw [if_pos c1, if_neg (by rw [e]; split <;> omega)]
 rw [if_neg c1]
 by_cases c2 : (X % 18446744073709551616 + Y / 18446744073709551616 + 0) / 18446744073709551616 > 0
 ·rw [if_pos c2, if_neg (by rw [e]; split <;> omega)]
 rw [if_neg c2, big_with.eq (by omega) (by omega), if_pos (by rw [e]; split <;> omega)]
 simp only [Option.bind_some]
 have e2 : Go.Proofs.YtceiakiihkaamaaDoor.Sp.val a0_0 ((X % 18446744073709551616 + Y / 18446744073709551616 + 0) % 18446744073709551616) (Y % 18446744073709551616) = Go.Proofs.YtceiakiihkaamaaDoor.Sp.val a0_0 a0_1 a0_2 * a1 := by
  rw [e, hv]; split <;> omega
 rw [e2]

end Go.Proofs.YtceiakiihkaamaaDoor.Px
