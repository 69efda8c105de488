/- Printed by px.py, over the kit's print. Conditions: none beside the theorems' own. -/
import Derived.Test.YtbpcfamjidjhjaaDoorPx0
import Derived.Test.YtbpcfamjidjhjaaDoorPx12
import Derived.Test.YtbpcfamjidjhjaaDoorPx17
import Derived.Test.YtbpcfamjidjhjaaDoorSpec
namespace Go.Proofs.YtbpcfamjidjhjaaDoor.Px
open Go.RowKit Go.Proofs.YtbpcfamjidjhjaaDoorW.PrintWords Go.Proofs.YtbpcfamjidjhjaaDoorW.PrintLast Go.Proofs.YtbpcfamjidjhjaaDoorW.PrintMore
attribute [local go_sem] max2_int min2_int max_two min_two max_three min_three max_four min_four
set_option linter.unusedVariables false
set_option linter.unusedSimpArgs false

/-! ### big_ScaleS: so many times a number: pure, behind function 58 -/
noncomputable def big_ScaleS.f (n : Bool) (h l k : Int) : Option (Bool × Int × Int × Int) := Sp.need (Sp.U h ∧ Sp.U l ∧ Sp.U k) (Sp.held (Sp.val n h l * k))
theorem big_ScaleS.eq {n : Bool} {h l k : Int} (h1 : Sp.U h) (h2 : Sp.U l) (h3 : Sp.U k) : big_ScaleS.f n h l k = Sp.held (Sp.val n h l * k) := Sp.need_pos ⟨h1, h2, h3⟩
theorem big_ScaleS.enc {v k : Int} (h : Sp.B v) (h3 : Sp.U k) : big_ScaleS.f (Sp.encN v) (Sp.encH v) (Sp.encL v) k = Sp.held (v * k) := by
 rw [big_ScaleS.eq (Sp.encH_U h) Sp.encL_U h3, Sp.val_enc]
theorem big_ScaleS.calls (a0_0 : Bool) (a0_1 a0_2 a1 : Int) (r1 : Bool) (r2 r3 r4 : Int) (w : World) (h : big_ScaleS.f a0_0 a0_1 a0_2 a1 = some (r1, r2, r3, r4)) :
  Calls Tryd.prog 58 #[.agg #[.bool a0_0, .int .u64 a0_1, .int .u64 a0_2], .int .u64 a1] w fun e w' => e = .returned (.tuple #[.agg #[.bool r1, .int .u64 r2, .int .u64 r3], .int .i64 r4]) ∧ Below w.heap.size w w' := by
 obtain ⟨hc, h⟩ := Sp.need_some h; obtain ⟨h1, h2, h3⟩ := hc; refine big_Scale.calls a0_0 a0_1 a0_2 a1 r1 r2 r3 r4 w ?_
 rw [← h]
 unfold big_Scale.f bits_Mul64.f bits_Add64.f
 rw [Sp.need_pos ⟨h1.1, h1.2, h3.1, h3.2⟩, Sp.need_pos ⟨h2.1, h2.2, h3.1, h3.2⟩]
 simp only [Option.bind_some]; have p1 : 0 ≤ a0_1 * a1 := Int.mul_nonneg h1.1 h3.1; have p2 : 0 ≤ a0_2 * a1 := Int.mul_nonneg h2.1 h3.1; have p3 := Sp.mulU h1 h3; have p4 := Sp.mulU h2 h3
 rw [Sp.need_pos (by omega)]
 simp only [Option.bind_some]
 have e : Sp.val a0_0 a0_1 a0_2 * a1 = if a0_0 = true then -(a0_1 * a1 * 18446744073709551616 + a0_2 * a1) else a0_1 * a1 * 18446744073709551616 + a0_2 * a1 := by
  unfold Sp.val
  cases a0_0
  ·simp only [Bool.false_eq_true, if_false]; rw [Int.add_mul, Int.mul_right_comm]
  ·simp only [if_true]; rw [Int.neg_mul, Int.add_mul, Int.mul_right_comm]
 have hv : ∀ q r : Int, Sp.val a0_0 q r = if a0_0 = true then -(q * 18446744073709551616 + r) else q * 18446744073709551616 + r := fun _ _ => rfl
 unfold Sp.held
 generalize a0_1 * a1 = X at *
 generalize a0_2 * a1 = Y at *
 by_cases c1 : X / 18446744073709551616 > 0
 ·rw [if_pos c1, if_neg (by rw [e]; split <;> omega)]
 rw [if_neg c1]
 by_cases c2 : (X % 18446744073709551616 + Y / 18446744073709551616 + 0) / 18446744073709551616 > 0
 ·rw [if_pos c2, if_neg (by rw [e]; split <;> omega)]
 rw [if_neg c2, big_with.eq (by omega) (by omega), if_pos (by rw [e]; split <;> omega)]
 simp only [Option.bind_some]
 have e2 : Sp.val a0_0 ((X % 18446744073709551616 + Y / 18446744073709551616 + 0) % 18446744073709551616) (Y % 18446744073709551616) = Sp.val a0_0 a0_1 a0_2 * a1 := by
  rw [e, hv]; split <;> omega
 rw [e2]

end Go.Proofs.YtbpcfamjidjhjaaDoor.Px
