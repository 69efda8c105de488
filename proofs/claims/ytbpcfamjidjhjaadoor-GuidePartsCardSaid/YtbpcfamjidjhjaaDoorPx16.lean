/- Printed by px.py, over the kit's print. Conditions: none beside the theorems' own. -/
import Derived.Test.YtbpcfamjidjhjaaDoorPx0
import Derived.Test.YtbpcfamjidjhjaaDoorPx12
import Derived.Test.YtbpcfamjidjhjaaDoorPx15
import Derived.Test.YtbpcfamjidjhjaaDoorSpec
namespace Go.Proofs.YtbpcfamjidjhjaaDoor.Px
open Go.RowKit Go.Proofs.YtbpcfamjidjhjaaDoorW.PrintWords Go.Proofs.YtbpcfamjidjhjaaDoorW.PrintLast Go.Proofs.YtbpcfamjidjhjaaDoorW.PrintMore
attribute [local go_sem] max2_int min2_int max_two min_two max_three min_three max_four min_four
set_option linter.unusedVariables false
set_option linter.unusedSimpArgs false

/-! ### big_MulS: a product: pure, behind function 33 -/
noncomputable def big_MulS.f (a b : Int) : Option (Bool × Int × Int) := Sp.need (Sp.I a ∧ Sp.I b) (some (Sp.encN (a * b), Sp.encH (a * b), Sp.encL (a * b)))
theorem big_MulS.eq {a b : Int} (h1 : Sp.I a) (h2 : Sp.I b) : big_MulS.f a b = some (Sp.encN (a * b), Sp.encH (a * b), Sp.encL (a * b)) := Sp.need_pos ⟨h1, h2⟩
set_option maxRecDepth 100000 in
theorem big_MulS.calls (a0 a1 : Int) (r1 : Bool) (r2 r3 : Int) (w : World) (h : big_MulS.f a0 a1 = some (r1, r2, r3)) :
  Calls Tryd.prog 33 #[.int .i64 a0, .int .i64 a1] w fun e w' => e = .returned (.agg #[.bool r1, .int .u64 r2, .int .u64 r3]) ∧ Below w.heap.size w w' := by
 obtain ⟨hc, h⟩ := Sp.need_some h; refine big_Mul.calls a0 a1 r1 r2 r3 w ?_
 rw [← h]
 unfold big_Mul.f bits_Mul64.f
 rw [big_far.eq hc.1, big_far.eq hc.2]
 simp only [Option.bind_some]
 rw [Sp.need_pos (by omega)]
 simp only [Option.bind_some]
 have hp : (a0.natAbs : Int) * (a1.natAbs : Int) = ((a0 * a1).natAbs : Int) := by rw [Int.natAbs_mul]; simp
 have hb := Sp.mulI hc.1 hc.2
 rw [hp, big_with.eq (by omega) (by omega)]
 simp only [Option.bind_some]
 have e : Sp.val (decide (a0 < 0) != decide (a1 < 0)) (((a0 * a1).natAbs : Int) / 18446744073709551616) (((a0 * a1).natAbs : Int) % 18446744073709551616) = a0 * a1 := by
  have hs := Sp.mul_sign a0 a1
  unfold Sp.val
  generalize a0 * a1 = p at *
  by_cases h1 : a0 < 0 <;> by_cases h2 : a1 < 0 <;> simp [h1, h2] at hs ⊢ <;> omega
 rw [e]

end Go.Proofs.YtbpcfamjidjhjaaDoor.Px
