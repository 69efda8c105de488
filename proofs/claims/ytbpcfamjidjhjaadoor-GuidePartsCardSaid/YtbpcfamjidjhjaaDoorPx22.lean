/- Printed by px.py, over the kit's print. Conditions: none beside the theorems' own. -/
import Derived.Test.YtbpcfamjidjhjaaDoorPx0
import Derived.Test.YtbpcfamjidjhjaaDoorPx21
import Derived.Test.YtbpcfamjidjhjaaDoorSpec
namespace Go.Proofs.YtbpcfamjidjhjaaDoor.Px
open Go.RowKit Go.Proofs.YtbpcfamjidjhjaaDoorW.PrintWords Go.Proofs.YtbpcfamjidjhjaaDoorW.PrintLast Go.Proofs.YtbpcfamjidjhjaaDoorW.PrintMore
attribute [local go_sem] max2_int min2_int max_two min_two max_three min_three max_four min_four
set_option linter.unusedVariables false
set_option linter.unusedSimpArgs false

/-! ### big_size_minusS: a difference of sizes: pure, behind function 77 -/
noncomputable def big_size_minusS.f (a b c d : Int) : Option (Int × Int) := Sp.need (0 ≤ a ∧ a < 18446744073709551616 ∧ 0 ≤ b ∧ b < 18446744073709551616 ∧ 0 ≤ c ∧ c < 18446744073709551616 ∧ 0 ≤ d ∧ d < 18446744073709551616 ∧ c * 18446744073709551616 + d ≤ a * 18446744073709551616 + b) (some (((a * 18446744073709551616 + b) - (c * 18446744073709551616 + d)) / 18446744073709551616, ((a * 18446744073709551616 + b) - (c * 18446744073709551616 + d)) % 18446744073709551616))
theorem big_size_minusS.calls (a0_0 a0_1 a1_0 a1_1 r1 r2 : Int) (w : World) (h : big_size_minusS.f a0_0 a0_1 a1_0 a1_1 = some (r1, r2)) :
  Calls Tryd.prog 77 #[.agg #[.int .u64 a0_0, .int .u64 a0_1], .agg #[.int .u64 a1_0, .int .u64 a1_1]] w fun e w' => e = .returned (.agg #[.int .u64 r1, .int .u64 r2]) ∧ Below w.heap.size w w' := by
 obtain ⟨hc, h⟩ := Sp.need_some h; refine big_size_minus.calls a0_0 a0_1 a1_0 a1_1 r1 r2 w ?_
 rw [← h]
 obtain ⟨h1, h2, h3, h4, h5, h6, h7, h8, h9⟩ := hc
 unfold big_size_minus.f bits_Sub64.f
 rw [Sp.need_pos (by omega)]
 simp only [Option.bind_some]
 by_cases hb : a0_1 < a1_1 + 0
 ·rw [if_pos hb, Sp.need_pos (by omega)]
  simp only [Option.bind_some, Option.some.injEq, Prod.mk.injEq]
  omega
 ·rw [if_neg hb, Sp.need_pos (by omega)]
  simp only [Option.bind_some, Option.some.injEq, Prod.mk.injEq]
  omega

end Go.Proofs.YtbpcfamjidjhjaaDoor.Px
