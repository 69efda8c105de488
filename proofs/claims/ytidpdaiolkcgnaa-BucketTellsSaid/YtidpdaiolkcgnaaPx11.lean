/- Printed by a program of this session (wip/tool/px.py), over the kit's print: for each Go function a Lean function, and the proof that the machine's call answers as that function says. Conditions: none beside what the theorems state. -/
import Derived.Test.YtidpdaiolkcgnaaPx0
import Derived.Test.YtidpdaiolkcgnaaSpec
namespace Go.Proofs.Ytidpdaiolkcgnaa.Px
open Go.RowKit Go.Proofs.YtidpdaiolkcgnaaW.PrintWords Go.Proofs.YtidpdaiolkcgnaaW.PrintLast Go.Proofs.YtidpdaiolkcgnaaW.PrintMore
attribute [local go_sem] max2_int min2_int max_two min_two max_three min_three max_four min_four   -- for this text's walks alone
set_option linter.unusedVariables false
set_option linter.unusedSimpArgs false

/-! ### bits_Add64: function 66 -/
noncomputable def bits_Add64.f (x y c : Int) : Option (Int × Int) := Go.Proofs.Ytidpdaiolkcgnaa.Sp.need (0 ≤ x ∧ 0 ≤ y ∧ 0 ≤ c ∧ c ≤ 1) (some ((x + y + c) % 18446744073709551616, (x + y + c) / 18446744073709551616))
theorem bits_Add64.runs (x y c r1 r2 : Int) (h : bits_Add64.f x y c = some (r1, r2)) (w : World) :
  (callFunc 66 #[.int .u64 x, .int .u64 y, .int .u64 c]).run Try.prog w = .ok (.value (.tuple #[.int .u64 r1, .int .u64 r2])) w := by
 obtain ⟨hc, h⟩ := Go.Proofs.Ytidpdaiolkcgnaa.Sp.need_some h; obtain ⟨h1, h2, h3, h4⟩ := hc; simp only [Option.some.injEq, Prod.mk.injEq] at h; obtain ⟨rfl, rfl⟩ := h
 rw [run_callFunc_extern (e := add64Entry) Try.func66 (by kernel_rfl) (by kernel_rfl) (by kernel_rfl) (by kernel_rfl), run_add64 x y c h1 h2 h3 h4]
 rfl

end Go.Proofs.Ytidpdaiolkcgnaa.Px
