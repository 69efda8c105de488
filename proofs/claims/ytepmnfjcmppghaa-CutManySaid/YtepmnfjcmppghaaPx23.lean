/- Printed by a program of this session (wip/tool/px.py), over the kit's print: for each Go function a Lean function, and the proof that the machine's call answers as that function says. Conditions: none beside what the theorems state. -/
import Derived.Test.YtepmnfjcmppghaaPx0
import Derived.Test.YtepmnfjcmppghaaSpec
namespace Go.Proofs.Ytepmnfjcmppghaa.Px
open Go.RowKit Go.Proofs.YtepmnfjcmppghaaW.PrintWords Go.Proofs.YtepmnfjcmppghaaW.PrintLast Go.Proofs.YtepmnfjcmppghaaW.PrintMore
attribute [local go_sem] max2_int min2_int max_two min_two max_three min_three max_four min_four   -- for this text's walks alone
set_option linter.unusedVariables false
set_option linter.unusedSimpArgs false

/-! ### bits_Mul64: function 68 -/
noncomputable def bits_Mul64.f (x y : Int) : Option (Int × Int) := Go.Proofs.Ytepmnfjcmppghaa.Sp.need (0 ≤ x ∧ x < 18446744073709551616 ∧ 0 ≤ y ∧ y < 18446744073709551616) (some (x * y / 18446744073709551616, x * y % 18446744073709551616))
theorem bits_Mul64.calls (x y r1 r2 : Int) (w : World) (h : bits_Mul64.f x y = some (r1, r2)) :
  Calls Try.prog 68 #[.int .u64 x, .int .u64 y] w fun e w' => e = .returned (.tuple #[.int .u64 r1, .int .u64 r2]) ∧ Drawn0 w w' := by
 obtain ⟨hc, h⟩ := Go.Proofs.Ytepmnfjcmppghaa.Sp.need_some h
 obtain ⟨h1, h2, h3, h4⟩ := hc
 simp only [Option.some.injEq, Prod.mk.injEq] at h
 obtain ⟨rfl, rfl⟩ := h
 obtain ⟨x, rfl⟩ := Int.eq_ofNat_of_zero_le h1
 obtain ⟨y, rfl⟩ := Int.eq_ofNat_of_zero_le h3
 refine (Try.bits_Mul64 x y (by omega) (by omega) w).mono ?_
 rintro e w' ⟨rfl, rfl⟩
 exact ⟨by simp, Drawn0.refl _⟩

end Go.Proofs.Ytepmnfjcmppghaa.Px
