/- Printed by a program of this session (wip/tool/px.py), over the kit's print: for each Go function a Lean function, and the proof that the machine's call answers as that function says. Conditions: none beside what the theorems state. -/
import Derived.Test.YtepmnfjcmppghaaPx0
import Derived.Test.YtepmnfjcmppghaaSpec
namespace Go.Proofs.Ytepmnfjcmppghaa.Px
open Go.RowKit Go.Proofs.YtepmnfjcmppghaaW.PrintWords Go.Proofs.YtepmnfjcmppghaaW.PrintLast Go.Proofs.YtepmnfjcmppghaaW.PrintMore
attribute [local go_sem] max2_int min2_int max_two min_two max_three min_three max_four min_four   -- for this text's walks alone
set_option linter.unusedVariables false
set_option linter.unusedSimpArgs false

/-! ### bits_LeadingZeros64: function 75 -/
noncomputable def bits_LeadingZeros64.f (x : Int) : Option Int := Go.Proofs.Ytepmnfjcmppghaa.Sp.need (0 ≤ x ∧ x ≤ 18446744073709551615) (some (64 - (Lib.bitLen x.toNat : Int)))
theorem bits_LeadingZeros64.calls (x r : Int) (w : World) (h : bits_LeadingZeros64.f x = some r) :
  Calls Try.prog 75 #[.int .u64 x] w fun e w' => e = .returned (.int .i64 r) ∧ Drawn0 w w' := by
 obtain ⟨hc, h⟩ := Go.Proofs.Ytepmnfjcmppghaa.Sp.need_some h
 obtain rfl := Option.some.inj h
 refine (Try.bits_LeadingZeros64 x w hc.1 hc.2).mono ?_
 rintro e w' ⟨rfl, rfl⟩
 exact ⟨rfl, Drawn0.refl _⟩

end Go.Proofs.Ytepmnfjcmppghaa.Px
