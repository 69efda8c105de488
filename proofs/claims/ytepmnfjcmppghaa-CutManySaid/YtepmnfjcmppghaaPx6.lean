/- Printed by a program of this session (wip/tool/px.py), over the kit's print: for each Go function a Lean function, and the proof that the machine's call answers as that function says. Conditions: none beside what the theorems state. -/
import Derived.Test.YtepmnfjcmppghaaPx0
import Derived.Test.YtepmnfjcmppghaaPx4
import Derived.Test.YtepmnfjcmppghaaPx5
import Derived.Test.YtepmnfjcmppghaaSpec
namespace Go.Proofs.Ytepmnfjcmppghaa.Px
open Go.RowKit Go.Proofs.YtepmnfjcmppghaaW.PrintWords Go.Proofs.YtepmnfjcmppghaaW.PrintLast Go.Proofs.YtepmnfjcmppghaaW.PrintMore
attribute [local go_sem] max2_int min2_int max_two min_two max_three min_three max_four min_four   -- for this text's walks alone
set_option linter.unusedVariables false
set_option linter.unusedSimpArgs false

/-! ### cut_ofS: pure, behind function 28 -/
noncomputable def cut_ofS.f (a : Int) : Option Int := Go.Proofs.Ytepmnfjcmppghaa.Sp.need (Go.Proofs.Ytepmnfjcmppghaa.Sp.I a) (some (Go.Proofs.Ytepmnfjcmppghaa.Sp.win a))
theorem cut_ofS.eq {a : Int} (h1 : Go.Proofs.Ytepmnfjcmppghaa.Sp.I a) : cut_ofS.f a = some (Go.Proofs.Ytepmnfjcmppghaa.Sp.win a) := Go.Proofs.Ytepmnfjcmppghaa.Sp.need_pos h1
section
open Go.Proofs.Ytepmnfjcmppghaa.Sp
theorem cut_of.main {a : Int} (h1 : Go.Proofs.Ytepmnfjcmppghaa.Sp.I a) : cut_of.f a = some (Go.Proofs.Ytepmnfjcmppghaa.Sp.win a) := by
 unfold cut_of.f
 rw [safe_ClampS.eq h1 (by omega) (by omega)]
 rfl
end
theorem cut_ofS.calls (a r : Int) (w : World) (h : cut_ofS.f a = some r) :
  Calls Try.prog 28 #[.int .i64 a] w fun e w' => e = .returned (.int .i64 r) ∧ Below w.heap.size w w' := by
 obtain ⟨hc, h⟩ := Go.Proofs.Ytepmnfjcmppghaa.Sp.need_some h
 have h1 := hc
 exact cut_of.calls a r w (by rw [cut_of.main h1]; exact h)

end Go.Proofs.Ytepmnfjcmppghaa.Px
