/- Printed by a program of this session (wip/tool/px.py), over the kit's print: for each Go function a Lean function, and the proof that the machine's call answers as that function says. Conditions: none beside what the theorems state. -/
import Derived.Test.YtepmnfjcmppghaaPx0
import Derived.Test.YtepmnfjcmppghaaPx6
import Derived.Test.YtepmnfjcmppghaaPx33
import Derived.Test.YtepmnfjcmppghaaPx34
import Derived.Test.YtepmnfjcmppghaaSpec
namespace Go.Proofs.Ytepmnfjcmppghaa.Px
open Go.RowKit Go.Proofs.YtepmnfjcmppghaaW.PrintWords Go.Proofs.YtepmnfjcmppghaaW.PrintLast Go.Proofs.YtepmnfjcmppghaaW.PrintMore
attribute [local go_sem] max2_int min2_int max_two min_two max_three min_three max_four min_four   -- for this text's walks alone
set_option linter.unusedVariables false
set_option linter.unusedSimpArgs false

/-! ### cut_LeastS: pure, behind function 17 -/
noncomputable def cut_LeastS.f (a : Int) : Option Int := Go.Proofs.Ytepmnfjcmppghaa.Sp.need (Go.Proofs.Ytepmnfjcmppghaa.Sp.I a) (some (Go.Proofs.Ytepmnfjcmppghaa.Sp.leastW (Go.Proofs.Ytepmnfjcmppghaa.Sp.win a)))
theorem cut_LeastS.eq {a : Int} (h1 : Go.Proofs.Ytepmnfjcmppghaa.Sp.I a) : cut_LeastS.f a = some (Go.Proofs.Ytepmnfjcmppghaa.Sp.leastW (Go.Proofs.Ytepmnfjcmppghaa.Sp.win a)) := Go.Proofs.Ytepmnfjcmppghaa.Sp.need_pos h1
section
open Go.Proofs.Ytepmnfjcmppghaa.Sp
theorem cut_Least.main {a : Int} (h1 : Go.Proofs.Ytepmnfjcmppghaa.Sp.I a) : cut_Least.f a = some (Go.Proofs.Ytepmnfjcmppghaa.Sp.leastW (Go.Proofs.Ytepmnfjcmppghaa.Sp.win a)) := by
 unfold cut_Least.f
 rw [cut_ofS.eq h1]
 simp only [Option.bind_some]
 have := win_bd a
 rw [cut_window_leastS.eq (by omega)]
 rfl
end
theorem cut_LeastS.calls (a r : Int) (w : World) (h : cut_LeastS.f a = some r) :
  Calls Try.prog 17 #[.int .i64 a] w fun e w' => e = .returned (.int .i64 r) ∧ Below w.heap.size w w' := by
 obtain ⟨hc, h⟩ := Go.Proofs.Ytepmnfjcmppghaa.Sp.need_some h
 have h1 := hc
 exact cut_Least.calls a r w (by rw [cut_Least.main h1]; exact h)

end Go.Proofs.Ytepmnfjcmppghaa.Px
