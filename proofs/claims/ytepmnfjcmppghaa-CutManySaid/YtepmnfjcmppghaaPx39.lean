/- Printed by a program of this session (wip/tool/px.py), over the kit's print: for each Go function a Lean function, and the proof that the machine's call answers as that function says. Conditions: none beside what the theorems state. -/
import Derived.Test.YtepmnfjcmppghaaPx0
import Derived.Test.YtepmnfjcmppghaaPx6
import Derived.Test.YtepmnfjcmppghaaPx35
import Derived.Test.YtepmnfjcmppghaaPx37
import Derived.Test.YtepmnfjcmppghaaPx38
import Derived.Test.YtepmnfjcmppghaaSpec
namespace Go.Proofs.Ytepmnfjcmppghaa.Px
open Go.RowKit Go.Proofs.YtepmnfjcmppghaaW.PrintWords Go.Proofs.YtepmnfjcmppghaaW.PrintLast Go.Proofs.YtepmnfjcmppghaaW.PrintMore
attribute [local go_sem] max2_int min2_int max_two min_two max_three min_three max_four min_four   -- for this text's walks alone
set_option linter.unusedVariables false
set_option linter.unusedSimpArgs false

/-! ### cut_LossS: pure, behind function 14 -/
noncomputable def cut_LossS.f (a b : Int) : Option (Int × Int) := Go.Proofs.Ytepmnfjcmppghaa.Sp.need (Go.Proofs.Ytepmnfjcmppghaa.Sp.I a ∧ Go.Proofs.Ytepmnfjcmppghaa.Sp.I b) (some (Go.Proofs.Ytepmnfjcmppghaa.Sp.leastW (Go.Proofs.Ytepmnfjcmppghaa.Sp.win a), Go.Proofs.Ytepmnfjcmppghaa.Sp.fastQ b (Go.Proofs.Ytepmnfjcmppghaa.Sp.win a)))
theorem cut_LossS.eq {a b : Int} (h1 : Go.Proofs.Ytepmnfjcmppghaa.Sp.I a) (h2 : Go.Proofs.Ytepmnfjcmppghaa.Sp.I b) : cut_LossS.f a b = some (Go.Proofs.Ytepmnfjcmppghaa.Sp.leastW (Go.Proofs.Ytepmnfjcmppghaa.Sp.win a), Go.Proofs.Ytepmnfjcmppghaa.Sp.fastQ b (Go.Proofs.Ytepmnfjcmppghaa.Sp.win a)) := Go.Proofs.Ytepmnfjcmppghaa.Sp.need_pos ⟨h1, h2⟩
section
open Go.Proofs.Ytepmnfjcmppghaa.Sp
theorem cut_Loss.main {a b : Int} (h1 : Go.Proofs.Ytepmnfjcmppghaa.Sp.I a) (h2 : Go.Proofs.Ytepmnfjcmppghaa.Sp.I b) : cut_Loss.f a b = some (Go.Proofs.Ytepmnfjcmppghaa.Sp.leastW (Go.Proofs.Ytepmnfjcmppghaa.Sp.win a), Go.Proofs.Ytepmnfjcmppghaa.Sp.fastQ b (Go.Proofs.Ytepmnfjcmppghaa.Sp.win a)) := by
 unfold cut_Loss.f
 have := win_bd a
 rw [cut_LeastS.eq h1, cut_ofS.eq h1]
 simp only [Option.bind_some]
 rw [epoch_FastS.eq h2 (by omega)]
 rfl
end
theorem cut_LossS.calls (a b r1 r2 : Int) (w : World) (h : cut_LossS.f a b = some (r1, r2)) :
  Calls Try.prog 14 #[.int .i64 a, .int .i64 b] w fun e w' => e = .returned (.tuple #[.int .i64 r1, .int .i64 r2]) ∧ Below w.heap.size w w' := by
 obtain ⟨hc, h⟩ := Go.Proofs.Ytepmnfjcmppghaa.Sp.need_some h
 obtain ⟨h1, h2⟩ := hc
 exact cut_Loss.calls a b r1 r2 w (by rw [cut_Loss.main h1 h2]; exact h)

end Go.Proofs.Ytepmnfjcmppghaa.Px
