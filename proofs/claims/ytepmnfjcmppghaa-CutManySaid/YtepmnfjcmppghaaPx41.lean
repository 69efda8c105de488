/- Printed by a program of this session (wip/tool/px.py), over the kit's print: for each Go function a Lean function, and the proof that the machine's call answers as that function says. Conditions: none beside what the theorems state. -/
import Derived.Test.YtepmnfjcmppghaaPx0
import Derived.Test.YtepmnfjcmppghaaPx39
import Derived.Test.YtepmnfjcmppghaaPx40
import Derived.Test.YtepmnfjcmppghaaSpec
namespace Go.Proofs.Ytepmnfjcmppghaa.Px
open Go.RowKit Go.Proofs.YtepmnfjcmppghaaW.PrintWords Go.Proofs.YtepmnfjcmppghaaW.PrintLast Go.Proofs.YtepmnfjcmppghaaW.PrintMore
attribute [local go_sem] max2_int min2_int max_two min_two max_three min_three max_four min_four   -- for this text's walks alone
set_option linter.unusedVariables false
set_option linter.unusedSimpArgs false

/-! ### cut_TimeoutS: pure, behind function 16 -/
noncomputable def cut_TimeoutS.f (a b : Int) : Option (Int × Int × Int) := Go.Proofs.Ytepmnfjcmppghaa.Sp.need (Go.Proofs.Ytepmnfjcmppghaa.Sp.I a ∧ Go.Proofs.Ytepmnfjcmppghaa.Sp.I b) (some (131072, Go.Proofs.Ytepmnfjcmppghaa.Sp.leastW (Go.Proofs.Ytepmnfjcmppghaa.Sp.win a), Go.Proofs.Ytepmnfjcmppghaa.Sp.fastQ b (Go.Proofs.Ytepmnfjcmppghaa.Sp.win a)))
theorem cut_TimeoutS.eq {a b : Int} (h1 : Go.Proofs.Ytepmnfjcmppghaa.Sp.I a) (h2 : Go.Proofs.Ytepmnfjcmppghaa.Sp.I b) : cut_TimeoutS.f a b = some (131072, Go.Proofs.Ytepmnfjcmppghaa.Sp.leastW (Go.Proofs.Ytepmnfjcmppghaa.Sp.win a), Go.Proofs.Ytepmnfjcmppghaa.Sp.fastQ b (Go.Proofs.Ytepmnfjcmppghaa.Sp.win a)) := Go.Proofs.Ytepmnfjcmppghaa.Sp.need_pos ⟨h1, h2⟩
section
open Go.Proofs.Ytepmnfjcmppghaa.Sp
theorem cut_Timeout.main {a b : Int} (h1 : Go.Proofs.Ytepmnfjcmppghaa.Sp.I a) (h2 : Go.Proofs.Ytepmnfjcmppghaa.Sp.I b) : cut_Timeout.f a b = some (131072, Go.Proofs.Ytepmnfjcmppghaa.Sp.leastW (Go.Proofs.Ytepmnfjcmppghaa.Sp.win a), Go.Proofs.Ytepmnfjcmppghaa.Sp.fastQ b (Go.Proofs.Ytepmnfjcmppghaa.Sp.win a)) := by
 unfold cut_Timeout.f
 rw [cut_LossS.eq h1 h2]
 rfl
end
theorem cut_TimeoutS.calls (a b r1 r2 r3 : Int) (w : World) (h : cut_TimeoutS.f a b = some (r1, r2, r3)) :
  Calls Try.prog 16 #[.int .i64 a, .int .i64 b] w fun e w' => e = .returned (.tuple #[.int .i64 r1, .int .i64 r2, .int .i64 r3]) ∧ Below w.heap.size w w' := by
 obtain ⟨hc, h⟩ := Go.Proofs.Ytepmnfjcmppghaa.Sp.need_some h
 obtain ⟨h1, h2⟩ := hc
 exact cut_Timeout.calls a b r1 r2 r3 w (by rw [cut_Timeout.main h1 h2]; exact h)

end Go.Proofs.Ytepmnfjcmppghaa.Px
