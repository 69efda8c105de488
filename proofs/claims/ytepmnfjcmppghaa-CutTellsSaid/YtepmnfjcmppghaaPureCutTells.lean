/- The law CutTells, of the Lean functions alone: it answers true at every input. No conditions. -/
import Derived.Test.YtepmnfjcmppghaaPx33
import Derived.Test.YtepmnfjcmppghaaSpec
namespace Go.Proofs.Ytepmnfjcmppghaa.Px
open Go.Proofs.Ytepmnfjcmppghaa.Sp Go.RowKit Go.Proofs.YtepmnfjcmppghaaW.PrintWords Go.Proofs.YtepmnfjcmppghaaW.PrintLast Go.Proofs.YtepmnfjcmppghaaW.PrintMore
theorem sawtoothlaw15_CutTells.pure : ∀ (a0 : Int) (a1 : Int) (a2 : Int), (Lit.int .i64 a0).wf = true → (Lit.int .i64 a1).wf = true → (Lit.int .i64 a2).wf = true → sawtoothlaw15_CutTells.f a0 a1 a2 = some true := by
  intro a b n w1 w2 w3
  have h1 := wf_i64.1 w1
  have h2 := wf_i64.1 w2
  have h3 := wf_i64.1 w3
  unfold sawtoothlaw15_CutTells.f sawtoothlaw15_awakeS.f
  simp only [Option.bind_some]
  rw [cut_LossS.eq h1 h2, sawtoothref15_LossS.eq h1 h2, cut_TimeoutS.eq h1 h2, cut_LeastS.eq h1, sawtoothref15_LeastS.eq h1, cut_Many.eq h1 h3, sawtoothref15_ManyS.eq h1 h3]
  simp
end Go.Proofs.Ytepmnfjcmppghaa.Px
