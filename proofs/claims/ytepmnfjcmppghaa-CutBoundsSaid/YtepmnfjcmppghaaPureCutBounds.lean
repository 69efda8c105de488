/- The law CutBounds, of the Lean functions alone: it answers true at every input. No conditions. -/
import Derived.Test.YtepmnfjcmppghaaPx47
import Derived.Test.YtepmnfjcmppghaaSpec
namespace Go.Proofs.Ytepmnfjcmppghaa.Px
open Go.Proofs.Ytepmnfjcmppghaa.Sp Go.RowKit Go.Proofs.YtepmnfjcmppghaaW.PrintWords Go.Proofs.YtepmnfjcmppghaaW.PrintLast Go.Proofs.YtepmnfjcmppghaaW.PrintMore
theorem sawtoothlaw15_CutBounds.pure : ∀ (a0 : Int) (a1 : Int), (Lit.int .i64 a0).wf = true → (Lit.int .i64 a1).wf = true → sawtoothlaw15_CutBounds.f a0 a1 = some true := by
  intro a b w0 w1
  have h0 := wf_i64.1 w0
  have h1 := wf_i64.1 w1
  unfold sawtoothlaw15_CutBounds.f sawtoothlaw15_awakeS.f
  have hm : I (mn a b) ∧ I (mx a b) ∧ mn a b ≤ mx a b := by unfold mn mx; split <;> split <;> omega
  simp only [Option.bind_some]
  rw [cut_LeastS.eq h0, cut_LeastS.eq hm.1, cut_LeastS.eq hm.2.1]
  simp only [Option.bind_some, if_true]
  have hl := leastW_mono (clamp_mono (low := 131072) (high := 68719476736) hm.2.2 (by omega))
  have hl' : leastW (win (mn a b)) ≤ leastW (win (mx a b)) := hl
  rw [decide_eq_true hl']
  have b1 := leastW_bd (win a)
  have b2 : (131072 ≤ a → leastW (win a) ≤ a) ∧ (131072 < a → leastW (win a) < a) := by
    unfold win leastW clamp
    constructor <;> intro h <;> (repeat' split) <;> omega
  generalize leastW (win a) = L at b1 b2 ⊢
  repeat' (first | rfl | (exfalso; omega) | split)
end Go.Proofs.Ytepmnfjcmppghaa.Px
