/- The law CutLoss, of the Lean functions alone: it answers true at every input. No conditions. -/
import Derived.Test.YtepmnfjcmppghaaPx47
import Derived.Test.YtepmnfjcmppghaaSpec
namespace Go.Proofs.Ytepmnfjcmppghaa.Px
open Go.Proofs.Ytepmnfjcmppghaa.Sp Go.RowKit Go.Proofs.YtepmnfjcmppghaaW.PrintWords Go.Proofs.YtepmnfjcmppghaaW.PrintLast Go.Proofs.YtepmnfjcmppghaaW.PrintMore
theorem sawtoothlaw15_CutLoss.pure : ∀ (a0 : Int) (a1 : Int), (Lit.int .u64 a0).wf = true → (Lit.int .i64 a1).wf = true → sawtoothlaw15_CutLoss.f a0 a1 = some true := by
  intro a last w0 w1
  have h0 := wf_u64.1 w0
  have h1 := wf_i64.1 w1
  unfold sawtoothlaw15_CutLoss.f sawtoothlaw15_awakeS.f
  have e1 : Int.tmod a 68719345665 = a % 68719345665 := Int.tmod_eq_emod_of_nonneg (by omega)
  rw [e1, w64 (x := a % 68719345665) (by omega), w64 (x := 131072 + a % 68719345665) (by omega)]
  have hW : 131072 ≤ 131072 + a % 68719345665 ∧ 131072 + a % 68719345665 ≤ 68719476736 := by omega
  generalize 131072 + a % 68719345665 = W at hW ⊢
  have ew : win W = W := clamp_in hW.1 hW.2
  have hL : (leastW W = W * 7 / 10 ∧ 131072 ≤ W * 7 / 10) ∨ (leastW W = 131072 ∧ W * 7 / 10 < 131072) := by
    unfold leastW clamp; split
    · exact .inr ⟨rfl, by assumption⟩
    · rw [if_neg (by omega)]; exact .inl ⟨rfl, by omega⟩
  have hN : (W ≥ last ∧ fastQ last W = W) ∨ (W < last ∧ fastQ last W = W * 17 / 20) := by
    unfold fastQ
    by_cases c : W ≥ last
    · rw [if_pos c]; exact .inl ⟨c, rfl⟩
    · rw [if_neg c, if_neg (show ¬ W < 0 by omega)]; exact .inr ⟨by omega, rfl⟩
  simp only [Option.bind_some]
  rw [cut_LossS.eq (by omega) h1, cut_TimeoutS.eq (by omega) h1, ew]
  simp only [Option.bind_some, if_true]
  generalize leastW W = L at hL ⊢
  generalize fastQ last W = N at hN ⊢
  simp only [w64 (x := 17 * W) (by omega)]
  by_cases c : L ≤ N
  · rw [decide_eq_true c]
    repeat' (first | rfl | (exfalso; omega) | split)
  · repeat' (first | rfl | (exfalso; omega) | split)
end Go.Proofs.Ytepmnfjcmppghaa.Px
