/- The law RenoRound, of the Lean functions alone: it answers true at every input. No conditions. -/
import Derived.Test.YtepmnfjcmppghaaPx28
import Derived.Test.YtepmnfjcmppghaaSpec
namespace Go.Proofs.Ytepmnfjcmppghaa.Px
open Go.Proofs.Ytepmnfjcmppghaa.Sp Go.RowKit Go.Proofs.YtepmnfjcmppghaaW.PrintWords Go.Proofs.YtepmnfjcmppghaaW.PrintLast Go.Proofs.YtepmnfjcmppghaaW.PrintMore
theorem sawtoothlaw13_RenoRound.pure : ∀ (a0 : Int) (a1 : Int) (a2 : Int), (Lit.int .u32 a0).wf = true → (Lit.int .u32 a1).wf = true → (Lit.int .u32 a2).wf = true → sawtoothlaw13_RenoRound.f a0 a1 a2 = some true := by
  intro e p v w0 w1 w2
  have h0 := wf_u32.1 w0
  have h1 := wf_u32.1 w1
  have h2 := wf_u32.1 w2
  unfold sawtoothlaw13_RenoRound.f sawtoothlaw13_awakeS.f
  rw [w64 (x := e) (by omega), w64 (x := p) (by omega), w64 (x := v) (by omega), w64 (x := 65536 + v) (by omega)]
  simp only [Option.bind_some]
  rw [reno_StepS.eq (by omega) (by omega) (by omega) (by omega), stepQ_plain (by omega) (by omega) (by omega)]
  simp only [Option.bind_some, if_true]
  have g : gainQ e p (65536 + v) (65536 + v) = if e < p then 34695 else 65536 := by
    unfold gainQ
    rw [clamp_in (by omega) (by omega), clamp_in (by omega) (by omega)]
    by_cases c : e < p
    · simp only [if_pos c]
      rw [Int.mul_assoc, Int.mul_ediv_mul_of_pos _ _ (by omega)]
      rfl
    · simp only [if_neg c]
      rw [Int.mul_assoc, Int.mul_ediv_mul_of_pos _ _ (by omega)]
      rfl
  rw [g]
  by_cases c : e < p
  · simp only [if_pos c]
    rw [w64 (x := e + 34695 - e) (by omega), w64 (x := e + 34695 - e + 1) (by omega), w64 (by omega), if_pos (by omega), if_pos (by omega)]
  · simp only [if_neg c]
    rw [w64 (x := e + 65536 - e) (by omega), w64 (x := e + 65536 - e + 1) (by omega), w64 (by omega), if_pos (by omega), if_pos (by omega), show e + 65536 - e = 65536 by omega]
    rfl
end Go.Proofs.Ytepmnfjcmppghaa.Px
