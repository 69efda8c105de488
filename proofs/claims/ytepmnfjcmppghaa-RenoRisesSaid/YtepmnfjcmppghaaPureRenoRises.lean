/- The law RenoRises, of the Lean functions alone: it answers true at every input. No conditions. -/
import Derived.Test.YtepmnfjcmppghaaPx28
import Derived.Test.YtepmnfjcmppghaaSpec
namespace Go.Proofs.Ytepmnfjcmppghaa.Px
open Go.Proofs.Ytepmnfjcmppghaa.Sp Go.RowKit Go.Proofs.YtepmnfjcmppghaaW.PrintWords Go.Proofs.YtepmnfjcmppghaaW.PrintLast Go.Proofs.YtepmnfjcmppghaaW.PrintMore
theorem sawtoothlaw13_RenoRises.pure : ∀ (a0 : Int) (a1 : Int) (a2 : Int) (a3 : Int) (a4 : Int), (Lit.int .u32 a0).wf = true → (Lit.int .i64 a1).wf = true → (Lit.int .i64 a2).wf = true → (Lit.int .i64 a3).wf = true → (Lit.int .i64 a4).wf = true → sawtoothlaw13_RenoRises.f a0 a1 a2 a3 a4 = some true := by
  intro e p a b c w0 w1 w2 w3 w4
  have h0 := wf_u32.1 w0
  have h1 := wf_i64.1 w1
  have h2 := wf_i64.1 w2
  have h3 := wf_i64.1 w3
  have h4 := wf_i64.1 w4
  have mxI : ∀ {x y : Int}, I x → I y → I (mx x y) := by intro x y hx hy; unfold mx; split <;> assumption
  have mnI : ∀ {x y : Int}, I x → I y → I (mn x y) := by intro x y hx hy; unfold mn; split <;> assumption
  have mnx : ∀ x y : Int, mn x y ≤ mx x y := by intro x y; unfold mn mx; split <;> split <;> omega
  unfold sawtoothlaw13_RenoRises.f sawtoothlaw13_awakeS.f
  rw [w64 (x := e) (by omega)]
  simp only [Option.bind_some]
  rw [reno_StepS.eq (by omega) h1 (mxI h2 h3) h4, reno_StepS.eq (by omega) h1 (mnI h2 h3) h4, reno_StepS.eq (by omega) h1 h2 (mnI h3 h4), reno_StepS.eq (by omega) h1 h2 (mxI h3 h4)]
  simp only [Option.bind_some, if_true]
  rw [if_pos (stepQ_ge (by omega) (by omega)), if_pos (stepQ_window (mnx _ _)), if_pos (stepQ_told (mnx _ _)), decide_eq_true (stepQ_bd _ _ _ _).2]
end Go.Proofs.Ytepmnfjcmppghaa.Px
