/- The law RenoParts, of the Lean functions alone: it answers true at every input. No conditions. -/
import Derived.Test.YtepmnfjcmppghaaPx28
import Derived.Test.YtepmnfjcmppghaaSpec
namespace Go.Proofs.Ytepmnfjcmppghaa.Px
open Go.Proofs.Ytepmnfjcmppghaa.Sp Go.RowKit Go.Proofs.YtepmnfjcmppghaaW.PrintWords Go.Proofs.YtepmnfjcmppghaaW.PrintLast Go.Proofs.YtepmnfjcmppghaaW.PrintMore
theorem sawtoothlaw13_RenoParts.pure : ∀ (a0 : Int) (a1 : Int) (a2 : Int) (a3 : Int) (a4 : Int), (Lit.int .u32 a0).wf = true → (Lit.int .u32 a1).wf = true → (Lit.int .u32 a2).wf = true → (Lit.int .u16 a3).wf = true → (Lit.int .u16 a4).wf = true → sawtoothlaw13_RenoParts.f a0 a1 a2 a3 a4 = some true := by
  intro e p v a b w0 w1 w2 w3 w4
  have h0 := wf_u32.1 w0
  have h1 := wf_u32.1 w1
  have h2 := wf_u32.1 w2
  have h3 := wf_u16.1 w3
  have h4 := wf_u16.1 w4
  unfold sawtoothlaw13_RenoParts.f sawtoothlaw13_awakeS.f
  rw [w64 (x := e) (by omega), w64 (x := p) (by omega), w64 (x := v) (by omega), w64 (x := a) (by omega), w64 (x := b) (by omega), w64 (x := a + b) (by omega)]
  simp only [Option.bind_some]
  rw [reno_StepsS.eq (by omega) (by omega) (by omega) (by intro x hx; simp at hx; omega) (by simp), reno_StepS.eq (by omega) (by omega) (by omega) (by omega), reno_StepS.eq (by omega) (by omega) (by omega) (by omega)]
  simp only [Option.bind_some, if_true]
  by_cases hs : (decide (e < p) == decide (stepQ e p v a < p)) = true
  · rw [if_pos hs]
    have hs' : e < p ↔ stepQ e p v a < p := by
      rw [beq_iff_eq, decide_eq_decide] at hs; exact hs
    have ha := stepQ_plain (e := e) (p := p) (w := v) (t := a) (by omega) (by omega) (by omega)
    have la := gainQ_le (e := e) (p := p) (w := v) (t := a) (by omega)
    have pa := gainQ_pos e p v a
    have hy := stepQ_plain (e := e) (p := p) (w := v) (t := a + b) (by omega) (by omega) (by omega)
    have hx := stepQ_plain (e := stepQ e p v a) (p := p) (w := v) (t := b) (by omega) (by omega) (by omega)
    have two := gainQ_two (e := e) (f := stepQ e p v a) (p := p) (w := v) (a := a) (b := b) (by omega) (by omega) (by omega) hs'
    have hst : stepsQ e p v [a, b] = stepQ (stepQ e p v a) p v b := rfl
    have bx := stepQ_bd (stepQ e p v a) p v b
    have bY := stepQ_bd e p v (a + b)
    rw [hst, if_pos (by omega), w64 (by omega), decide_eq_true (by omega)]
  · rw [if_neg hs]
end Go.Proofs.Ytepmnfjcmppghaa.Px
