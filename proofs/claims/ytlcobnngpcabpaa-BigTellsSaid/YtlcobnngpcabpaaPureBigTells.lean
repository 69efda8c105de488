/- The law BigTells, of the Lean functions alone: it answers true at every input. No conditions. -/
import Derived.Test.YtlcobnngpcabpaaPx36
import Derived.Test.YtlcobnngpcabpaaSpec
namespace Go.Proofs.Ytlcobnngpcabpaa.Px
open Go.Proofs.Ytlcobnngpcabpaa.Sp Go.RowKit Go.Proofs.YtlcobnngpcabpaaW.PrintWords Go.Proofs.YtlcobnngpcabpaaW.PrintLast Go.Proofs.YtlcobnngpcabpaaW.PrintMore
theorem sawtoothlaw02_BigTells.pure : ∀ (a0_0 : Bool) (a0_1 : Int) (a0_2 : Int) (a1_0 : Bool) (a1_1 : Int) (a1_2 : Int) (a2 : Int) (a3 : Int) (a4 : Int), (Lit.int .u64 a0_1).wf = true → (Lit.int .u64 a0_2).wf = true → (Lit.int .u64 a1_1).wf = true → (Lit.int .u64 a1_2).wf = true → (Lit.int .i64 a2).wf = true → (Lit.int .i64 a3).wf = true → (Lit.int .u64 a4).wf = true → ∃ k, sawtoothlaw02_BigTells.f k a0_0 a0_1 a0_2 a1_0 a1_1 a1_2 a2 a3 a4 = some true := by
  intro xn xh xl yn yh yl a b n w1 w2 w3 w4 w5 w6 w7
  have h1 := wf_u64.1 w1
  have h2 := wf_u64.1 w2
  have h3 := wf_u64.1 w3
  have h4 := wf_u64.1 w4
  have h5 := wf_i64.1 w5
  have h6 := wf_i64.1 w6
  have h7 := wf_u64.1 w7
  refine ⟨1, ?_⟩
  have jj : sawtoothlaw02_BigTells.j0 1 a b true true xn xh xl yn yh yl = some true := by
    simp only [sawtoothlaw02_BigTells.j0, if_true]
    unfold sawtoothref02_OfS.f sawtoothref02_MulS.f sawtoothref02_NegS.f sawtoothref02_CmpS.f sawtoothref02_IntS.f
    rw [big_OfS.eq h5, ofF_eq h5, big_MulS.eq h5 h6, mulF_eq h5 h6, big_NegS.eq h1 h2, negF_eq h1 h2, big_CmpS.eq h1 h2 h3 h4, cmpF_eq h1 h2 h3 h4, big_IntS.eq h1 h2, intF_eq h1 h2]
    simp
  unfold sawtoothlaw02_BigTells.f sawtoothlaw02_awakeS.f sawtoothref02_AddS.f sawtoothref02_Scale.f sawtoothref02_DivS.f
  rw [big_AddS.eq h1 h2 h3 h4, addF_eq h1 h2 h3 h4, big_ScaleS.eq h1 h2 h7, scaleF_eq h1 h2 h7, big_DivS.eq h1 h2 h7, divF_eq h1 h2 h7]
  have t1 : ∀ v : Int, ∃ p, held v = some p := by intro v; unfold held; split <;> exact ⟨_, rfl⟩
  have t2 : ∀ v d : Int, ∃ p, quo v d = some p := by intro v d; unfold quo; split <;> exact ⟨_, rfl⟩
  obtain ⟨p1, e1⟩ := t1 (val xn xh xl + val yn yh yl)
  obtain ⟨p2, e2⟩ := t1 (val xn xh xl * n)
  obtain ⟨p3, e3⟩ := t2 (val xn xh xl) n
  rw [e1, e2, e3]
  simp [jj]
end Go.Proofs.Ytlcobnngpcabpaa.Px
