/- The law RateTells, of the Lean functions alone: it answers true at every input. No conditions. -/
import Derived.Test.YtghpecgpdhaibaaPx35
import Derived.Test.YtghpecgpdhaibaaSpec
namespace Go.Proofs.Ytghpecgpdhaibaa.Px
open Go.Proofs.Ytghpecgpdhaibaa.Sp Go.RowKit Go.Proofs.YtghpecgpdhaibaaW.PrintWords Go.Proofs.YtghpecgpdhaibaaW.PrintLast Go.Proofs.YtghpecgpdhaibaaW.PrintMore
theorem sawtoothlaw17_RateTells.pure : ∀ (a0 : Int) (a1 : Int) (a2_0 : Bool) (a2_1 : Int) (a2_2 : Int) (a3 : Bool) (a4 : Int) (a5 : Int), (Lit.int .i64 a0).wf = true → (Lit.int .i64 a1).wf = true → (Lit.int .i64 a2_1).wf = true → (Lit.int .i64 a2_2).wf = true → (Lit.int .i64 a4).wf = true → (Lit.int .i64 a5).wf = true → ∃ k, sawtoothlaw17_RateTells.f k a0 a1 a2_0 a2_1 a2_2 a3 a4 a5 = some true := by
  intro a b has mean far slow x y w1 w2 w3 w4 w5 w6
  have h1 := wf_i64.1 w1
  have h2 := wf_i64.1 w2
  have h3 := wf_i64.1 w3
  have h4 := wf_i64.1 w4
  have h5 := wf_i64.1 w5
  have h6 := wf_i64.1 w6
  refine ⟨1, ?_⟩
  have jj : sawtoothlaw17_RateTells.j0 1 a b slow x y true true has mean far = some true := by
    simp only [sawtoothlaw17_RateTells.j0, if_true]
    unfold rate_First.f
    simp only [Option.bind_some, if_true]
    rw [rate_OfS.eq h1 h2 h3 h4, sawtoothref17_OfS.eq h1 h2 h3 h4, rate_SpanS.eq h5 h6, sawtoothref17_SpanS.eq h5 h6]
    simp
  unfold sawtoothlaw17_RateTells.f sawtoothlaw17_awakeS.f rate_Gain.f
  by_cases s : slow = true
  · simp only [Option.bind_some, if_pos s, if_true]; exact jj
  · simp only [Option.bind_some, if_neg s, if_true]; exact jj
end Go.Proofs.Ytghpecgpdhaibaa.Px
