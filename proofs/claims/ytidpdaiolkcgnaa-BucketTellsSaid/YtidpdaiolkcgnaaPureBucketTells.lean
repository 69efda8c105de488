/- The law BucketTells, of the Lean functions alone: it answers true at every input. No conditions. -/
import Derived.Test.YtidpdaiolkcgnaaPx41
import Derived.Test.YtidpdaiolkcgnaaSpec
namespace Go.Proofs.Ytidpdaiolkcgnaa.Px
open Go.Proofs.Ytidpdaiolkcgnaa.Sp Go.RowKit Go.Proofs.YtidpdaiolkcgnaaW.PrintWords Go.Proofs.YtidpdaiolkcgnaaW.PrintLast Go.Proofs.YtidpdaiolkcgnaaW.PrintMore
theorem sawtoothlaw18_BucketTells.pure : ∀ (a0_0 : Int) (a0_1 : Int) (a1 : Int) (a2 : Int) (a3 : Int) (a4 : Int), (Lit.int .i64 a0_0).wf = true → (Lit.int .i64 a0_1).wf = true → (Lit.int .i64 a1).wf = true → (Lit.int .i64 a2).wf = true → (Lit.int .i64 a3).wf = true → (Lit.int .i64 a4).wf = true → sawtoothlaw18_BucketTells.f a0_0 a0_1 a1 a2 a3 a4 = some true := by
  intro t h u r m n w1 w2 w3 w4 w5 w6
  have h1 := wf_i64.1 w1
  have h2 := wf_i64.1 w2
  have h3 := wf_i64.1 w3
  have h4 := wf_i64.1 w4
  have h5 := wf_i64.1 w5
  have h6 := wf_i64.1 w6
  unfold sawtoothlaw18_BucketTells.f sawtoothlaw18_awakeS.f
  rw [bucket_FillS.eq h1 h2 h3 h4 h5, sawtoothref18_FillS.eq h2, bucket_TakeS.eq h6, sawtoothref18_TakeS.eq h6, bucket_CheckS.eq, sawtoothref18_CheckS.eq, bucket_WaitS.eq h2 h6 h4, sawtoothref18_WaitS.eq h2 h6 h4, bucket_BytesS.eq, sawtoothref18_BytesS.eq]
  simp
end Go.Proofs.Ytidpdaiolkcgnaa.Px
