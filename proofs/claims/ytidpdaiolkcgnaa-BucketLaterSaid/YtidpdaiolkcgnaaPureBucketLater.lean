/- The law BucketLater, of the Lean functions alone: it answers true at every input. No conditions. -/
import Derived.Test.YtidpdaiolkcgnaaPx45
import Derived.Test.YtidpdaiolkcgnaaSpec
namespace Go.Proofs.Ytidpdaiolkcgnaa.Px
open Go.Proofs.Ytidpdaiolkcgnaa.Sp Go.RowKit Go.Proofs.YtidpdaiolkcgnaaW.PrintWords Go.Proofs.YtidpdaiolkcgnaaW.PrintLast Go.Proofs.YtidpdaiolkcgnaaW.PrintMore
theorem sawtoothlaw18_BucketLater.pure : ∀ (a0_0 : Int) (a0_1 : Int) (a1 : Int) (a2 : Int) (a3 : Int) (a4 : Int) (a5 : Int), (Lit.int .i64 a0_0).wf = true → (Lit.int .i64 a0_1).wf = true → (Lit.int .u32 a1).wf = true → (Lit.int .u32 a2).wf = true → (Lit.int .i64 a3).wf = true → (Lit.int .i64 a4).wf = true → (Lit.int .i64 a5).wf = true → ∃ k, sawtoothlaw18_BucketLater.f k a0_0 a0_1 a1 a2 a3 a4 a5 = some true := by
  intro t h d g r m n w1 w2 w3 w4 w5 w6 w7
  have h1 := wf_i64.1 w1
  have h2 := wf_i64.1 w2
  have h3 := wf_u32.1 w3
  have h4 := wf_u32.1 w4
  have h5 := wf_i64.1 w5
  have h6 := wf_i64.1 w6
  have h7 := wf_i64.1 w7
  refine ⟨1, ?_⟩
  unfold sawtoothlaw18_BucketLater.f sawtoothlaw18_awakeS.f
  rw [bucket_CheckS.eq]
  simp only [Option.bind_some, sawtoothlaw18_BucketLater.j0, if_true]
  by_cases b : bOk t h = true
  · rw [if_pos b]
    by_cases e : t > 274877906944
    · rw [if_pos (decide_eq_true e)]
    · rw [if_neg (by simp; omega)]
      have bb := bOk_iff.1 b
      have b2 : bOk (t + d) h = true := bOk_iff.2 (by omega)
      rw [w64 (x := d) (by omega), w64 (x := g) (by omega), w64 (x := t + g) (by omega), w64 (x := t + d) (by omega), w64 (x := t + d + g) (by omega)]
      rw [bucket_FillS.eq h1 h2 (by omega) h5 h6, fillB_in r m b (by omega) (by omega)]
      simp only [Option.bind_some, if_true]
      rw [bucket_FillS.eq (by omega) h2 (by omega) h5 h6, fillB_in r m b2 (by omega) (by omega)]
      simp only [Option.bind_some, if_true]
      rw [fillH_at (t := t + d) (u := t + d + g) (v := t) (w := t + g) (by omega), w64 (x := t + g + d) (by omega), if_pos rfl, if_pos (by omega)]
      rw [bucket_WaitS.eq h2 h7 h5, bucket_WaitS.eq h2 h7 h5, waitB_at n r b b2]
      simp only [Option.bind_some, if_true]
      rw [bucket_BytesS.eq, bucket_BytesS.eq]
      unfold bytesB
      rw [b, b2]
      simp
  · rw [if_neg b]
end Go.Proofs.Ytidpdaiolkcgnaa.Px
