/- The law BucketParts, of the Lean functions alone: it answers true at every input. No conditions. -/
import Derived.Test.YtidpdaiolkcgnaaPx43
import Derived.Test.YtidpdaiolkcgnaaSpec
namespace Go.Proofs.Ytidpdaiolkcgnaa.Px
open Go.Proofs.Ytidpdaiolkcgnaa.Sp Go.RowKit Go.Proofs.YtidpdaiolkcgnaaW.PrintWords Go.Proofs.YtidpdaiolkcgnaaW.PrintLast Go.Proofs.YtidpdaiolkcgnaaW.PrintMore
theorem sawtoothlaw18_BucketParts.pure : ∀ (a0_0 : Int) (a0_1 : Int) (a1 : Int) (a2 : Int) (a3 : Int) (a4 : Int), (Lit.int .i64 a0_0).wf = true → (Lit.int .i64 a0_1).wf = true → (Lit.int .u32 a1).wf = true → (Lit.int .u32 a2).wf = true → (Lit.int .i64 a3).wf = true → (Lit.int .i64 a4).wf = true → ∃ k, sawtoothlaw18_BucketParts.f k a0_0 a0_1 a1 a2 a3 a4 = some true := by
  intro t h a c r m w1 w2 w3 w4 w5 w6
  have h1 := wf_i64.1 w1
  have h2 := wf_i64.1 w2
  have h3 := wf_u32.1 w3
  have h4 := wf_u32.1 w4
  have h5 := wf_i64.1 w5
  have h6 := wf_i64.1 w6
  refine ⟨1, ?_⟩
  unfold sawtoothlaw18_BucketParts.f sawtoothlaw18_awakeS.f
  rw [bucket_CheckS.eq]
  simp only [Option.bind_some, sawtoothlaw18_BucketParts.j0, if_true]
  by_cases b : bOk t h = true
  · rw [if_pos b]
    by_cases d : t > 274877906944
    · rw [if_pos (decide_eq_true d)]
    · rw [if_neg (by simp; omega)]
      have bb := bOk_iff.1 b
      rw [w64 (x := a) (by omega), w64 (x := c) (by omega), w64 (x := t + a) (by omega), w64 (x := t + a + c) (by omega)]
      rw [bucket_FillS.eq h1 h2 (by omega) h5 h6, fillB_in r m b (by omega) (by omega)]
      simp only [Option.bind_some, if_true]
      have ok := fillH_ok (u := t + a) r m b (by omega) (by omega)
      have bd := fillH_bd (u := t + a) r m b (by omega)
      rw [w64 (x := t + a + c) (by omega), bucket_FillS.eq (by omega) (by omega) (by omega) h5 h6, fillB_in r m ok (by omega) (by omega)]
      simp only [Option.bind_some, if_true]
      rw [bucket_FillS.eq h1 h2 (by omega) h5 h6, fillB_in r m b (by omega) (by omega), fillH_two r m (by omega) (by omega)]
      simp [bd.1]
  · rw [if_neg b]
end Go.Proofs.Ytidpdaiolkcgnaa.Px
