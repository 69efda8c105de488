/- The law BucketTakes, of the Lean functions alone: it answers true at every input. No conditions. -/
import Derived.Test.YtidpdaiolkcgnaaPx44
import Derived.Test.YtidpdaiolkcgnaaSpec
namespace Go.Proofs.Ytidpdaiolkcgnaa.Px
open Go.Proofs.Ytidpdaiolkcgnaa.Sp Go.RowKit Go.Proofs.YtidpdaiolkcgnaaW.PrintWords Go.Proofs.YtidpdaiolkcgnaaW.PrintLast Go.Proofs.YtidpdaiolkcgnaaW.PrintMore
theorem sawtoothlaw18_BucketTakes.pure : ∀ (a0_0 : Int) (a0_1 : Int) (a1 : Int) (a2 : Int), (Lit.int .i64 a0_0).wf = true → (Lit.int .i64 a0_1).wf = true → (Lit.int .u32 a1).wf = true → (Lit.int .u32 a2).wf = true → ∃ k, sawtoothlaw18_BucketTakes.f k a0_0 a0_1 a1 a2 = some true := by
  intro t h a c w1 w2 w3 w4
  have h1 := wf_i64.1 w1
  have h2 := wf_i64.1 w2
  have h3 := wf_u32.1 w3
  have h4 := wf_u32.1 w4
  refine ⟨1, ?_⟩
  unfold sawtoothlaw18_BucketTakes.f sawtoothlaw18_awakeS.f
  rw [w64 (x := a) (by omega), w64 (x := c) (by omega), w64 (x := 1 + a) (by omega), w64 (x := 1 + c) (by omega), w64 (x := 1 + a + (1 + c)) (by omega)]
  rw [bucket_TakeS.eq (by omega)]
  simp only [Option.bind_some]
  rw [bucket_TakeS.eq (by omega)]
  simp only [Option.bind_some]
  rw [bucket_TakeS.eq (by omega)]
  simp only [Option.bind_some, sawtoothlaw18_BucketTakes.j0, if_true]
  by_cases b : bOk t h = true
  · have bb := bOk_iff.1 b
    have tk : ∀ n, ¬ n < 1 → tkB t h n = if h / 1000000 < n then (t, h, 203) else (t, h - n * 1000000, 0) := by
      intro n hn; unfold tkB; rw [if_pos b, if_neg hn]
    rw [tk (1 + a) (by omega), tk (1 + a + (1 + c)) (by omega)]
    by_cases x : h / 1000000 < 1 + a
    · rw [if_pos x, if_pos (show h / 1000000 < 1 + a + (1 + c) by omega)]
      simp
    · rw [if_neg x]
      have b2 : bOk t (h - (1 + a) * 1000000) = true := bOk_iff.2 (by omega)
      have e : (h - (1 + a) * 1000000) / 1000000 = h / 1000000 - (1 + a) := by omega
      have e2 : tkB t (h - (1 + a) * 1000000) (1 + c) = if h / 1000000 - (1 + a) < 1 + c then (t, h - (1 + a) * 1000000, 203) else (t, h - (1 + a) * 1000000 - (1 + c) * 1000000, 0) := by
        unfold tkB; rw [if_pos b2, if_neg (by omega), e]
      simp only [e2]
      by_cases y : h / 1000000 < 1 + a + (1 + c)
      · rw [if_pos y, if_pos (show h / 1000000 - (1 + a) < 1 + c by omega)]
        simp
      · rw [if_neg y, if_neg (show ¬ h / 1000000 - (1 + a) < 1 + c by omega)]
        have e3 : h - (1 + a) * 1000000 - (1 + c) * 1000000 = h - (1 + a + (1 + c)) * 1000000 := by omega
        rw [e3, bucket_BytesS.eq, bucket_BytesS.eq]
        have b3 : bOk t (h - (1 + a + (1 + c)) * 1000000) = true := bOk_iff.2 (by omega)
        unfold bytesB
        rw [if_pos b, if_pos b3]
        simp only [Option.bind_some]
        rw [w64 (x := h / 1000000 - (1 + a)) (by omega), w64 (by omega)]
        simp
        omega
  · have tk : ∀ n, tkB t h n = (t, h, 201) := by intro n; unfold tkB; rw [if_neg b]
    simp [tk]
end Go.Proofs.Ytidpdaiolkcgnaa.Px
