/- The law BucketWaits, of the Lean functions alone: it answers true at every input. No conditions. -/
import Derived.Test.YtidpdaiolkcgnaaPx43
import Derived.Test.YtidpdaiolkcgnaaSpec
namespace Go.Proofs.Ytidpdaiolkcgnaa.Px
open Go.Proofs.Ytidpdaiolkcgnaa.Sp Go.RowKit Go.Proofs.YtidpdaiolkcgnaaW.PrintWords Go.Proofs.YtidpdaiolkcgnaaW.PrintLast Go.Proofs.YtidpdaiolkcgnaaW.PrintMore
theorem sawtoothlaw18_BucketWaits.pure : ∀ (a0_0 : Int) (a0_1 : Int) (a1 : Int) (a2 : Int), (Lit.int .i64 a0_0).wf = true → (Lit.int .i64 a0_1).wf = true → (Lit.int .u16 a1).wf = true → (Lit.int .u32 a2).wf = true → ∃ k, sawtoothlaw18_BucketWaits.f k a0_0 a0_1 a1 a2 = some true := by
  intro t h n r w1 w2 w3 w4
  have h1 := wf_i64.1 w1
  have h2 := wf_i64.1 w2
  have h3 := wf_u16.1 w3
  have h4 := wf_u32.1 w4
  refine ⟨1, ?_⟩
  unfold sawtoothlaw18_BucketWaits.f sawtoothlaw18_awakeS.f
  rw [w64 (x := n) (by omega), w64 (x := r) (by omega), w64 (x := 1 + r) (by omega), bucket_WaitS.eq h2 (by omega) (by omega), bucket_CheckS.eq]
  simp only [Option.bind_some, sawtoothlaw18_BucketWaits.j0, if_true, bucket_CheckS.eq]
  by_cases b : bOk t h = true
  rotate_left
  · rw [if_neg b]
    unfold waitB
    simp [b]
  rw [if_pos b]
  by_cases x : t > 549755813888
  · rw [if_pos x, b]; rfl
  rw [if_neg x]
  by_cases y : waitB t h n (1 + r) > 274877906944
  · rw [if_pos (decide_eq_true y), b]; rfl
  rw [if_neg (show ¬ decide (waitB t h n (1 + r) > 274877906944) = true by simpa using y)]
  have bb := bOk_iff.1 b
  have nd : needB n = n * 1000000 := by unfold needB; rw [if_neg (by omega), near_in (by omega)]
  have cr : clamp (1 + r) 0 1099511627776 = 1 + r := clamp_in (by omega) (by omega)
  have tp : topB n = n * 1000000 := by unfold topB; rw [clamp_in (by omega) (by omega)]
  by_cases z : h < n * 1000000
  rotate_left
  · have w0 : waitB t h n (1 + r) = 0 := by unfold waitB; rw [nd, if_neg (fun x => z x.2)]
    rw [w0]
    have m1 : mx 0 1 = 1 := rfl
    rw [m1, w64 (x := t + 0) (by omega), w64 (x := t + 1) (by omega), w64 (x := t + 1 - 1) (by omega)]
    rw [bucket_FillS.eq h1 h2 (by omega) (by omega) (by omega), fillB_in _ _ b (by omega) (by omega)]
    simp only [Option.bind_some, if_true]
    rw [bucket_FillS.eq h1 h2 (by omega) (by omega) (by omega), fillB_in _ _ b (by omega) (by omega)]
    simp only [Option.bind_some, if_true]
    rw [bucket_BytesS.eq]
    have ok := fillH_ok (u := t + 0) (1 + r) n b (by omega) (by omega)
    have bd := fillH_bd (u := t + 0) (1 + r) n b (by omega)
    unfold bytesB
    rw [if_pos ok]
    simp only [Option.bind_some]
    rw [if_pos (show fillH t h (t + 0) (1 + r) n / 1000000 ≥ n by omega)]
  · have w0 : waitB t h n (1 + r) = if 1099511627776 < -(-(n * 1000000 - h) / (1 + r)) then 1099511627776 else -(-(n * 1000000 - h) / (1 + r)) := by unfold waitB; rw [nd, if_pos ⟨b, z⟩, if_neg (by omega), cr]
    rw [ceil_up _ (show 0 < 1 + r by omega)] at w0
    have v := Int.emod_add_ediv_mul (n * 1000000 - h + (1 + r - 1)) (1 + r)
    have v2 := Int.emod_lt_of_pos (n * 1000000 - h + (1 + r - 1)) (show 0 < 1 + r by omega)
    have v3 := Int.emod_nonneg (n * 1000000 - h + (1 + r - 1)) (show 1 + r ≠ 0 by omega)
    have v4 : 1 ≤ (n * 1000000 - h + (1 + r - 1)) / (1 + r) := by rw [Int.le_ediv_iff_mul_le (by omega)]; omega
    generalize (n * 1000000 - h + (1 + r - 1)) / (1 + r) = q at *
    generalize (n * 1000000 - h + (1 + r - 1)) % (1 + r) = s at *
    have w1 : waitB t h n (1 + r) = q := by rw [w0]; split <;> first | rfl | omega
    rw [w1] at y ⊢
    have m1 : mx q 1 = q := by unfold mx; rw [if_neg (by omega)]
    rw [m1, w64 (x := t + q) (by omega), w64 (x := t + q - 1) (by omega)]
    rw [bucket_FillS.eq h1 h2 (by omega) (by omega) (by omega), fillB_in _ _ b (by omega) (by omega)]
    simp only [Option.bind_some, if_true]
    rw [bucket_FillS.eq h1 h2 (by omega) (by omega) (by omega), fillB_in _ _ b (by omega) (by omega)]
    simp only [Option.bind_some, if_true]
    rw [bucket_BytesS.eq, bucket_BytesS.eq]
    have ok := fillH_ok (u := t + q) (1 + r) n b (by omega) (by omega)
    have ok2 := fillH_ok (u := t + q - 1) (1 + r) n b (by omega) (by omega)
    have c1 : (1 + r) * (t + q - t) = q * (1 + r) := by rw [Int.mul_comm]; congr 1; omega
    have c2 : (1 + r) * (t + q - 1 - t) = q * (1 + r) - (1 + r) := by rw [Int.mul_comm, show t + q - 1 - t = q - 1 by omega, Int.sub_mul, Int.one_mul]
    have f1 : fillH t h (t + q) (1 + r) n ≥ n * 1000000 := by
      unfold fillH; rw [cr, tp, if_pos z, c1]; split <;> omega
    have f2 : fillH t h (t + q - 1) (1 + r) n < n * 1000000 := by
      unfold fillH; rw [cr, tp, if_pos z, c2]; split <;> omega
    unfold bytesB
    rw [if_pos ok, if_pos ok2]
    simp only [Option.bind_some]
    rw [if_pos (show fillH t h (t + q) (1 + r) n / 1000000 ≥ n by omega), if_neg (show ¬ q = 0 by omega), decide_eq_true (show fillH t h (t + q - 1) (1 + r) n / 1000000 < n by omega)]
end Go.Proofs.Ytidpdaiolkcgnaa.Px
