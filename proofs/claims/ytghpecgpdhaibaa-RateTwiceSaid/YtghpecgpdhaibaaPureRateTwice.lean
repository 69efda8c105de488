/- The law RateTwice, of the Lean functions alone: it answers true at every input. No conditions. -/
import Derived.Test.YtghpecgpdhaibaaPx28
import Derived.Test.YtghpecgpdhaibaaSpec
namespace Go.Proofs.Ytghpecgpdhaibaa.Px
open Go.Proofs.Ytghpecgpdhaibaa.Sp Go.RowKit Go.Proofs.YtghpecgpdhaibaaW.PrintWords Go.Proofs.YtghpecgpdhaibaaW.PrintLast Go.Proofs.YtghpecgpdhaibaaW.PrintMore
theorem sawtoothlaw17_RateTwice.pure : ∀ (a0 : Int) (a1 : Int) (a2_0 : Bool) (a2_1 : Int) (a2_2 : Int) (a3 : Bool), (Lit.int .u32 a0).wf = true → (Lit.int .u16 a1).wf = true → (Lit.int .i64 a2_1).wf = true → (Lit.int .i64 a2_2).wf = true → sawtoothlaw17_RateTwice.f a0 a1 a2_0 a2_1 a2_2 a3 = some true := by
  intro w s has mean far slow w1 w2 w3 w4
  have h1 := wf_u32.1 w1
  have h2 := wf_u16.1 w2
  have h3 := wf_i64.1 w3
  have h4 := wf_i64.1 w4
  unfold sawtoothlaw17_RateTwice.f sawtoothlaw17_awakeS.f
  simp only [Option.bind_some, if_true]
  rw [w64 (x := w) (by omega), w64 (x := s) (by omega), Int.tdiv_eq_ediv_of_nonneg (by omega), w64 (x := s / 2) (by omega), w64 (x := 1 + s / 2) (by omega), w64 (x := 2 * w) (by omega), w64 (x := 2 * (1 + s / 2)) (by omega)]
  have hz : 1 ≤ 1 + s / 2 ∧ 1 + s / 2 ≤ 32768 := by omega
  generalize 1 + s / 2 = z at *
  rw [rate_OfS.eq (by omega) (by omega) h3 h4, rate_OfS.eq (by omega) (by omega) h3 h4, rate_OfS.eq (by omega) (by omega) h3 h4]
  simp only [Option.bind_some]
  have et := timeQ_bd has mean far
  generalize timeQ has mean far = T at *
  have e1 : rateN (2 * w) z slow = 2 * rateN w z slow := by
    unfold rateN
    rw [clamp_in (a := 2 * w) (by omega) (by omega), clamp_in (a := w) (by omega) (by omega), Int.mul_assoc 2 w, Int.mul_assoc 2]
  have e2 : z ≤ 32767 → rateN w (2 * z) slow = 2 * rateN w z slow := by
    intro hz2
    unfold rateN
    rw [clamp_in (a := 2 * z) (by omega) (by omega), clamp_in (a := z) (by omega) (by omega), show 2 * z * 1000000 = 2 * (z * 1000000) by omega, Int.mul_left_comm]
  have bN := rateN_bd w z slow
  have bI := rate_I w z et.1 et.2 slow
  have bD := rateD_bd et.1 et.2 slow
  have b2 := rate_I (2 * w) z et.1 et.2 slow
  have dv := ediv_two (rateN w z slow) (rateN w z slow) (show 0 < rateD T slow by omega)
  rw [show rateN w z slow + rateN w z slow = 2 * rateN w z slow by omega] at dv
  have hm : rateQ (2 * w) z T slow = max1 (2 * rateN w z slow / rateD T slow) := by unfold rateQ; rw [e1]
  have hk : z ≤ 32767 → rateQ w (2 * z) T slow = max1 (2 * rateN w z slow / rateD T slow) := by intro k; unfold rateQ; rw [e2 k]
  have hn : rateQ w z T slow = max1 (rateN w z slow / rateD T slow) := rfl
  rw [e1] at b2
  rw [hm, hn]
  have fin : (if z > 32767 then some true else some (rateQ w (2 * z) T slow == max1 (2 * rateN w z slow / rateD T slow))) = some true := by
    by_cases hz2 : z > 32767
    · rw [if_pos hz2]
    · rw [if_neg hz2, hk (by omega)]; simp
  generalize rateN w z slow / rateD T slow = q at *
  generalize 2 * rateN w z slow / rateD T slow = m at *
  unfold max1 at *
  by_cases hq : q < 1
  · rw [if_pos hq]
    have k0 : ¬ (if m < 1 then 1 else m) ≥ wrap64 (2 * 1) := by rw [w64 (by omega)]; split <;> omega
    have k1 : (if m < 1 then 1 else m) ≤ 2 := by split <;> omega
    rw [if_neg k0, if_pos rfl, if_pos k1]
    exact fin
  · have hm1 : ¬ m < 1 := by omega
    rw [if_neg hq, if_neg hm1] at *
    rw [w64 (x := 2 * q) (by omega), w64 (x := m - 2 * q) (by omega), if_pos (by omega), if_pos (by omega)]
    exact fin
end Go.Proofs.Ytghpecgpdhaibaa.Px
