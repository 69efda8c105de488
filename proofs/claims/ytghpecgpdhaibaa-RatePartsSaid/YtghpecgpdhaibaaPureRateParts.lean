/- The law RateParts, of the Lean functions alone: it answers true at every input. No conditions. -/
import Derived.Test.YtghpecgpdhaibaaPx28
import Derived.Test.YtghpecgpdhaibaaSpec
namespace Go.Proofs.Ytghpecgpdhaibaa.Px
open Go.Proofs.Ytghpecgpdhaibaa.Sp Go.RowKit Go.Proofs.YtghpecgpdhaibaaW.PrintWords Go.Proofs.YtghpecgpdhaibaaW.PrintLast Go.Proofs.YtghpecgpdhaibaaW.PrintMore
theorem sawtoothlaw17_RateParts.pure : ∀ (a0 : Int) (a1 : Int) (a2 : Int), (Lit.int .u32 a0).wf = true → (Lit.int .u32 a1).wf = true → (Lit.int .u32 a2).wf = true → sawtoothlaw17_RateParts.f a0 a1 a2 = some true := by
  intro a b n w1 w2 w3
  have h1 := wf_u32.1 w1
  have h2 := wf_u32.1 w2
  have h3 := wf_u32.1 w3
  unfold sawtoothlaw17_RateParts.f sawtoothlaw17_awakeS.f
  simp only [Option.bind_some, if_true]
  rw [w64 (x := a) (by omega), w64 (x := b) (by omega), w64 (x := n) (by omega), w64 (x := 1 + n) (by omega), w64 (x := a + b) (by omega), rate_SpanS.eq (by omega) (by omega), rate_SpanS.eq (by omega) (by omega), rate_SpanS.eq (by omega) (by omega)]
  simp only [Option.bind_some]
  have ec : ∀ x : Int, 0 ≤ x → spanC x (1 + n) = (x * 1000000 + n) / (1 + n) := by
    intro x hx
    unfold spanC
    rw [if_neg (by omega), if_neg (by omega), ceil_up _ (by omega)]
    congr 1; omega
  have k1 : spanC (a + b) (1 + n) ≤ spanC a (1 + n) + spanC b (1 + n) ∧ spanC a (1 + n) + spanC b (1 + n) ≤ spanC (a + b) (1 + n) + 1 := by
    rw [ec a (by omega), ec b (by omega), ec (a + b) (by omega)]
    have t := ediv_two (a * 1000000 + n) (b * 1000000 + n) (show 0 < 1 + n by omega)
    have u1 : (a * 1000000 + n + (b * 1000000 + n)) / (1 + n) ≤ ((a + b) * 1000000 + n) / (1 + n) + 1 := by
      have e : ((a + b) * 1000000 + n) / (1 + n) + 1 = ((a + b) * 1000000 + n + (1 + n)) / (1 + n) := by rw [Int.add_ediv_of_dvd_right (Int.dvd_refl _), Int.ediv_self (by omega)]
      rw [e]; exact Int.ediv_le_ediv (by omega) (by omega)
    refine ⟨?_, by omega⟩
    have v := Int.emod_add_ediv_mul (a * 1000000 + n) (1 + n)
    have v2 := Int.emod_lt_of_pos (a * 1000000 + n) (show 0 < 1 + n by omega)
    have y := Int.emod_add_ediv_mul (b * 1000000 + n) (1 + n)
    have y2 := Int.emod_lt_of_pos (b * 1000000 + n) (show 0 < 1 + n by omega)
    have lt : ((a + b) * 1000000 + n) / (1 + n) < (a * 1000000 + n) / (1 + n) + (b * 1000000 + n) / (1 + n) + 1 := by
      rw [Int.ediv_lt_iff_lt_mul (by omega)]
      generalize (a * 1000000 + n) / (1 + n) = q1 at *
      generalize (b * 1000000 + n) / (1 + n) = q2 at *
      have e : (q1 + q2 + 1) * (1 + n) = q1 * (1 + n) + q2 * (1 + n) + (1 + n) := by rw [Int.add_mul, Int.add_mul, Int.one_mul]
      rw [e]; omega
    omega
  have p1 : 0 ≤ spanC a (1 + n) := by rw [ec a (by omega)]; exact Int.ediv_nonneg (by omega) (by omega)
  have p2 : 0 ≤ spanC b (1 + n) := by rw [ec b (by omega)]; exact Int.ediv_nonneg (by omega) (by omega)
  unfold spanQ
  generalize spanC a (1 + n) = x at *
  generalize spanC b (1 + n) = y at *
  generalize spanC (a + b) (1 + n) = z at *
  by_cases hz : z ≤ 1099511627776
  · simp only [if_pos hz]
    by_cases hz2 : z = 1099511627776
    · rw [if_pos hz2]
    · rw [if_neg hz2, if_pos (show x ≤ 1099511627776 by omega), if_pos (show y ≤ 1099511627776 by omega), w64 (x := x + y) (by omega), if_pos (by omega), w64 (by omega), decide_eq_true (by omega)]
  · simp only [if_neg hz, if_true]
end Go.Proofs.Ytghpecgpdhaibaa.Px
