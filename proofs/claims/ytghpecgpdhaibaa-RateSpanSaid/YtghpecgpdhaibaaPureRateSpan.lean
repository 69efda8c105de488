/- The law RateSpan, of the Lean functions alone: it answers true at every input. No conditions. -/
import Derived.Test.YtghpecgpdhaibaaPx36
import Derived.Test.YtghpecgpdhaibaaSpec
namespace Go.Proofs.Ytghpecgpdhaibaa.Px
open Go.Proofs.Ytghpecgpdhaibaa.Sp Go.RowKit Go.Proofs.YtghpecgpdhaibaaW.PrintWords Go.Proofs.YtghpecgpdhaibaaW.PrintLast Go.Proofs.YtghpecgpdhaibaaW.PrintMore
theorem sawtoothlaw17_RateSpan.pure : ∀ (a0 : Int) (a1 : Int) (a2 : Int), (Lit.int .u32 a0).wf = true → (Lit.int .u32 a1).wf = true → (Lit.int .u32 a2).wf = true → sawtoothlaw17_RateSpan.f a0 a1 a2 = some true := by
  intro a n m w1 w2 w3
  have h1 := wf_u32.1 w1
  have h2 := wf_u32.1 w2
  have h3 := wf_u32.1 w3
  unfold sawtoothlaw17_RateSpan.f sawtoothlaw17_awakeS.f sawtoothref02_MulS.f sawtoothref02_CmpS.f
  simp only [Option.bind_some, if_true]
  rw [w64 (x := a) (by omega), w64 (x := n) (by omega), w64 (x := m) (by omega), w64 (x := 1 + n) (by omega), w64 (x := a + m) (by omega), rate_SpanS.eq (by omega) (by omega), rate_SpanS.eq (by omega) (by omega)]
  simp only [Option.bind_some]
  have ec : ∀ x : Int, 0 ≤ x → spanC x (1 + n) = (x * 1000000 + n) / (1 + n) := by
    intro x hx
    unfold spanC
    rw [if_neg (by omega), if_neg (by omega), ceil_up _ (by omega)]
    congr 1; omega
  have cm : spanC a (1 + n) ≤ spanC (a + m) (1 + n) := by
    rw [ec a (by omega), ec (a + m) (by omega)]; exact Int.ediv_le_ediv (by omega) (by omega)
  have c0 : 0 ≤ spanC a (1 + n) := by rw [ec a (by omega)]; exact Int.ediv_nonneg (by omega) (by omega)
  have v := Int.emod_add_ediv_mul (a * 1000000 + n) (1 + n)
  have v2 := Int.emod_lt_of_pos (a * 1000000 + n) (show 0 < 1 + n by omega)
  have v3 := Int.emod_nonneg (a * 1000000 + n) (show 1 + n ≠ 0 by omega)
  rw [← ec a (by omega)] at v
  generalize (a * 1000000 + n) % (1 + n) = re at *
  have tt : 0 ≤ spanQ a (1 + n) ∧ spanQ a (1 + n) ≤ 1099511627776 ∧ spanQ a (1 + n) ≤ spanC a (1 + n) ∧ (spanQ a (1 + n) = spanC a (1 + n) ∨ spanQ a (1 + n) = 1099511627776) ∧ spanQ a (1 + n) ≤ spanQ (a + m) (1 + n) := by
    unfold spanQ; split <;> split <;> omega
  obtain ⟨t0, t1, t2, t3, t4⟩ := tt
  generalize spanC a (1 + n) = C at *
  generalize spanQ a (1 + n) = t at *
  generalize spanQ (a + m) (1 + n) = t' at *
  have tm : t * (1 + n) ≤ C * (1 + n) := Int.mul_le_mul_of_nonneg_right t2 (by omega)
  have tm0 : 0 ≤ t * (1 + n) := Int.mul_nonneg t0 (by omega)
  have e1 : (t - 1) * (1 + n) = t * (1 + n) - (1 + n) := by rw [Int.sub_mul, Int.one_mul]
  have hge : t ≠ 1099511627776 → a * 1000000 ≤ t * (1 + n) := by
    intro k
    have : t = C := by omega
    rw [this]; omega
  have hlt : (t - 1) * (1 + n) < a * 1000000 := by omega
  rw [mulF_eq (a := a) (by omega) (by omega)]
  simp only [Option.bind_some]
  have cg : ∀ x y : Int, y ≤ x → cmpI x y ≥ 0 := by intro x y h; unfold cmpI; split <;> (try split) <;> omega
  have cl : ∀ x y : Int, x < y → cmpI x y < 0 := by intro x y h; unfold cmpI; split <;> (try split) <;> omega
  by_cases hz : t = 0
  · rw [if_pos hz, if_neg (by omega), mulF_eq (by omega) (by omega)]
    simp only [Option.bind_some]
    rw [cmpF_enc (by omega) (by omega)]
    simp only [Option.bind_some]
    rw [if_pos (cg _ _ (hge (by omega))), decide_eq_true t4]
  · rw [if_neg hz, w64 (x := t - 1) (by omega), mulF_eq (a := t - 1) (by omega) (by omega)]
    simp only [Option.bind_some]
    rw [cmpF_enc (by omega) (by omega)]
    simp only [Option.bind_some]
    by_cases hm : t = 1099511627776
    · rw [if_pos hm, if_pos (cl _ _ hlt), decide_eq_true t4]
    · rw [if_neg hm, mulF_eq (a := t) (by omega) (by omega)]
      simp only [Option.bind_some]
      rw [cmpF_enc (by omega) (by omega)]
      simp only [Option.bind_some]
      rw [if_pos (cg _ _ (hge hm)), if_pos (cl _ _ hlt), decide_eq_true t4]
end Go.Proofs.Ytghpecgpdhaibaa.Px
