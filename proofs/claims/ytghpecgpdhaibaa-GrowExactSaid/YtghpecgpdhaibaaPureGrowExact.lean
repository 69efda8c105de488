/- The law GrowExact, of the Lean functions alone: it answers true at every input. No conditions. -/
import Derived.Test.YtghpecgpdhaibaaPx35
import Derived.Test.YtghpecgpdhaibaaSpec
namespace Go.Proofs.Ytghpecgpdhaibaa.Px
open Go.Proofs.Ytghpecgpdhaibaa.Sp Go.RowKit Go.Proofs.YtghpecgpdhaibaaW.PrintWords Go.Proofs.YtghpecgpdhaibaaW.PrintLast Go.Proofs.YtghpecgpdhaibaaW.PrintMore
theorem sawtoothlaw14_GrowExact.pure : ∀ (a0 : Int) (a1 : Int) (a2 : Int), (Lit.int .u32 a0).wf = true → (Lit.int .u32 a1).wf = true → (Lit.int .u32 a2).wf = true → sawtoothlaw14_GrowExact.f a0 a1 a2 = some true := by
  intro a gap told w1 w2 w3
  have h1 := wf_u32.1 w1
  have h2 := wf_u32.1 w2
  have h3 := wf_u32.1 w3
  unfold sawtoothlaw14_GrowExact.f sawtoothlaw14_awakeS.f sawtoothref02_MulS.f sawtoothref02_CmpS.f
  rw [w64 (x := a) (by omega), w64 (x := gap) (by omega), w64 (x := told) (by omega), w64 (x := 131072 + a) (by omega), w64 (x := 131072 + a + gap) (by omega)]
  obtain ⟨w, hw⟩ : ∃ w : Int, w = 131072 + a := ⟨_, rfl⟩
  rw [← hw]
  have tt : 0 ≤ mn told w ∧ mn told w ≤ w := by unfold mn; split <;> omega
  generalize mn told w = t at *
  rw [grow_Calm.eq (by omega) (by omega) (by omega)]
  simp only [Option.bind_some, if_true]
  by_cases c : w + gap > 68719476736
  · rw [if_pos c]
  · rw [if_neg c]
    have ww : win w = w := win_in (by omega) (by omega)
    have q1 : t * gap / w * w ≤ t * gap := Int.ediv_mul_le _ (by omega)
    have q2 : t * gap < (t * gap / w + 1) * w := Int.lt_ediv_add_one_mul_self _ (by omega)
    have q3 : 0 ≤ t * gap / w := Int.ediv_nonneg (Int.mul_nonneg tt.1 (by omega)) (by omega)
    have q4 : t * gap / w ≤ gap := by
      apply Int.ediv_le_of_le_mul (by omega)
      rw [Int.mul_comm gap]; exact Int.mul_le_mul_of_nonneg_right tt.2 (by omega)
    have en : calmQ w (w + gap) t = w + t * gap / w := by
      have e : byQ w (w + gap) t = t * gap / w := by
        unfold byQ
        rw [ww]
        by_cases g0 : w + gap ≤ w
        · have : gap = 0 := by omega
          rw [if_pos g0, this]; simp
        · rw [if_neg g0, clamp_in (by omega) (by omega), show w + gap - w = gap by omega]
          unfold Go.Proofs.Ytghpecgpdhaibaa.Sp.min2; rw [if_neg (by omega)]
      unfold calmQ
      rw [ww, e, win_in (by omega) (by omega)]
    rw [en]
    generalize t * gap / w = q at *
    have m1 := mulI (a := t) (b := gap) (by omega) (by omega)
    have m2 := mulI (a := q) (b := w) (by omega) (by omega)
    have m3 := mulI (a := q + 1) (b := w) (by omega) (by omega)
    rw [show w + q - w = q by omega, w64 (x := q) (by omega), w64 (x := q + 1) (by omega), mulF_eq (a := q) (by omega) (by omega), mulF_eq (a := q + 1) (by omega) (by omega), mulF_eq (a := t) (by omega) (by omega)]
    simp only [Option.bind_some]
    rw [cmpF_enc (by omega) (by omega), cmpF_enc (by omega) (by omega)]
    simp only [Option.bind_some]
    rw [if_pos (by unfold cmpI; split <;> (try split) <;> omega), decide_eq_true (by unfold cmpI; split <;> (try split) <;> omega)]
end Go.Proofs.Ytghpecgpdhaibaa.Px
