/- The law CubicEnds, of the Lean functions alone: it answers true at every input. No conditions. -/
import Derived.Test.YtgakpcfmgcpeaaaDoorPx42
import Derived.Test.YtgakpcfmgcpeaaaDoorSpec
namespace Go.Proofs.YtgakpcfmgcpeaaaDoor.Px
open Go.Proofs.YtgakpcfmgcpeaaaDoor.Sp Go.RowKit Go.Proofs.YtgakpcfmgcpeaaaDoorW.PrintWords Go.Proofs.YtgakpcfmgcpeaaaDoorW.PrintLast Go.Proofs.YtgakpcfmgcpeaaaDoorW.PrintMore
theorem sawtoothlaw12_CubicEnds.pure : ∀ (a0 : Int) (a1 : Int) (a2 : Int) (a3 : Int), (Lit.int .i64 a0).wf = true → (Lit.int .i64 a1).wf = true → (Lit.int .i64 a2).wf = true → (Lit.int .u32 a3).wf = true → sawtoothlaw12_CubicEnds.f a0 a1 a2 a3 = some true := by
  intro s f m l w1 w2 w3 w4
  have h1 := wf_i64.1 w1
  have h2 := wf_i64.1 w2
  have h3 := wf_i64.1 w3
  have h4 := wf_u32.1 w4
  unfold sawtoothlaw12_CubicEnds.f sawtoothlaw12_awakeS.f
  rw [epoch_BeginS.eq h1 h2 h3, w64 (x := l) (by omega)]
  unfold beginQ
  by_cases c : 0 ≤ s ∧ s ≤ 1099511627776 ∧ 0 ≤ f ∧ f ≤ 68719476736 ∧ 0 ≤ m ∧ m ≤ 68719476736
  · rw [if_pos c]
    have hM : f ≤ max2 m f ∧ max2 m f ≤ 68719476736 := by unfold max2; split <;> omega
    generalize max2 m f = M at *
    have kb := kQ_bd (M - f)
    have k1 := (kQ_le (g := M - f) (n := kQ (M - f)) (by omega) (by omega) kb.1).2 (Int.le_refl _)
    have k2 := mt (kQ_le (g := M - f) (n := kQ (M - f) + 1) (by omega) (by omega) (by omega)).1 (by omega)
    obtain ⟨K, hK⟩ : ∃ K, kQ (M - f) = K := ⟨_, rfl⟩
    rw [hK] at kb k1 k2 ⊢
    have ev : eOk true s f M K f = true := eOk_on.2 (by unfold eOn; exact ⟨by omega, by omega, by omega, by omega, by omega, by omega, by omega, by omega, by omega, hK.symm⟩)
    have at' : ∀ t, atQ true s f M K f t = lawQ M K (t - s) := by intro t; unfold atQ; rw [if_pos ⟨rfl, ev⟩]
    have lK : lawQ M K K = M := by unfold lawQ; rw [show K - K = 0 by omega, riseQ_zero]; exact (by rw [Int.add_zero]; exact clamp_in (by omega) (by omega))
    have l0 : f ≤ lawQ M K 0 ∧ lawQ M K 0 ≤ f + 1500 := by
      have c1 : c31 (0 - K) = -K := by unfold c31; rw [show (0 : Int) - K = -K by omega]; exact clamp_in (by omega) (by omega)
      have e1 : riseQ (0 - K) = (-(K * K * K)) * 262144 / 10000000000000000000 := by unfold riseQ; rw [c1, Int.neg_mul_neg, Int.mul_neg]
      have e2 : (K + 1) * (K + 1) * (K + 1) = K * K * K + 3 * (K * K) + 3 * K + 1 := by
        simp only [Int.add_mul, Int.mul_add, Int.one_mul, Int.mul_one]
        omega
      have e3 := mul_le (A := 138000000) (C := 138000000) kb.1 (by omega) kb.1 (by omega)
      rw [e2] at k2
      unfold lawQ
      rw [e1]
      generalize K * K * K = c3 at *
      generalize K * K = c2 at *
      unfold clamp
      (repeat' split) <;> omega
    have m1 := lawQ_mono (m := M) (k := K) (a := 0) (b := K) kb.1
    have m2 := lawQ_mono (m := M) (k := K) (a := K) (b := K + l) (by omega)
    rw [lK] at m1 m2
    simp only [Option.bind_some, if_true]
    rw [w64 (x := s + K) (by omega), w64 (x := s + K + l) (by omega), w64 (x := f + 1500) (by omega), cubic_AtS.eq (by omega) (by omega) (by omega) (by omega) (by omega), cubic_AtS.eq (by omega) (by omega) (by omega) (by omega) (by omega), cubic_AtS.eq (by omega) (by omega) (by omega) (by omega) (by omega), at', at', at', show s + K - s = K by omega, show s - s = 0 by omega, show s + K + l - s = K + l by omega, lK]
    generalize lawQ M K 0 = L at *
    generalize lawQ M K (K + l) = R at *
    have a1 : L ≥ f := l0.1
    simp [a1, l0.1, l0.2, m1, m2]
  · rw [if_neg c]
    simp
end Go.Proofs.YtgakpcfmgcpeaaaDoor.Px
