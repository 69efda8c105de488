/- The law CubicLater, of the Lean functions alone: it answers true at every input. No conditions. -/
import Derived.Test.YtgakpcfmgcpeaaaDoorPx43
import Derived.Test.YtgakpcfmgcpeaaaDoorSpec
namespace Go.Proofs.YtgakpcfmgcpeaaaDoor.Px
open Go.Proofs.YtgakpcfmgcpeaaaDoor.Sp Go.RowKit Go.Proofs.YtgakpcfmgcpeaaaDoorW.PrintWords Go.Proofs.YtgakpcfmgcpeaaaDoorW.PrintLast Go.Proofs.YtgakpcfmgcpeaaaDoorW.PrintMore
theorem sawtoothlaw12_CubicLater.pure : ∀ (a0 : Int) (a1 : Int) (a2 : Int) (a3 : Int) (a4 : Int) (a5 : Int), (Lit.int .u32 a0).wf = true → (Lit.int .i64 a1).wf = true → (Lit.int .i64 a2).wf = true → (Lit.int .u32 a3).wf = true → (Lit.int .u32 a4).wf = true → (Lit.int .i64 a5).wf = true → sawtoothlaw12_CubicLater.f a0 a1 a2 a3 a4 a5 = some true := by
  intro a f m d t w w1 w2 w3 w4 w5 w6
  have h1 := wf_u32.1 w1
  have h2 := wf_i64.1 w2
  have h3 := wf_i64.1 w3
  have h4 := wf_u32.1 w4
  have h5 := wf_u32.1 w5
  have h6 := wf_i64.1 w6
  unfold sawtoothlaw12_CubicLater.f sawtoothlaw12_awakeS.f
  rw [w64 (x := a) (by omega), w64 (x := d) (by omega), w64 (x := t) (by omega), w64 (x := a + d) (by omega), w64 (x := a + d + t) (by omega), w64 (x := a + t) (by omega), epoch_BeginS.eq (by omega) h2 h3]
  unfold beginQ
  by_cases c : 0 ≤ a ∧ a ≤ 1099511627776 ∧ 0 ≤ f ∧ f ≤ 68719476736 ∧ 0 ≤ m ∧ m ≤ 68719476736
  · rw [if_pos c]
    have hM : f ≤ max2 m f ∧ max2 m f ≤ 68719476736 := by unfold max2; split <;> omega
    generalize max2 m f = M at *
    have kb := kQ_bd (M - f)
    obtain ⟨K, hK⟩ : ∃ K, kQ (M - f) = K := ⟨_, rfl⟩
    rw [hK] at kb ⊢
    have ev : eOk true a f M K f = true := eOk_on.2 (by unfold eOn; exact ⟨by omega, by omega, by omega, by omega, by omega, by omega, by omega, by omega, by omega, hK.symm⟩)
    have ev2 : eOk true (a + d) f M K f = true := eOk_on.2 (by unfold eOn; exact ⟨by omega, by omega, by omega, by omega, by omega, by omega, by omega, by omega, by omega, hK.symm⟩)
    have lt : laterQ true a d = a + d := by unfold laterQ; simp only [true_and]; (repeat' split) <;> omega
    have at1 : ∀ t, atQ true a f M K f t = lawQ M K (t - a) := by intro t; unfold atQ; rw [if_pos ⟨rfl, ev⟩]
    have at2 : ∀ t, atQ true (a + d) f M K f t = lawQ M K (t - (a + d)) := by intro t; unfold atQ; rw [if_pos ⟨rfl, ev2⟩]
    have rr : reachQ true (a + d) f M K f w = reachQ true a f M K f w := by unfold reachQ; rw [ev, ev2]
    simp only [Option.bind_some]
    rw [epoch_ShiftS.eq (by omega) (by omega), lt]
    simp only [Option.bind_some, if_true]
    rw [cubic_Reach.eq (by omega) (by omega) (by omega) (by omega) (by omega) (by omega), cubic_Reach.eq (by omega) (by omega) (by omega) (by omega) (by omega) (by omega), rr, cubic_AtS.eq (by omega) (by omega) (by omega) (by omega) (by omega), cubic_AtS.eq (by omega) (by omega) (by omega) (by omega) (by omega), at1, at2, show a + d + t - (a + d) = t by omega, show a + t - a = t by omega]
    generalize reachQ true a f M K f w = R
    generalize lawQ M K t = L
    simp
  · rw [if_neg c]
    simp only [Option.bind_some]
    rw [epoch_ShiftS.eq (by omega) (by omega)]
    simp [laterQ]
end Go.Proofs.YtgakpcfmgcpeaaaDoor.Px
