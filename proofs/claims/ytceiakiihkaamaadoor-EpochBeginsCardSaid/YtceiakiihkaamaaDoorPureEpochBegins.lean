/- The law EpochBegins, of the Lean functions alone: it answers true at every input. No conditions. -/
import Derived.Test.YtceiakiihkaamaaDoorPx30
import Derived.Test.YtceiakiihkaamaaDoorSpec
namespace Go.Proofs.YtceiakiihkaamaaDoor.Px
open Go.Proofs.YtceiakiihkaamaaDoor.Sp Go.RowKit Go.Proofs.YtceiakiihkaamaaDoorW.PrintWords Go.Proofs.YtceiakiihkaamaaDoorW.PrintLast Go.Proofs.YtceiakiihkaamaaDoorW.PrintMore
theorem sawtoothlaw11_EpochBegins.pure : ∀ (a0 : Int) (a1 : Int) (a2 : Int), (Lit.int .i64 a0).wf = true → (Lit.int .i64 a1).wf = true → (Lit.int .i64 a2).wf = true → sawtoothlaw11_EpochBegins.f a0 a1 a2 = some true := by
  intro s f m w1 w2 w3
  have h1 := wf_i64.1 w1
  have h2 := wf_i64.1 w2
  have h3 := wf_i64.1 w3
  unfold sawtoothlaw11_EpochBegins.f sawtoothlaw11_awakeS.f
  rw [epoch_BeginS.eq h1 h2 h3]
  simp only [Option.bind_some]
  unfold beginQ
  by_cases c : 0 ≤ s ∧ s ≤ 1099511627776 ∧ 0 ≤ f ∧ f ≤ 68719476736 ∧ 0 ≤ m ∧ m ≤ 68719476736
  · rw [if_pos c]
    have b : f ≤ max2 m f ∧ max2 m f ≤ 68719476736 := by unfold max2; split <;> omega
    have ok : eOk true s f (max2 m f) (kQ (max2 m f - f)) f = true := eOk_on.2 (by unfold eOn; omega)
    have e2 : max2 m f = mx f m := by unfold max2 mx; split <;> split <;> omega
    simp only [if_true]
    rw [epoch_CheckS.eq (by omega) (by omega) (by omega), ok]
    simp only [Option.bind_some, if_true]
    rw [if_pos e2]
    by_cases d : m > f
    · rw [if_pos d]
    · rw [if_neg d, kQ_low (by unfold max2; split <;> omega)]
      rfl
  · rw [if_neg c]
    simp
    omega
end Go.Proofs.YtceiakiihkaamaaDoor.Px
