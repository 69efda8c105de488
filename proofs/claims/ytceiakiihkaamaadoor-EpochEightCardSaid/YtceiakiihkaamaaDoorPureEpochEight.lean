/- The law EpochEight, of the Lean functions alone: it answers true at every input. No conditions. -/
import Derived.Test.YtceiakiihkaamaaDoorPx30
import Derived.Test.YtceiakiihkaamaaDoorSpec
namespace Go.Proofs.YtceiakiihkaamaaDoor.Px
open Go.Proofs.YtceiakiihkaamaaDoor.Sp Go.RowKit Go.Proofs.YtceiakiihkaamaaDoorW.PrintWords Go.Proofs.YtceiakiihkaamaaDoorW.PrintLast Go.Proofs.YtceiakiihkaamaaDoorW.PrintMore
theorem sawtoothlaw11_EpochEight.pure : ∀ (a0 : Int), (Lit.int .u64 a0).wf = true → sawtoothlaw11_EpochEight.f a0 = some true := by
  intro a w1
  have h1 := wf_u64.1 w1
  unfold sawtoothlaw11_EpochEight.f sawtoothlaw11_awakeS.f
  have e : RowKit.wrap64 (Int.tmod a 8589934593) = a % 8589934593 := by rw [Int.tmod_eq_emod_of_nonneg h1.1, w64 (by omega)]
  rw [e]
  have g0 : 0 ≤ a % 8589934593 ∧ a % 8589934593 ≤ 8589934592 := by omega
  generalize a % 8589934593 = g at *
  have i8 : I (8 * g) := by omega
  have ig : I g := by omega
  have g1 : g ≤ 8589934592 := by omega
  rw [w64 i8, epoch_K.eq i8, epoch_K.eq ig]
  obtain ⟨k0, k1⟩ := kQ_eight g0.1 g1
  have kb := kQ_bd g
  generalize kQ g = n at *
  generalize kQ (8 * g) = m at *
  rw [Option.bind_some, Option.bind_some, Option.bind_some, if_pos rfl]
  have a1 : I (2 * n) := by omega
  have a2 : I (m - 2 * n) := by omega
  have a3 : m - 2 * n ≥ 0 := by omega
  have a4 : m - 2 * n ≤ 1 := by omega
  rw [w64 a1, w64 a2, if_pos a3, decide_eq_true a4]
end Go.Proofs.YtceiakiihkaamaaDoor.Px
