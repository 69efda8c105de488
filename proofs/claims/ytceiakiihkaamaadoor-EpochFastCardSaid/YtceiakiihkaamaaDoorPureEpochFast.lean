/- The law EpochFast, of the Lean functions alone: it answers true at every input. No conditions. -/
import Derived.Test.YtceiakiihkaamaaDoorPx30
import Derived.Test.YtceiakiihkaamaaDoorSpec
namespace Go.Proofs.YtceiakiihkaamaaDoor.Px
open Go.Proofs.YtceiakiihkaamaaDoor.Sp Go.RowKit Go.Proofs.YtceiakiihkaamaaDoorW.PrintWords Go.Proofs.YtceiakiihkaamaaDoorW.PrintLast Go.Proofs.YtceiakiihkaamaaDoorW.PrintMore
theorem sawtoothlaw11_EpochFast.pure : ∀ (a0 : Int) (a1 : Int), (Lit.int .i64 a0).wf = true → (Lit.int .u32 a1).wf = true → sawtoothlaw11_EpochFast.f a0 a1 = some true := by
  intro a b w1 w2
  have h1 := wf_i64.1 w1
  have h2 := wf_u32.1 w2
  unfold sawtoothlaw11_EpochFast.f sawtoothlaw11_awakeS.f
  rw [w64 (x := b) (by omega), epoch_FastS.eq h1 (by omega)]
  simp only [Option.bind_some, if_true]
  unfold fastQ
  by_cases c : b ≥ a
  · rw [if_pos c, if_pos c, if_pos rfl]
  · have q : 0 ≤ b * 17 / 20 ∧ b * 17 / 20 ≤ 4294967295 := by omega
    rw [if_neg c, if_neg c, if_pos (by omega)]
    rw [if_neg (show ¬ b < 0 by omega)]
    rw [w64 (x := 20 * (b * 17 / 20)) (by omega), w64 (x := 17 * b) (by omega), w64 (by omega), if_pos (by omega), decide_eq_true (by omega)]
end Go.Proofs.YtceiakiihkaamaaDoor.Px
