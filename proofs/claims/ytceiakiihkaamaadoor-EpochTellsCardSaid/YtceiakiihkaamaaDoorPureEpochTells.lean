/- The law EpochTells, of the Lean functions alone: it answers true at every input. No conditions. -/
import Derived.Test.YtceiakiihkaamaaDoorPx41
import Derived.Test.YtceiakiihkaamaaDoorSpec
namespace Go.Proofs.YtceiakiihkaamaaDoor.Px
open Go.Proofs.YtceiakiihkaamaaDoor.Sp Go.RowKit Go.Proofs.YtceiakiihkaamaaDoorW.PrintWords Go.Proofs.YtceiakiihkaamaaDoorW.PrintLast Go.Proofs.YtceiakiihkaamaaDoorW.PrintMore
theorem sawtoothlaw11_EpochTells.pure : ∀ (a0_0 : Bool) (a0_1 : Int) (a0_2 : Int) (a0_3 : Int) (a0_4 : Int) (a0_5 : Int) (a1 : Int) (a2 : Int) (a3 : Int), (Lit.int .i64 a0_1).wf = true → (Lit.int .i64 a0_2).wf = true → (Lit.int .i64 a0_3).wf = true → (Lit.int .i64 a0_4).wf = true → (Lit.int .i64 a0_5).wf = true → (Lit.int .i64 a1).wf = true → (Lit.int .i64 a2).wf = true → (Lit.int .i64 a3).wf = true → sawtoothlaw11_EpochTells.f a0_0 a0_1 a0_2 a0_3 a0_4 a0_5 a1 a2 a3 = some true := by
  intro on s f m k e a b c w1 w2 w3 w4 w5 w6 w7 w8
  have h1 := wf_i64.1 w1
  have h2 := wf_i64.1 w2
  have h3 := wf_i64.1 w3
  have h6 := wf_i64.1 w6
  have h7 := wf_i64.1 w7
  have h8 := wf_i64.1 w8
  unfold sawtoothlaw11_EpochTells.f sawtoothlaw11_awakeS.f
  rw [epoch_BeginS.eq h6 h7 h8, sawtoothref11_BeginS.eq h6 h7 h8, epoch_K.eq h6, sawtoothref11_KS.eq h6, epoch_FastS.eq h6 h7, sawtoothref11_FastS.eq h6 h7, epoch_CheckS.eq h1 h2 h3, sawtoothref11_CheckS.eq h1 h2 h3, epoch_ShiftS.eq h1 h6, sawtoothref11_ShiftS.eq h1 h6]
  simp
end Go.Proofs.YtceiakiihkaamaaDoor.Px
