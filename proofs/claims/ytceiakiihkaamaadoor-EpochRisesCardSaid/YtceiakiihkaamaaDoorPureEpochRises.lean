/- The law EpochRises, of the Lean functions alone: it answers true at every input. No conditions. -/
import Derived.Test.YtceiakiihkaamaaDoorPx30
import Derived.Test.YtceiakiihkaamaaDoorSpec
namespace Go.Proofs.YtceiakiihkaamaaDoor.Px
open Go.Proofs.YtceiakiihkaamaaDoor.Sp Go.RowKit Go.Proofs.YtceiakiihkaamaaDoorW.PrintWords Go.Proofs.YtceiakiihkaamaaDoorW.PrintLast Go.Proofs.YtceiakiihkaamaaDoorW.PrintMore
theorem sawtoothlaw11_EpochRises.pure : ∀ (a0 : Int) (a1 : Int), (Lit.int .i64 a0).wf = true → (Lit.int .i64 a1).wf = true → sawtoothlaw11_EpochRises.f a0 a1 = some true := by
  intro a b w1 w2
  have h1 := wf_i64.1 w1
  have h2 := wf_i64.1 w2
  unfold sawtoothlaw11_EpochRises.f sawtoothlaw11_awakeS.f
  have i1 : I (mn a b) := by unfold mn; split <;> omega
  have i2 : I (mx a b) := by unfold mx; split <;> omega
  have i3 : I (mx a 68719476736) := by unfold mx; split <;> omega
  have i4 : I (mn a 0) := by unfold mn; split <;> omega
  have m1 : mn a b ≤ mx a b := by unfold mn mx; split <;> split <;> omega
  have k0 := kQ_bd a
  have top : ∀ x, kQ x ≤ kQ 68719476736 := by
    intro x
    unfold kQ
    have c := clamp_bd (a := x) (low := 0) (high := 68719476736) (by omega)
    rw [clamp_in (a := 68719476736) (by omega) (by omega)]
    exact root3_mono (by omega) (by omega)
  have eq : kQ (mx a 68719476736) = kQ 68719476736 := by
    have a1 := top (mx a 68719476736)
    have a2 := kQ_mono (a := 68719476736) (b := mx a 68719476736) (by unfold mx; split <;> omega)
    omega
  have z : kQ (mn a 0) = 0 := kQ_low (by unfold mn; split <;> omega)
  simp only [Option.bind_some, if_true]
  rw [epoch_K.eq i1, epoch_K.eq i2, epoch_K.eq h1, epoch_K.eq (a := 68719476736) (by omega), epoch_K.eq i3, epoch_K.eq i4]
  simp only [Option.bind_some]
  rw [if_pos (kQ_mono m1), if_pos (show kQ a ≥ 0 from k0.1), if_pos (top a), if_pos eq, z]
  rfl
end Go.Proofs.YtceiakiihkaamaaDoor.Px
