/- The law EpochRoot, of the Lean functions alone: it answers true at every input. No conditions. -/
import Derived.Test.YtceiakiihkaamaaDoorPx30
import Derived.Test.YtceiakiihkaamaaDoorSpec
namespace Go.Proofs.YtceiakiihkaamaaDoor.Px
open Go.Proofs.YtceiakiihkaamaaDoor.Sp Go.RowKit Go.Proofs.YtceiakiihkaamaaDoorW.PrintWords Go.Proofs.YtceiakiihkaamaaDoorW.PrintLast Go.Proofs.YtceiakiihkaamaaDoorW.PrintMore
theorem sawtoothlaw11_EpochRoot.pure : ∀ (a0 : Int), (Lit.int .u64 a0).wf = true → sawtoothlaw11_EpochRoot.f a0 = some true := by
  intro a w1
  have h1 := wf_u64.1 w1
  unfold sawtoothlaw11_EpochRoot.f sawtoothlaw11_awakeS.f
  have e : RowKit.wrap64 (Int.tmod a 68719476737) = a % 68719476737 := by rw [Int.tmod_eq_emod_of_nonneg h1.1, w64 (by omega)]
  rw [e]
  have g0 : 0 ≤ a % 68719476737 ∧ a % 68719476737 ≤ 68719476736 := by omega
  generalize a % 68719476737 = g at *
  have kb := kQ_bd g
  have k1 := (kQ_le (n := kQ g) g0.1 g0.2 kb.1).2 (Int.le_refl _)
  have k2 := mt (kQ_le (n := kQ g + 1) g0.1 g0.2 (by omega)).1 (by omega)
  rw [epoch_K.eq (by omega)]
  simp only [Option.bind_some]
  generalize kQ g = n at *
  have p1 := mul_le (A := 4294967296) (C := 4294967296) kb.1 (show n ≤ 4294967296 by omega) kb.1 (show n ≤ 4294967296 by omega)
  have p2 := mul_le (A := 18446744073709551616) (C := 4294967296) p1.1 p1.2 kb.1 (show n ≤ 4294967296 by omega)
  have n1 : 0 ≤ n + 1 := by omega
  have q1 := mul_le (A := 4294967296) (C := 4294967296) n1 (show n + 1 ≤ 4294967296 by omega) n1 (show n + 1 ≤ 4294967296 by omega)
  have q2 := mul_le (A := 18446744073709551616) (C := 4294967296) q1.1 q1.2 n1 (show n + 1 ≤ 4294967296 by omega)
  rw [u64w_in (x := n) (by omega), u64w_in (x := n + 1) (by omega), root_CubeS.eq (by omega), held_in (by omega)]
  simp only [Option.bind_some]
  rw [root_CubeS.eq (by omega), held_in (by omega)]
  simp only [Option.bind_some]
  rw [big_ScaleS.enc (by omega) (by omega), held_in (by omega)]
  simp only [Option.bind_some]
  rw [big_ScaleS.enc (by omega) (by omega), held_in (by omega), big_OfS.eq (by omega)]
  simp only [Option.bind_some]
  rw [big_ScaleS.enc (by omega) (by omega), held_in (by omega)]
  simp only [Option.bind_some, if_true]
  rw [big_CmpS.enc (by omega) (by omega), big_CmpS.enc (by omega) (by omega)]
  simp only [Option.bind_some]
  rw [if_pos (show cmpI (n * n * n * 262144) (g * 10000000000000000000) ≤ 0 by unfold cmpI; split <;> (try split) <;> omega), cmpI_gt (by omega)]
  rfl
end Go.Proofs.YtceiakiihkaamaaDoor.Px
