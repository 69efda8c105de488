/- The law EpochShifts, of the Lean functions alone: it answers true at every input. No conditions. -/
import Derived.Test.YtceiakiihkaamaaDoorPx30
import Derived.Test.YtceiakiihkaamaaDoorSpec
namespace Go.Proofs.YtceiakiihkaamaaDoor.Px
open Go.Proofs.YtceiakiihkaamaaDoor.Sp Go.RowKit Go.Proofs.YtceiakiihkaamaaDoorW.PrintWords Go.Proofs.YtceiakiihkaamaaDoorW.PrintLast Go.Proofs.YtceiakiihkaamaaDoorW.PrintMore
theorem sawtoothlaw11_EpochShifts.pure : ∀ (a0_0 : Bool) (a0_1 : Int) (a0_2 : Int) (a0_3 : Int) (a0_4 : Int) (a0_5 : Int) (a1 : Int) (a2 : Int), (Lit.int .i64 a0_1).wf = true → (Lit.int .i64 a0_2).wf = true → (Lit.int .i64 a0_3).wf = true → (Lit.int .i64 a0_4).wf = true → (Lit.int .i64 a0_5).wf = true → (Lit.int .u32 a1).wf = true → (Lit.int .u32 a2).wf = true → sawtoothlaw11_EpochShifts.f a0_0 a0_1 a0_2 a0_3 a0_4 a0_5 a1 a2 = some true := by
  intro on s f m k e a b w1 w2 w3 w4 w5 w6 w7
  have h1 := wf_i64.1 w1
  have h2 := wf_i64.1 w2
  have h3 := wf_i64.1 w3
  have h6 := wf_u32.1 w6
  have h7 := wf_u32.1 w7
  unfold sawtoothlaw11_EpochShifts.f sawtoothlaw11_awakeS.f
  have lb : ∀ x d : Int, I x → 0 ≤ d → I (laterQ on x d) := by intro x d hx hd; unfold laterQ; split <;> (try split) <;> omega
  rw [w64 (x := a) (by omega), w64 (x := b) (by omega), w64 (x := a + b) (by omega), epoch_ShiftS.eq h1 (by omega), epoch_ShiftS.eq h1 (by omega)]
  simp only [Option.bind_some]
  rw [epoch_ShiftS.eq (lb s a h1 h6.1) (by omega), epoch_CheckS.eq h1 h2 h3]
  simp only [Option.bind_some, if_true]
  rw [epoch_CheckS.eq (lb _ b (lb s a h1 h6.1) h7.1) h2 h3]
  simp only [Option.bind_some]
  cases on
  · have l : ∀ x d, laterQ false x d = x := by intro x d; unfold laterQ; simp
    simp only [l]
    by_cases o : eOk false s f m k e = true
    · rw [if_pos o, o]; simp
    · rw [if_neg o]; simp
  · by_cases o : eOk true s f m k e = true
    · have p := eOk_on.1 o
      unfold eOn at p
      have l2 : laterQ true (laterQ true s a) b = laterQ true s (a + b) := by
        unfold laterQ; simp only [true_and]; (repeat' split) <;> omega
      have l3 : s ≤ laterQ true s (a + b) ∧ laterQ true s (a + b) ≤ 1099511627776 := by
        unfold laterQ; simp only [true_and]; (repeat' split) <;> omega
      rw [l2]
      have o2 : eOk true (laterQ true s (a + b)) f m k e = true := eOk_on.2 (by unfold eOn; omega)
      rw [if_pos o, o2]
      simp
      omega
    · rw [if_neg o, if_pos rfl]
end Go.Proofs.YtceiakiihkaamaaDoor.Px
