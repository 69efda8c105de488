/- The law GuidePause, of the Lean functions alone: it answers true at every input. No conditions. -/
import Derived.Test.YtbpcfamjidjhjaaDoorPx43
import Derived.Test.YtbpcfamjidjhjaaDoorSpec
namespace Go.Proofs.YtbpcfamjidjhjaaDoor.Px
open Go.Proofs.YtbpcfamjidjhjaaDoor.Sp Go.RowKit Go.Proofs.YtbpcfamjidjhjaaDoorW.PrintWords Go.Proofs.YtbpcfamjidjhjaaDoorW.PrintLast Go.Proofs.YtbpcfamjidjhjaaDoorW.PrintMore
theorem sawtoothlaw19_GuidePause.pure : ∀ (a0_0 : Bool) (a0_1 : Int) (a0_2 : Int) (a0_3 : Int) (a0_4 : Int) (a0_5 : Int) (a1 : Int) (a2 : Int), (Lit.int .i64 a0_1).wf = true → (Lit.int .i64 a0_2).wf = true → (Lit.int .i64 a0_3).wf = true → (Lit.int .i64 a0_4).wf = true → (Lit.int .i64 a0_5).wf = true → (Lit.int .u32 a1).wf = true → (Lit.int .u32 a2).wf = true → sawtoothlaw19_GuidePause.f a0_0 a0_1 a0_2 a0_3 a0_4 a0_5 a1 a2 = some true := by
  intro on s f m k e a b w1 w2 w3 w4 w5 w6 w7
  have h1 := wf_i64.1 w1
  have h2 := wf_i64.1 w2
  have h3 := wf_i64.1 w3
  have h6 := wf_u32.1 w6
  have h7 := wf_u32.1 w7
  unfold sawtoothlaw19_GuidePause.f sawtoothlaw19_awakeS.f guide_Pause.f sawtoothlaw19_on.f
  rw [epoch_CheckS.eq h1 h2 h3, w64 (x := a) (by omega), w64 (x := b) (by omega), w64 (x := b - a) (by omega), safe_SubS.eq (by omega) (by omega), near_in (by omega)]
  simp only [Option.bind_some]
  rw [epoch_ShiftS.eq h1 (by omega)]
  simp only [Option.bind_some]
  by_cases o : eOk on s f m k e = true
  · rw [if_pos o]
    cases on
    · have l : laterQ false s (b - a) = s := by unfold laterQ; simp
      have s0 := (eOk_off.1 o).1
      rw [l, if_pos trivial, epoch_CheckS.eq h1 h2 h3, o]
      simp only [Option.bind_some, if_true]
      subst s0
      simp [mn, mx, wrap64]
    · have p := eOk_on.1 o
      unfold eOn at p
      have l3 : s ≤ laterQ true s (b - a) ∧ laterQ true s (b - a) ≤ 1099511627776 ∧ laterQ true s (b - a) = mn (s + mx (b - a) 0) (mx 1099511627776 s) ∧ (mx (b - a) 0 > 0 ∨ laterQ true s (b - a) = s) := by
        unfold laterQ mn mx; simp only [true_and]; (repeat' split) <;> omega
      have mb : 0 ≤ mx (b - a) 0 ∧ mx (b - a) 0 < 4294967296 := by unfold mx; split <;> omega
      have o2 : eOk true (laterQ true s (b - a)) f m k e = true := eOk_on.2 (by unfold eOn; omega)
      rw [if_pos trivial, epoch_CheckS.eq (by omega) h2 h3, o2]
      simp only [Option.bind_some, if_true]
      generalize mx (b - a) 0 = q at *
      generalize laterQ true s (b - a) = L at *
      rw [Int.mul_one, w64 (x := q) (by omega), w64 (x := s + q) (by omega), if_pos l3.2.2.1]
      by_cases c : q > 0
      · rw [if_pos c]
      · rw [if_neg c]
        have : L = s := by omega
        subst this
        simp
  · rw [if_neg o]
end Go.Proofs.YtbpcfamjidjhjaaDoor.Px
