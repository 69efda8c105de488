/- The law CubicTarget, of the Lean functions alone: it answers true at every input. No conditions. -/
import Derived.Test.YtgakpcfmgcpeaaaDoorPx42
import Derived.Test.YtgakpcfmgcpeaaaDoorSpec
namespace Go.Proofs.YtgakpcfmgcpeaaaDoor.Px
open Go.Proofs.YtgakpcfmgcpeaaaDoor.Sp Go.RowKit Go.Proofs.YtgakpcfmgcpeaaaDoorW.PrintWords Go.Proofs.YtgakpcfmgcpeaaaDoorW.PrintLast Go.Proofs.YtgakpcfmgcpeaaaDoorW.PrintMore
theorem sawtoothlaw12_CubicTarget.pure : ∀ (a0_0 : Bool) (a0_1 : Int) (a0_2 : Int) (a0_3 : Int) (a0_4 : Int) (a0_5 : Int) (a1 : Int) (a2 : Int), (Lit.int .i64 a0_1).wf = true → (Lit.int .i64 a0_2).wf = true → (Lit.int .i64 a0_3).wf = true → (Lit.int .i64 a0_4).wf = true → (Lit.int .i64 a0_5).wf = true → (Lit.int .i64 a1).wf = true → (Lit.int .u32 a2).wf = true → sawtoothlaw12_CubicTarget.f a0_0 a0_1 a0_2 a0_3 a0_4 a0_5 a1 a2 = some true := by
  intro on s f m k e now w w1 w2 w3 w4 w5 w6 w7
  have h1 := wf_i64.1 w1
  have h2 := wf_i64.1 w2
  have h3 := wf_i64.1 w3
  have h4 := wf_i64.1 w4
  have h6 := wf_i64.1 w6
  have h7 := wf_u32.1 w7
  unfold sawtoothlaw12_CubicTarget.f sawtoothlaw12_awakeS.f
  rw [w64 (x := w) (by omega)]
  have wd : RowKit.wrap64 (Int.tdiv w 2) = w / 2 := by rw [Int.tdiv_eq_ediv_of_nonneg (by omega), w64 (by omega)]
  rw [wd, w64 (x := w + w / 2) (by omega), cubic_TargetS.eq h1 h2 h3 h4 h6 (by omega), cubic_AtS.eq h1 h2 h3 h4 h6, epoch_CheckS.eq h1 h2 h3]
  have T1 : on = true ∧ eOk on s f m k e = true → targetQ on s f m k e now w = clamp (atQ on s f m k e now) w (w + w / 2) := by
    intro c
    unfold targetQ
    rw [if_neg (fun x => x.elim (by omega) (fun y => y c)), near_in (by omega)]
  have T2 : ¬ (on = true ∧ eOk on s f m k e = true) → targetQ on s f m k e now w = w := by
    intro c
    unfold targetQ
    rw [if_pos (Or.inr c)]
  generalize targetQ on s f m k e now w = T at *
  generalize atQ on s f m k e now = A at *
  generalize eOk on s f m k e = o at *
  simp only [Option.bind_some, if_true]
  cases o
  · have t := T2 (by simp)
    subst t
    have a1 : T ≤ T + T / 2 := by omega
    simp [a1]
  · cases on
    · have t := T2 (by simp)
      subst t
      have a1 : T ≤ T + T / 2 := by omega
      simp [a1]
    · have t := T1 (by simp)
      have b : w ≤ T ∧ T ≤ w + w / 2 ∧ (A < w → T = w) ∧ (w ≤ A → A ≤ w + w / 2 → T = A) := by
        rw [t]; unfold clamp; (repeat' split) <;> omega
      have b1 : T ≥ w := b.1
      clear t T1 T2
      rw [if_pos rfl, if_pos b1, if_pos b.2.1, if_pos rfl]
      (repeat' split) <;> first | rfl | (exfalso; omega) | (rw [show (T == w) = true from beq_iff_eq.mpr (by omega)])
end Go.Proofs.YtgakpcfmgcpeaaaDoor.Px
