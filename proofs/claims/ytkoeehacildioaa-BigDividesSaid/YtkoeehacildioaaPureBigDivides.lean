/- The law BigDivides, of the Lean functions alone: it answers true at every input. No conditions. -/
import Derived.Test.YtkoeehacildioaaPx35
import Derived.Test.YtkoeehacildioaaSpec
namespace Go.Proofs.Ytkoeehacildioaa.Px
open Go.Proofs.Ytkoeehacildioaa.Sp Go.RowKit Go.Proofs.YtkoeehacildioaaW.PrintWords Go.Proofs.YtkoeehacildioaaW.PrintLast Go.Proofs.YtkoeehacildioaaW.PrintMore
theorem sawtoothlaw02_BigDivides.pure : ∀ (a0_0 : Bool) (a0_1 : Int) (a0_2 : Int) (a1 : Int), (Lit.int .u64 a0_1).wf = true → (Lit.int .u64 a0_2).wf = true → (Lit.int .u64 a1).wf = true → ∃ k, sawtoothlaw02_BigDivides.f k a0_0 a0_1 a0_2 a1 = some true := by
  intro n h l d w1 w2 w3
  have h1 := wf_u64.1 w1
  have h2 := wf_u64.1 w2
  have h3 := wf_u64.1 w3
  have hB := val_B (n := n) h1 h2
  refine ⟨1, ?_⟩
  unfold sawtoothlaw02_BigDivides.f sawtoothlaw02_awakeS.f
  simp only [Option.bind_some]
  rw [big_DivS.eq h1 h2 h3]
  by_cases hd : d = 0
  · subst hd
    rw [quo_zero]
    simp [sawtoothlaw02_BigDivides.j0]
  have hp : 0 < d := by omega
  rw [quo_pos hd]
  simp only [Option.bind_some]
  rw [if_neg hd]
  simp only [sawtoothlaw02_BigDivides.j0, bne_self_eq_false, Bool.false_eq_true, if_false]
  rw [big_CmpS.eq h1 h2 (by omega) (by omega), val_f]
  simp only [Option.bind_some, Int.zero_mul, Int.add_zero]
  have r0 := Int.emod_nonneg (val n h l) hd
  have r1 := Int.emod_lt_of_pos (val n h l) hp
  have r2 := Int.emod_add_ediv_mul (val n h l) d
  have hq : B (val n h l / d) := div_B hB hp
  have hcm : ∀ v : Int, B v → big_CmpS.f (encN v) (encH v) (encL v) n h l = some (cmpI v (val n h l)) := fun v hv => big_CmpS.el hv h1 h2
  generalize hv : val n h l = v at *
  by_cases hs : 0 ≤ v
  · have : cmpI v 0 ≥ 0 := by unfold cmpI; rw [if_neg (by omega)]; split <;> omega
    rw [if_pos this, big_ScaleS.enc hq h3]
    have hq0 : 0 ≤ v / d * d := Int.mul_nonneg (Int.ediv_nonneg hs (by omega)) (by omega)
    rw [held_in (by omega)]
    simp only [Option.bind_some]
    rw [big_AddS.el (by omega) (by omega) (by omega), val_f, held_in (by omega)]
    simp only [Option.bind_some]
    rw [hcm _ (by omega), cmpI_eq (by omega)]
    simp [r1]
  · have : ¬ cmpI v 0 ≥ 0 := by rw [cmpI_lt (by omega)]; omega
    have hq1 : v / d < 0 := Int.ediv_neg_of_neg_of_pos (by omega) hp
    rw [if_neg this, big_OfS.eq (by omega)]
    simp only [Option.bind_some]
    rw [big_AddS.enc hq (by omega), held_in (by omega)]
    simp only [Option.bind_some]
    have hm : (v / d + 1) * d = v / d * d + d := by rw [Int.add_mul]; omega
    rw [big_ScaleS.enc (by omega) h3, hm, held_in (by omega)]
    simp only [Option.bind_some]
    rw [big_AddS.eq (by omega) (by omega) (by omega) h3, val_f, val_t, held_in (by omega)]
    simp only [Option.bind_some]
    rw [big_AddS.enc (by omega) (by omega), held_in (by omega)]
    simp only [Option.bind_some]
    rw [hcm _ (by omega), cmpI_eq (by omega)]
    simp [r1]
end Go.Proofs.Ytkoeehacildioaa.Px
