/- The law FracParts, of the Lean functions alone: it answers true at every input. No conditions. -/
import Derived.Test.YtkoeehacildioaaPx30
import Derived.Test.YtkoeehacildioaaSpec
namespace Go.Proofs.Ytkoeehacildioaa.Px
open Go.Proofs.Ytkoeehacildioaa.Sp Go.RowKit Go.Proofs.YtkoeehacildioaaW.PrintWords Go.Proofs.YtkoeehacildioaaW.PrintLast Go.Proofs.YtkoeehacildioaaW.PrintMore
theorem sawtoothlaw04_FracParts.pure : ∀ (a0 : Int) (a1 : Int) (a2 : Int), (Lit.int .i64 a0).wf = true → (Lit.int .i64 a1).wf = true → (Lit.int .i64 a2).wf = true → ∃ k, sawtoothlaw04_FracParts.f k a0 a1 a2 = some true := by
  intro a b c w1 w2 w3
  have h1 := wf_i64.1 w1
  have h2 := wf_i64.1 w2
  have h3 := wf_i64.1 w3
  refine ⟨1, ?_⟩
  unfold sawtoothlaw04_FracParts.f sawtoothlaw04_awakeS.f
  simp only [Option.bind_some]
  rw [frac_FloorS.eq h1 h2 h3, frac_NearS.eq h1 h2 h3, frac_CeilS.eq h1 h2 h3]
  unfold floorQ nearQ ceilQ
  by_cases hc : c < 1
  · simp only [if_pos hc, Option.bind_some]
    simp [sawtoothlaw04_FracParts.j0, hc]
  have hp : 0 < c := by omega
  have hm := mulI h1 h2
  simp only [if_neg hc]
  rw [ceil_up _ hp]
  have f1 : a * b / c * c ≤ a * b := Int.ediv_mul_le _ (by omega)
  have f2 : a * b + (c - 1) < ((a * b + (c - 1)) / c + 1) * c := Int.lt_ediv_add_one_mul_self _ hp
  have f3 : a * b / c ≤ (a * b + c / 2) / c := Int.ediv_le_ediv hp (by omega)
  have f4 : (a * b + c / 2) / c ≤ (a * b + (c - 1)) / c := Int.ediv_le_ediv hp (by omega)
  have f5 : (a * b + (c - 1)) / c ≤ a * b / c + 1 := by
    have : (a * b + c) / c = a * b / c + 1 := Int.add_ediv_of_dvd_right (Int.dvd_refl c) |>.trans (by rw [Int.ediv_self (by omega)])
    rw [← this]; exact Int.ediv_le_ediv hp (by omega)
  rw [Int.add_mul, Int.one_mul] at f2
  have key : ∀ x9 x11 x13 x8 x10 x12 : Int, (x9 = 0 ∨ x9 = 10 ∧ x8 = 0) → (x11 = 0 ∨ x11 = 10 ∧ x10 = 0) → (x13 = 0 ∨ x13 = 10 ∧ x12 = 0) → sawtoothlaw04_FracParts.j0 1 a b c true x8 x9 x10 x11 x12 x13 true = some true := by
    intro x9 x11 x13 x8 x10 x12 g1 g2 g3
    rcases g1 with rfl | ⟨rfl, rfl⟩ <;> rcases g2 with rfl | ⟨rfl, rfl⟩ <;> rcases g3 with rfl | ⟨rfl, rfl⟩ <;> simp [sawtoothlaw04_FracParts.j0, hc]
  generalize hp1 : a * b / c = q1 at *
  generalize (a * b + c / 2) / c = q2 at *
  generalize (a * b + (c - 1)) / c = q3 at *
  by_cases i1 : I q1
  · by_cases i2 : I q2
    · by_cases i3 : I q3
      · rw [fit_in i1, fit_in i2, fit_in i3]
        simp only [Option.bind_some, if_true]
        have m1 := mulI i1 h3
        have m3 := mulI i3 h3
        rw [show ((0 : Int) != 0) = false from rfl]
        simp only [sawtoothlaw04_FracParts.j0, Bool.false_eq_true, if_false, if_true]
        unfold sawtoothref02_MulS.f sawtoothref02_CmpS.f
        rw [mulF_eq h1 h2]
        simp only [Option.bind_some]
        rw [if_pos f3, if_pos f4, w64 (x := q3 - q1) (by omega), if_pos (by omega), mulF_eq i1 h3]
        simp only [Option.bind_some]
        rw [cmpF_enc (by omega) (by omega)]
        simp only [Option.bind_some]
        rw [if_pos (by unfold cmpI; split <;> (try split) <;> omega), mulF_eq i3 h3]
        simp only [Option.bind_some]
        rw [cmpF_enc (by omega) (by omega)]
        simp only [Option.bind_some]
        rw [decide_eq_true (by unfold cmpI; split <;> (try split) <;> omega)]
      · rw [fit_in i1, fit_in i2, fit_out i3]
        simp only [Option.bind_some, if_true]
        exact key _ _ _ _ _ _ (Or.inl rfl) (Or.inl rfl) (Or.inr ⟨rfl, rfl⟩)
    · have e3 : fit q3 = some (if I q3 then q3 else 0, if I q3 then 0 else 10) := by unfold fit; split <;> rfl
      rw [fit_in i1, fit_out i2, e3]
      simp only [Option.bind_some, if_true]
      rw [if_neg (by omega)]
      refine key _ _ _ _ _ _ (Or.inl rfl) (Or.inr ⟨rfl, rfl⟩) ?_
      by_cases i3 : I q3
      · rw [if_pos i3]; exact Or.inl rfl
      · rw [if_neg i3, if_neg i3]; exact Or.inr ⟨rfl, rfl⟩
  · have e2 : fit q2 = some (if I q2 then q2 else 0, if I q2 then 0 else 10) := by unfold fit; split <;> rfl
    have e3 : fit q3 = some (if I q3 then q3 else 0, if I q3 then 0 else 10) := by unfold fit; split <;> rfl
    rw [fit_out i1, e2, e3]
    simp only [Option.bind_some]
    rw [if_neg (by omega)]
    refine key _ _ _ _ _ _ (Or.inr ⟨rfl, rfl⟩) ?_ ?_
    · by_cases i2 : I q2
      · rw [if_pos i2]; exact Or.inl rfl
      · rw [if_neg i2, if_neg i2]; exact Or.inr ⟨rfl, rfl⟩
    · by_cases i3 : I q3
      · rw [if_pos i3]; exact Or.inl rfl
      · rw [if_neg i3, if_neg i3]; exact Or.inr ⟨rfl, rfl⟩
end Go.Proofs.Ytkoeehacildioaa.Px
