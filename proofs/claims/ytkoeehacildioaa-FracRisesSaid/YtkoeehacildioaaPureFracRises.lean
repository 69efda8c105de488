/- The law FracRises, of the Lean functions alone: it answers true at every input. No conditions. -/
import Derived.Test.YtkoeehacildioaaPx39
import Derived.Test.YtkoeehacildioaaSpec
namespace Go.Proofs.Ytkoeehacildioaa.Px
open Go.Proofs.Ytkoeehacildioaa.Sp Go.RowKit Go.Proofs.YtkoeehacildioaaW.PrintWords Go.Proofs.YtkoeehacildioaaW.PrintLast Go.Proofs.YtkoeehacildioaaW.PrintMore
theorem sawtoothlaw04_FracRises.pure : ∀ (a0 : Int) (a1 : Int) (a2 : Int) (a3 : Int) (a4 : Int), (Lit.int .i64 a0).wf = true → (Lit.int .i64 a1).wf = true → (Lit.int .i64 a2).wf = true → (Lit.int .i64 a3).wf = true → (Lit.int .i32 a4).wf = true → sawtoothlaw04_FracRises.f a0 a1 a2 a3 a4 = some true := by
  intro a b c d s w1 w2 w3 w4 w5
  have h1 := wf_i64.1 w1
  have h2 := wf_i64.1 w2
  have h3 := wf_i64.1 w3
  have h4 := wf_i64.1 w4
  have h5 := wf_i32.1 w5
  unfold sawtoothlaw04_FracRises.f sawtoothlaw04_awakeS.f frac_Whole.f
  have t1 : Int.tmod a 1099511627776 ≤ 1099511627775 ∧ -1099511627775 ≤ Int.tmod a 1099511627776 := by
    have e := Int.tmod_def a 1099511627776
    by_cases h : 0 ≤ a
    · rw [Int.tmod_eq_emod_of_nonneg h]; omega
    · have : Int.tmod a 1099511627776 = -(Int.tmod (-a) 1099511627776) := by rw [Int.neg_tmod, Int.neg_neg]
      rw [this, Int.tmod_eq_emod_of_nonneg (by omega)]; omega
  generalize Int.tmod a 1099511627776 = t at *
  rw [w64 (x := s) (by omega), w64 (x := 65536 * s) (by omega), w64 (x := t + 65536 * s) (by omega)]
  simp only [Option.bind_some]
  rw [w64 (x := t / 65536 + s) (by omega)]
  have e0 : (t + 65536 * s) / 65536 = t / 65536 + s := by omega
  have m1 : mn a b ≤ mx a b := by unfold mn mx; split <;> split <;> omega
  have m2 : I (mn a b) := by unfold mn; split <;> omega
  have m3 : I (mx a b) := by unfold mx; split <;> omega
  have m4 : I (mx c 0) ∧ 0 ≤ mx c 0 := by unfold mx; split <;> omega
  rw [frac_FloorS.eq m2 m4.1 h4, frac_FloorS.eq m3 m4.1 h4, e0]
  generalize mn a b = x at *
  generalize mx a b = y at *
  generalize mx c 0 = k at *
  unfold floorQ
  by_cases hp : d < 1
  · rw [if_pos hp, if_pos hp]; simp
  · rw [if_neg hp, if_neg hp]
    have hm : x * k / d ≤ y * k / d := Int.ediv_le_ediv (by omega) (Int.mul_le_mul_of_nonneg_right m1 m4.2)
    generalize x * k / d = q1 at *
    generalize y * k / d = q2 at *
    unfold fit
    by_cases i1 : I q1
    · by_cases i2 : I q2
      · rw [if_pos i1, if_pos i2]; simp [hm]
      · rw [if_pos i1, if_neg i2]; simp
    · rw [if_neg i1]; by_cases i2 : I q2
      · rw [if_pos i2]; simp
      · rw [if_neg i2]; simp
end Go.Proofs.Ytkoeehacildioaa.Px
