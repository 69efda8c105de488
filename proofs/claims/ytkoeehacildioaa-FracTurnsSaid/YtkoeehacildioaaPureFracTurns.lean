/- The law FracTurns, of the Lean functions alone: it answers true at every input. No conditions. -/
import Derived.Test.YtkoeehacildioaaPx39
import Derived.Test.YtkoeehacildioaaSpec
namespace Go.Proofs.Ytkoeehacildioaa.Px
open Go.Proofs.Ytkoeehacildioaa.Sp Go.RowKit Go.Proofs.YtkoeehacildioaaW.PrintWords Go.Proofs.YtkoeehacildioaaW.PrintLast Go.Proofs.YtkoeehacildioaaW.PrintMore
theorem sawtoothlaw04_FracTurns.pure : ∀ (a0 : Int) (a1 : Int) (a2 : Int), (Lit.int .i32 a0).wf = true → (Lit.int .i64 a1).wf = true → (Lit.int .i64 a2).wf = true → sawtoothlaw04_FracTurns.f a0 a1 a2 = some true := by
  intro a b c w1 w2 w3
  have h1 := wf_i32.1 w1
  have h2 := wf_i64.1 w2
  have h3 := wf_i64.1 w3
  unfold sawtoothlaw04_FracTurns.f sawtoothlaw04_awakeS.f
  rw [w64 (x := a) (by omega), w64 (x := -a) (by omega)]
  simp only [Option.bind_some]
  have hc : floorQ b a c = floorQ a b c := by unfold floorQ; rw [Int.mul_comm]
  rw [frac_FloorS.eq (by omega) h2 h3, frac_CeilS.eq (by omega) h2 h3, frac_FloorS.eq h2 (by omega) h3, hc]
  unfold floorQ ceilQ
  by_cases hp : c < 1
  · rw [if_pos hp, if_pos hp]; rfl
  · rw [if_neg hp, if_neg hp, show -(-a * b) = a * b by rw [Int.neg_mul, Int.neg_neg]]
    generalize a * b / c = q
    unfold fit
    by_cases i1 : I q
    · by_cases i2 : I (-q)
      · rw [if_pos i1, if_pos i2]
        simp only [Option.bind_some, if_true]
        rw [w64 (x := - -q) (by omega)]; simp
      · rw [if_pos i1, if_neg i2]; simp
    · rw [if_neg i1]
      split <;> simp
end Go.Proofs.Ytkoeehacildioaa.Px
