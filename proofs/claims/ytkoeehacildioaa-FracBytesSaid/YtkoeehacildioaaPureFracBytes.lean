/- The law FracBytes, of the Lean functions alone: it answers true at every input. No conditions. -/
import Derived.Test.YtkoeehacildioaaPx39
import Derived.Test.YtkoeehacildioaaSpec
namespace Go.Proofs.Ytkoeehacildioaa.Px
open Go.Proofs.Ytkoeehacildioaa.Sp Go.RowKit Go.Proofs.YtkoeehacildioaaW.PrintWords Go.Proofs.YtkoeehacildioaaW.PrintLast Go.Proofs.YtkoeehacildioaaW.PrintMore
theorem sawtoothlaw04_FracBytes.pure : ∀ (a0 : Int) (a1 : Int), (Lit.int .u32 a0).wf = true → (Lit.int .u16 a1).wf = true → sawtoothlaw04_FracBytes.f a0 a1 = some true := by
  intro n s w1 w2
  have h1 := wf_u32.1 w1
  have h2 := wf_u16.1 w2
  have hp : 0 < 1 + s := by omega
  unfold sawtoothlaw04_FracBytes.f sawtoothlaw04_awakeS.f frac_Whole.f
  rw [w64 (x := n) (by omega), w64 (x := s) (by omega), w64 (x := 1 + s) (by omega)]
  simp only [Option.bind_some]
  have a1 := Int.emod_nonneg (n * 65536) (show 1 + s ≠ 0 by omega)
  have a2 := Int.emod_lt_of_pos (n * 65536) hp
  have a3 := Int.emod_add_ediv_mul (n * 65536) (1 + s)
  have a4 := Int.ediv_nonneg (show 0 ≤ n * 65536 by omega) (show 0 ≤ 1 + s by omega)
  have a5 := Int.ediv_le_self (1 + s) (show 0 ≤ n * 65536 by omega)
  have e1 : 65536 * (1 + s) / 65536 = 1 + s := by omega
  have e2 : n * 65536 / (1 + s) / 65536 = n / (1 + s) := by rw [Int.ediv_ediv_of_nonneg (by omega), Int.mul_ediv_mul_of_pos_left _ _ (by omega)]
  rw [frac_SegsS.eq (by omega) (by omega), floorQ_in hp (by omega)]
  simp only [Option.bind_some]
  have b1 := Int.ediv_nonneg (show 0 ≤ n by omega) (show 0 ≤ 1 + s by omega)
  have b2 := Int.ediv_le_self (1 + s) (show 0 ≤ n by omega)
  generalize n * 65536 / (1 + s) = q at *
  rw [frac_BytesS.eq (by omega) (by omega), floorQ_in (by omega) (by omega), frac_BytesS.eq (by omega) (by omega), floorQ_in (by omega) (by omega), e1]
  simp only [Option.bind_some]
  rw [w64 (x := n - q * (1 + s) / 65536) (by omega), Int.tdiv_eq_ediv_of_nonneg (by omega), w64 (x := n / (1 + s)) (by omega)]
  simp [e2]
  omega
end Go.Proofs.Ytkoeehacildioaa.Px
