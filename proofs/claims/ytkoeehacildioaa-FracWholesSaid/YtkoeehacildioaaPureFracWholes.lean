/- The law FracWholes, of the Lean functions alone: it answers true at every input. No conditions. -/
import Derived.Test.YtkoeehacildioaaPx39
import Derived.Test.YtkoeehacildioaaSpec
namespace Go.Proofs.Ytkoeehacildioaa.Px
open Go.Proofs.Ytkoeehacildioaa.Sp Go.RowKit Go.Proofs.YtkoeehacildioaaW.PrintWords Go.Proofs.YtkoeehacildioaaW.PrintLast Go.Proofs.YtkoeehacildioaaW.PrintMore
theorem sawtoothlaw04_FracWholes.pure : ∀ (a0 : Int) (a1 : Int), (Lit.int .u32 a0).wf = true → (Lit.int .u16 a1).wf = true → sawtoothlaw04_FracWholes.f a0 a1 = some true := by
  intro n s w1 w2
  have h1 := wf_u32.1 w1
  have h2 := wf_u16.1 w2
  have p1 := mul_le (a := n) (b := 1 + s) (A := 4294967295) (C := 65536) (by omega) (by omega) (by omega) (by omega)
  unfold sawtoothlaw04_FracWholes.f sawtoothlaw04_awakeS.f frac_Whole.f
  rw [w64 (x := n) (by omega), w64 (x := s) (by omega), w64 (x := 1 + s) (by omega), w64 (x := n * (1 + s)) (by omega), w64 (x := 65536 * n) (by omega)]
  simp only [Option.bind_some]
  have e1 : 65536 * n * (1 + s) / 65536 = n * (1 + s) := by rw [Int.mul_assoc]; exact Int.mul_ediv_cancel_left _ (by omega)
  have e2 : n * (1 + s) * 65536 / (1 + s) = 65536 * n := by rw [Int.mul_right_comm, Int.mul_ediv_cancel _ (by omega)]; omega
  rw [frac_BytesS.eq (by omega) (by omega), floorQ_in (by omega) (by rw [e1]; omega), e1, frac_SegsS.eq (by omega) (by omega), floorQ_in (by omega) (by rw [e2]; omega), e2]
  simp
end Go.Proofs.Ytkoeehacildioaa.Px
