/- The law GuideUsed, of the Lean functions alone: it answers true at every input. No conditions. -/
import Derived.Test.YtbpcfamjidjhjaaDoorPx39
import Derived.Test.YtbpcfamjidjhjaaDoorSpec
namespace Go.Proofs.YtbpcfamjidjhjaaDoor.Px
open Go.Proofs.YtbpcfamjidjhjaaDoor.Sp Go.RowKit Go.Proofs.YtbpcfamjidjhjaaDoorW.PrintWords Go.Proofs.YtbpcfamjidjhjaaDoorW.PrintLast Go.Proofs.YtbpcfamjidjhjaaDoorW.PrintMore
theorem sawtoothlaw19_GuideUsed.pure : ∀ (a0 : Int) (a1 : Int) (a2 : Int) (a3 : Int), (Lit.int .u32 a0).wf = true → (Lit.int .u32 a1).wf = true → (Lit.int .u32 a2).wf = true → (Lit.int .u16 a3).wf = true → sawtoothlaw19_GuideUsed.f a0 a1 a2 a3 = some true := by
  intro w a b s w1 w2 w3 w4
  have h1 := wf_u32.1 w1
  have h2 := wf_u32.1 w2
  have h3 := wf_u32.1 w3
  have h4 := wf_u16.1 w4
  unfold sawtoothlaw19_GuideUsed.f sawtoothlaw19_awakeS.f
  have m : (0 ≤ mn a b ∧ mn a b < 4294967296) ∧ (0 ≤ mx a b ∧ mx a b < 4294967296) ∧ mn a b ≤ mx a b := by unfold mx mn; (repeat' split) <;> omega
  have P := mul_le (A := 4294967295) (C := 65535) h1.1 (by omega) h4.1 (by omega)
  have UQ : ∀ x, 0 ≤ x → x < 281474976710656 → guide_UsedS.f w x s = some (decide (w * s ≤ x * 131072)) := by
    intro x x0 x1
    rw [guide_UsedS.eq (by omega) (by omega) (by omega)]
    unfold usedQ
    rw [if_pos ⟨h1.1, x0, h4.1⟩]
  rw [w64 (x := w) (by omega), w64 (x := s) (by omega), w64 (x := a) (by omega), w64 (x := mn a b) (by omega), w64 (x := mx a b) (by omega), w64 (x := w * s) (by omega), Int.tdiv_eq_ediv_of_nonneg P.1, w64 (x := w * s / 65536) (by omega), w64 (x := w * s / 65536 + 1) (by omega), w64 (x := 131072 * a) (by omega)]
  generalize mn a b = x at *
  generalize mx a b = y at *
  rw [UQ x m.1.1 (by omega), UQ y m.2.1.1 (by omega), UQ (w * s / 65536 + 1) (by omega) (by omega), UQ 0 (by omega) (by omega), UQ a h2.1 (by omega)]
  clear UQ
  generalize w * s = p at *
  have c1 : decide (p ≤ (p / 65536 + 1) * 131072) = true := decide_eq_true (by omega)
  have c2 : decide (p ≤ 0 * 131072) = (p == 0) := by
    rw [Bool.eq_iff_iff]; simp; omega
  have c3 : decide (p ≤ a * 131072) = decide (131072 * a ≥ p) := by rw [decide_eq_decide]; omega
  rw [c1, c2, c3]
  simp only [Option.bind_some, if_true, beq_self_eq_true]
  by_cases k : p ≤ x * 131072
  · have k2 : p ≤ y * 131072 := by omega
    rw [decide_eq_true k, decide_eq_true k2]; simp
  · rw [decide_eq_false k]; simp
end Go.Proofs.YtbpcfamjidjhjaaDoor.Px
