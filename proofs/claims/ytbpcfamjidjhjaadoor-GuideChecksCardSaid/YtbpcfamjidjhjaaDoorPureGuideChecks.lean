/- The law GuideChecks, of the Lean functions alone: it answers true at every input. No conditions. -/
import Derived.Test.YtbpcfamjidjhjaaDoorPx40
import Derived.Test.YtbpcfamjidjhjaaDoorSpec
namespace Go.Proofs.YtbpcfamjidjhjaaDoor.Px
open Go.Proofs.YtbpcfamjidjhjaaDoor.Sp Go.RowKit Go.Proofs.YtbpcfamjidjhjaaDoorW.PrintWords Go.Proofs.YtbpcfamjidjhjaaDoorW.PrintLast Go.Proofs.YtbpcfamjidjhjaaDoorW.PrintMore
theorem sawtoothlaw19_GuideChecks.pure : ∀ (a0_0 : Int) (a0_1 : Int) (a0_2 : Int) (a0_3 : Int) (a0_4 : Int) (a0_5 : Int) (a0_6 : Int) (a1 : Int) (a2 : Int), (Lit.int .i64 a0_0).wf = true → (Lit.int .i64 a0_1).wf = true → (Lit.int .i64 a0_2).wf = true → (Lit.int .i64 a0_3).wf = true → (Lit.int .i64 a0_4).wf = true → (Lit.int .i64 a0_5).wf = true → (Lit.int .i64 a0_6).wf = true → (Lit.int .i64 a1).wf = true → (Lit.int .i64 a2).wf = true → sawtoothlaw19_GuideChecks.f a0_0 a0_1 a0_2 a0_3 a0_4 a0_5 a0_6 a1 a2 = some true := by
  intro g0 g1 g2 g3 g4 g5 g6 first most w1 w2 w3 w4 w5 w6 w7 w8 w9
  have h2 := wf_i64.1 w2
  unfold sawtoothlaw19_GuideChecks.f sawtoothlaw19_awakeS.f guide_First.f guide_Check.f
  have ck : chkQ g0 g1 g2 g3 g4 g5 g6 = 0 → cfgOk g0 g1 g2 g3 g4 g5 g6 := fun e => Classical.byContradiction fun n => by rw [chkQ_bad n] at e; omega
  by_cases k : chkQ g0 g1 g2 g3 g4 g5 g6 = 0
  · have c := ck k
    have d := c
    unfold cfgOk at c
    have r0 := Int.emod_nonneg (mx first 0) (show g2 - 1 ≠ 0 by omega)
    have r1 := Int.emod_lt_of_pos (mx first 0) (show 0 < g2 - 1 by omega)
    have m : g1 ≤ mx g1 (mn most 1048576) ∧ mx g1 (mn most 1048576) ≤ 1048576 := by unfold mx mn; (repeat' split) <;> omega
    rw [w64 (x := g2 - 1) (by omega)]
    generalize mx first 0 % (g2 - 1) = r at *
    generalize mx g1 (mn most 1048576) = q at *
    rw [w64 (x := 2 + r) (by omega), w64 (x := g1 + 1) (by omega), w64 (x := g5 + 1) (by omega), w64 (x := g2 * 65536) (by omega), w64 (x := g1 * 65536) (by omega)]
    rw [k, chkQ_ok (show cfgOk g0 g1 (2 + r) g3 g4 g5 g6 by unfold cfgOk; omega), chkQ_ok (show cfgOk g0 q g2 g3 g4 g5 g6 by unfold cfgOk; omega), chkQ_bad (show ¬ cfgOk 0 g1 g2 g3 g4 g5 g6 by unfold cfgOk; omega), chkQ_bad (show ¬ cfgOk g0 g1 (g1 + 1) g3 g4 g5 g6 by unfold cfgOk; omega), chkQ_bad (show ¬ cfgOk g0 g1 g2 g3 (g5 + 1) g5 g6 by unfold cfgOk; omega)]
    simp only [Option.bind_some, if_true]
    rw [if_neg (show ¬ g2 - 1 = 0 by omega), if_pos (show g2 * 65536 ≤ g1 * 65536 by omega), decide_eq_true (show g2 * 65536 ≥ 131072 by omega)]
  · simp only [Option.bind_some]
    rw [if_neg k, if_neg k]
    simp
end Go.Proofs.YtbpcfamjidjhjaaDoor.Px
