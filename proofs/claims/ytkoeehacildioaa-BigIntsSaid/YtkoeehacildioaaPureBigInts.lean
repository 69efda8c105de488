/- The law BigInts, of the Lean functions alone: it answers true at every input. No conditions. -/
import Derived.Test.YtkoeehacildioaaPx38
import Derived.Test.YtkoeehacildioaaSpec
namespace Go.Proofs.Ytkoeehacildioaa.Px
open Go.Proofs.Ytkoeehacildioaa.Sp Go.RowKit Go.Proofs.YtkoeehacildioaaW.PrintWords Go.Proofs.YtkoeehacildioaaW.PrintLast Go.Proofs.YtkoeehacildioaaW.PrintMore
theorem sawtoothlaw02_BigInts.pure : ∀ (a0_0 : Bool) (a0_1 : Int) (a0_2 : Int) (a1 : Int), (Lit.int .u64 a0_1).wf = true → (Lit.int .u64 a0_2).wf = true → (Lit.int .i64 a1).wf = true → sawtoothlaw02_BigInts.f a0_0 a0_1 a0_2 a1 = some true := by
  intro n h l a w1 w2 w3
  have h1 := wf_u64.1 w1
  have h2 := wf_u64.1 w2
  have h3 := wf_i64.1 w3
  have hB := val_B (n := n) h1 h2
  unfold sawtoothlaw02_BigInts.f sawtoothlaw02_awakeS.f
  simp only [Option.bind_some]
  rw [big_IntS.eq h1 h2]
  simp only [Option.bind_some]
  rw [big_OfS.eq (near_I _)]
  simp only [Option.bind_some]
  rw [big_CmpS.el (I_B (near_I _)) h1 h2, big_CmpS.le h1 h2 (I_B (near_I _)), big_OfS.eq h3]
  simp only [Option.bind_some]
  rw [big_IntS.enc (I_B h3), near_in h3]
  simp only [Option.bind_some, if_true]
  generalize val n h l = v at *
  by_cases c1 : 9223372036854775807 < v
  · rw [near_hi c1, cmpI_lt c1, cmpI_gt c1]; rfl
  by_cases c2 : v < -9223372036854775808
  · rw [near_lo c2, cmpI_gt c2, cmpI_lt c2]; rfl
  · rw [near_in (by omega), cmpI_eq rfl]; rfl
end Go.Proofs.Ytkoeehacildioaa.Px
