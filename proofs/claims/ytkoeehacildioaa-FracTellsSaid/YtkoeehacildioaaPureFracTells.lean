/- The law FracTells, of the Lean functions alone: it answers true at every input. No conditions. -/
import Derived.Test.YtkoeehacildioaaPx33
import Derived.Test.YtkoeehacildioaaSpec
namespace Go.Proofs.Ytkoeehacildioaa.Px
open Go.Proofs.Ytkoeehacildioaa.Sp Go.RowKit Go.Proofs.YtkoeehacildioaaW.PrintWords Go.Proofs.YtkoeehacildioaaW.PrintLast Go.Proofs.YtkoeehacildioaaW.PrintMore
theorem sawtoothlaw04_FracTells.pure : ∀ (a0 : Int) (a1 : Int) (a2 : Int), (Lit.int .i64 a0).wf = true → (Lit.int .i64 a1).wf = true → (Lit.int .i64 a2).wf = true → sawtoothlaw04_FracTells.f a0 a1 a2 = some true := by
  intro a b c w1 w2 w3
  have h1 := wf_i64.1 w1
  have h2 := wf_i64.1 w2
  have h3 := wf_i64.1 w3
  unfold sawtoothlaw04_FracTells.f sawtoothlaw04_awakeS.f
  simp only [Option.bind_some]
  rw [frac_FloorS.eq h1 h2 h3, sawtoothref04_FloorS.eq h1 h2 h3, frac_CeilS.eq h1 h2 h3, sawtoothref04_CeilS.eq h1 h2 h3, frac_NearS.eq h1 h2 h3, sawtoothref04_NearS.eq h1 h2 h3, frac_SegsS.eq h1 h3, sawtoothref04_SegsS.eq h1 h3, frac_BytesS.eq h1 h2, sawtoothref04_BytesS.eq h1 h2, sawtoothref04_WholeS.eq h1]
  have ft : ∀ q : Int, ∃ p, fit q = some p := by intro q; unfold fit; split <;> exact ⟨_, rfl⟩
  have t1 : ∃ p, floorQ a b c = some p := by unfold floorQ; split; exact ⟨_, rfl⟩; exact ft _
  have t2 : ∃ p, ceilQ a b c = some p := by unfold ceilQ; split; exact ⟨_, rfl⟩; exact ft _
  have t3 : ∃ p, nearQ a b c = some p := by unfold nearQ; split; exact ⟨_, rfl⟩; exact ft _
  have t4 : ∃ p, floorQ a 65536 c = some p := by unfold floorQ; split; exact ⟨_, rfl⟩; exact ft _
  have t5 : ∃ p, floorQ a b 65536 = some p := by unfold floorQ; split; exact ⟨_, rfl⟩; exact ft _
  obtain ⟨p1, t1⟩ := t1
  obtain ⟨p2, t2⟩ := t2
  obtain ⟨p3, t3⟩ := t3
  obtain ⟨p4, t4⟩ := t4
  obtain ⟨p5, t5⟩ := t5
  rw [t1, t2, t3, t4, t5]
  simp only [Option.bind_some, if_true]
  unfold frac_Whole.f
  simp
end Go.Proofs.Ytkoeehacildioaa.Px
