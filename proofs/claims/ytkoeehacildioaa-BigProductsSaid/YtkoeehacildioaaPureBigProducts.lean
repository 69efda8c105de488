/- The law BigProducts, of the Lean functions alone: it answers true at every input. No conditions. -/
import Derived.Test.YtkoeehacildioaaPx29
import Derived.Test.YtkoeehacildioaaSpec
namespace Go.Proofs.Ytkoeehacildioaa.Px
open Go.Proofs.Ytkoeehacildioaa.Sp Go.RowKit Go.Proofs.YtkoeehacildioaaW.PrintWords Go.Proofs.YtkoeehacildioaaW.PrintLast Go.Proofs.YtkoeehacildioaaW.PrintMore
theorem sawtoothlaw02_BigProducts.pure : ∀ (a0 : Int) (a1 : Int) (a2 : Int) (a3 : Int), (Lit.int .i64 a0).wf = true → (Lit.int .i64 a1).wf = true → (Lit.int .i32 a2).wf = true → (Lit.int .i32 a3).wf = true → ∃ k, sawtoothlaw02_BigProducts.f k a0 a1 a2 a3 = some true := by
  intro a b c d w1 w2 w3 w4
  have h1 := wf_i64.1 w1
  have h2 := wf_i64.1 w2
  have h3 := wf_i32.1 w3
  have h4 := wf_i32.1 w4
  have m1 := mulI h1 h2
  refine ⟨1, ?_⟩
  unfold sawtoothlaw02_BigProducts.f sawtoothlaw02_awakeS.f
  simp only [Option.bind_some]
  have e1 : wrap64 c = c := by unfold wrap64; omega
  have e2 : wrap64 d = d := by unfold wrap64; omega
  have e3 : wrap64 (c + d) = c + d := by unfold wrap64; omega
  have m2 := mulI (b := c) h1 (by omega)
  have m3 := mulI (b := d) h1 (by omega)
  rw [e1, e2, e3, big_MulS.eq h1 (by omega), big_MulS.eq h1 (by omega), big_MulS.eq h1 (by omega)]
  simp only [Option.bind_some]
  rw [big_AddS.enc (by omega) (by omega), held_in (by omega)]
  simp only [Option.bind_some, if_true, sawtoothlaw02_BigProducts.j0]
  have e4 : IntKind.u64.wrap (mx b 0) = if 0 < b then b else 0 := by unfold mx; rw [u64w]; split <;> split <;> omega
  rw [enc_beq, Int.mul_add, decide_eq_true rfl, e4, big_MulS.eq h1 h2, big_MulS.eq h2 h1, big_MulS.eq h1 (by omega), big_MulS.eq h1 (by omega), big_OfS.eq h1]
  simp only [Option.bind_some]
  rw [big_NegS.enc (by omega), enc_beq, Int.mul_comm b a, decide_eq_true rfl, enc_beq, Int.mul_one]
  simp only [Option.bind_some]
  rw [enc_beq, decide_eq_true (show a * -1 = -a by omega)]
  simp only [decide_true, if_true]
  by_cases hb : 0 < b
  · rw [if_pos hb, big_DivS.enc (by omega) (by omega), quo_pos (by omega), Int.mul_ediv_cancel _ (by omega), Int.mul_emod_left]
    simp only [Option.bind_some, if_true]
    rw [enc_beq, decide_eq_true rfl, if_pos hb]
    rfl
  · rw [if_neg hb, big_DivS.enc (by omega) (by omega), quo_zero]
    simp only [Option.bind_some, if_true]
    rw [if_neg (by omega), if_pos (by omega)]
    rfl
end Go.Proofs.Ytkoeehacildioaa.Px
