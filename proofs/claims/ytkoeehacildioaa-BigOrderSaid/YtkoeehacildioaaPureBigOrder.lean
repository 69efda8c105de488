/- The law BigOrder, of the Lean functions alone: it answers true at every input. No conditions. -/
import Derived.Test.YtkoeehacildioaaPx28
import Derived.Test.YtkoeehacildioaaSpec
namespace Go.Proofs.Ytkoeehacildioaa.Px
open Go.Proofs.Ytkoeehacildioaa.Sp Go.RowKit Go.Proofs.YtkoeehacildioaaW.PrintWords Go.Proofs.YtkoeehacildioaaW.PrintLast Go.Proofs.YtkoeehacildioaaW.PrintMore
theorem sawtoothlaw02_BigOrder.pure : ∀ (a0_0 : Bool) (a0_1 : Int) (a0_2 : Int) (a1_0 : Bool) (a1_1 : Int) (a1_2 : Int) (a2_0 : Bool) (a2_1 : Int) (a2_2 : Int) (a3 : Int) (a4 : Int), (Lit.int .u64 a0_1).wf = true → (Lit.int .u64 a0_2).wf = true → (Lit.int .u64 a1_1).wf = true → (Lit.int .u64 a1_2).wf = true → (Lit.int .u64 a2_1).wf = true → (Lit.int .u64 a2_2).wf = true → (Lit.int .i64 a3).wf = true → (Lit.int .i64 a4).wf = true → ∃ k, sawtoothlaw02_BigOrder.f k a0_0 a0_1 a0_2 a1_0 a1_1 a1_2 a2_0 a2_1 a2_2 a3 a4 = some true := by
  intro xn xh xl yn yh yl zn zh zl a b w1 w2 w3 w4 w5 w6 w7 w8
  have h1 := wf_u64.1 w1
  have h2 := wf_u64.1 w2
  have h3 := wf_u64.1 w3
  have h4 := wf_u64.1 w4
  have h5 := wf_u64.1 w5
  have h6 := wf_u64.1 w6
  have h7 := wf_i64.1 w7
  have h8 := wf_i64.1 w8
  refine ⟨2, ?_⟩
  have bx := val_B (n := xn) h1 h2
  have by_ := val_B (n := yn) h3 h4
  unfold sawtoothlaw02_BigOrder.f sawtoothlaw02_awakeS.f
  simp only [Option.bind_some]
  have t1 : ∀ v : Int, ∃ (n : Bool) (h l e : Int), held v = some (n, h, l, e) ∧ (e = 0 ∧ B v ∧ n = encN v ∧ h = encH v ∧ l = encL v ∨ e = 10) := by
    intro v
    by_cases hb : B v
    · exact ⟨_, _, _, _, held_in hb, Or.inl ⟨rfl, hb, rfl, rfl, rfl⟩⟩
    · exact ⟨_, _, _, _, held_out hb, Or.inr rfl⟩
  obtain ⟨sn, sh, sl, e, es, hs⟩ := t1 (val xn xh xl + val zn zh zl)
  obtain ⟨tn, th, tl, f, et, ht⟩ := t1 (val yn yh yl + val zn zh zl)
  rw [big_CmpS.eq h1 h2 h3 h4, big_AddS.eq h1 h2 h5 h6, big_AddS.eq h3 h4 h5 h6, es, et, big_CmpS.eq h3 h4 h5 h6, big_CmpS.eq h1 h2 h5 h6]
  simp only [Option.bind_some]
  have c0 : ∀ p q : Int, cmpI q p = -cmpI p q := by intro p q; unfold cmpI; (repeat' split) <;> omega
  have c1 : ∀ p q : Int, cmpI (-p) (-q) = -cmpI p q := by intro p q; unfold cmpI; (repeat' split) <;> omega
  have c2 : ∀ p q z : Int, cmpI (p + z) (q + z) = cmpI p q := by intro p q z; unfold cmpI; (repeat' split) <;> omega
  have c3 : ∀ p q : Int, -1 ≤ cmpI p q ∧ cmpI p q ≤ 1 := by intro p q; unfold cmpI; (repeat' split) <;> omega
  have J1 : sawtoothlaw02_BigOrder.j1 1 true (cmpI (val xn xh xl) (val yn yh yl)) e f true true xn xh xl yn yh yl sn sh sl tn th tl = some true := by
    have k := c3 (val xn xh xl) (val yn yh yl)
    simp only [sawtoothlaw02_BigOrder.j1, if_true]
    rw [big_CmpS.eq h3 h4 h1 h2, c0 (val xn xh xl) (val yn yh yl)]
    simp only [Option.bind_some]
    rw [w64 (x := - -cmpI (val xn xh xl) (val yn yh yl)) (by omega), if_pos (by omega), big_NegS.eq h1 h2, big_NegS.eq h3 h4]
    simp only [Option.bind_some]
    rw [big_CmpS.enc (by omega) (by omega), c1]
    simp only [Option.bind_some]
    rw [w64 (x := -cmpI (val xn xh xl) (val yn yh yl)) (by omega), if_pos rfl]
    rcases hs with ⟨rfl, hB, rfl, rfl, rfl⟩ | rfl
    · rcases ht with ⟨rfl, hC, rfl, rfl, rfl⟩ | rfl
      · rw [if_pos rfl, if_pos rfl, big_CmpS.enc hB hC, c2]
        simp
      · rw [if_pos rfl, if_neg (by omega)]
    · rw [if_neg (by omega)]
  have J0 : sawtoothlaw02_BigOrder.j0 2 a b true (cmpI (val xn xh xl) (val yn yh yl)) e f true xn xh xl yn yh yl sn sh sl tn th tl = some true := by
    rw [sawtoothlaw02_BigOrder.j0, big_OfS.eq h7, big_OfS.eq h8]
    simp only [Option.bind_some]
    rw [big_CmpS.enc (I_B h7) (I_B h8)]
    simp only [Option.bind_some]
    by_cases l1 : a < b
    · rw [if_pos l1, cmpI_lt l1, if_pos rfl]; exact J1
    · rw [if_neg l1]
      by_cases l2 : a = b
      · rw [if_pos l2, cmpI_eq l2, if_pos rfl]; exact J1
      · rw [if_neg l2, if_pos (show a > b by omega), cmpI_gt (show b < a by omega)]; exact J1
  by_cases d1 : cmpI (val xn xh xl) (val yn yh yl) ≤ 0
  · rw [if_pos d1]; exact J0
  · rw [if_neg d1]
    by_cases d2 : cmpI (val yn yh yl) (val zn zh zl) ≤ 0
    · rw [if_pos d2]; exact J0
    · have d3 : cmpI (val xn xh xl) (val zn zh zl) > 0 := by
        unfold cmpI at d1 d2 ⊢
        (repeat' split) <;> (repeat' split at d1) <;> (repeat' split at d2) <;> omega
      rw [if_neg d2, decide_eq_true d3]; exact J0
end Go.Proofs.Ytkoeehacildioaa.Px
