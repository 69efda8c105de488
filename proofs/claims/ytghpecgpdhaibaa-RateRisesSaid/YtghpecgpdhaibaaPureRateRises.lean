/- The law RateRises, of the Lean functions alone: it answers true at every input. No conditions. -/
import Derived.Test.YtghpecgpdhaibaaPx27
import Derived.Test.YtghpecgpdhaibaaSpec
namespace Go.Proofs.Ytghpecgpdhaibaa.Px
open Go.Proofs.Ytghpecgpdhaibaa.Sp Go.RowKit Go.Proofs.YtghpecgpdhaibaaW.PrintWords Go.Proofs.YtghpecgpdhaibaaW.PrintLast Go.Proofs.YtghpecgpdhaibaaW.PrintMore
theorem sawtoothlaw17_RateRises.pure : ∀ (a0 : Int) (a1 : Int) (a2 : Int) (a3 : Int) (a4 : Int) (a5 : Int) (a6 : Bool), (Lit.int .i64 a0).wf = true → (Lit.int .i64 a1).wf = true → (Lit.int .i64 a2).wf = true → (Lit.int .i64 a3).wf = true → (Lit.int .u32 a4).wf = true → (Lit.int .u32 a5).wf = true → ∃ k, sawtoothlaw17_RateRises.f k a0 a1 a2 a3 a4 a5 a6 = some true := by
  intro a b s c t u slow w1 w2 w3 w4 w5 w6
  have h1 := wf_i64.1 w1
  have h2 := wf_i64.1 w2
  have h3 := wf_i64.1 w3
  have h4 := wf_i64.1 w4
  have h5 := wf_u32.1 w5
  have h6 := wf_u32.1 w6
  refine ⟨1, ?_⟩
  unfold sawtoothlaw17_RateRises.f sawtoothlaw17_awakeS.f
  simp only [Option.bind_some]
  have ex : ∀ x : Int, 0 ≤ x → ∃ p : Int, 1 ≤ p ∧ p ≤ 1073741824 ∧ RowKit.wrap64 (8 * RowKit.wrap64 (1 + RowKit.wrap64 (Int.tmod x 1073741824))) = 8 * p := by
    intro x hx
    have e := Int.tmod_eq_emod_of_nonneg hx (b := 1073741824)
    refine ⟨1 + x % 1073741824, by omega, by omega, ?_⟩
    rw [e, w64 (x := x % 1073741824) (by omega), w64 (x := 1 + x % 1073741824) (by omega), w64 (by omega)]
  have m0 : 0 ≤ mn t u := by unfold mn; split <;> omega
  have m1 : 0 ≤ mx t u := by unfold mx; split <;> omega
  obtain ⟨p, p1, p2, hX⟩ := ex (mn t u) m0
  obtain ⟨q, q1, q2, hY⟩ := ex (mx t u) m1
  rw [hX, hY]
  have tq : ∀ p : Int, 1 ≤ p → p ≤ 1073741824 → timeQ true (8 * p) 0 = p := by
    intro p a b; unfold timeQ; rw [if_pos ⟨rfl, by omega, by omega, by omega, by omega⟩]; omega
  have of_ : ∀ (w z p : Int) (g : Bool), I w → I z → 1 ≤ p → p ≤ 1073741824 → rate_OfS.f w z true (8 * p) 0 g = some (rateQ w z p g) := by
    intro w z p g a b c d; rw [rate_OfS.eq a b (by omega) (by omega), tq p c d]
  have i1 : I (mn a b) := by unfold mn; split <;> omega
  have i2 : I (mx a b) := by unfold mx; split <;> omega
  have i3 : I (mn s c) := by unfold mn; split <;> omega
  have i4 : I (mx s c) := by unfold mx; split <;> omega
  have l1 : mn a b ≤ mx a b := by unfold mn mx; split <;> split <;> omega
  have l2 : mn s c ≤ mx s c := by unfold mn mx; split <;> split <;> omega
  have jj : sawtoothlaw17_RateRises.j0 1 a b s c slow true true true (8 * p) 0 = some true := by
    simp only [sawtoothlaw17_RateRises.j0, if_true]
    rw [of_ _ _ p slow i1 h3 p1 p2, of_ _ _ p slow i2 h3 p1 p2, of_ _ _ p slow h1 i3 p1 p2, of_ _ _ p slow h1 i4 p1 p2, of_ _ _ p false h1 h3 p1 p2, of_ _ _ p true h1 h3 p1 p2]
    simp only [Option.bind_some]
    rw [if_pos (rateQ_w l1 s p1 p2 slow), if_pos (rateQ_s a l2 p1 p2 slow), decide_eq_true (rateQ_slow a s p1)]
  by_cases c0 : 8 * p > 8 * q
  · rw [if_pos c0]; exact jj
  · rw [if_neg c0, of_ _ _ q slow h1 h3 q1 q2, of_ _ _ p slow h1 h3 p1 p2]
    simp only [Option.bind_some]
    rw [decide_eq_true (rateQ_t a s p1 (by omega) slow)]
    exact jj
end Go.Proofs.Ytghpecgpdhaibaa.Px
