/- The law GrowTells, of the Lean functions alone: it answers true at every input. No conditions. -/
import Derived.Test.YtghpecgpdhaibaaPx32
import Derived.Test.YtghpecgpdhaibaaSpec
namespace Go.Proofs.Ytghpecgpdhaibaa.Px
open Go.Proofs.Ytghpecgpdhaibaa.Sp Go.RowKit Go.Proofs.YtghpecgpdhaibaaW.PrintWords Go.Proofs.YtghpecgpdhaibaaW.PrintLast Go.Proofs.YtghpecgpdhaibaaW.PrintMore
theorem gt_clamp (x l u : Int) : sawtoothref01_Clamp.f x l u = some (clamp x l u) := by
  unfold sawtoothref01_Clamp.f clamp; split
  · rfl
  · split <;> rfl
theorem gt_given (x : Int) : sawtoothref14_Given.f x = some (win x) := by unfold sawtoothref14_Given.f; rw [gt_clamp]; rfl
theorem gt_told (x : Int) : sawtoothref14_told.f x = some (clamp x 0 68719476736) := by unfold sawtoothref14_told.f; rw [gt_clamp]; rfl
theorem gt_add {a b : Int} (a0 : 0 ≤ a) (a1 : a ≤ 9223372036854775807) (b0 : 0 ≤ b) (b1 : b ≤ 9223372036854775807) : sawtoothref01_Add.f 1 a b = some (near (a + b)) := by
  unfold sawtoothref01_Add.f sawtoothref01_Plus.f
  rw [w64 (x := 9223372036854775807 - b) (by omega)]
  by_cases hb : b > 0
  · rw [if_pos hb, if_neg (show ¬ b < 0 by omega)]
    by_cases ho : a > 9223372036854775807 - b
    · rw [if_pos ho]
      simp only [Option.bind_some]
      rw [if_neg (by omega), decide_eq_false (show ¬ a < 0 by omega), near_hi (by omega)]
      simp [sawtoothref01_Add.j0]
    · rw [if_neg ho, w64 (x := a + b) (by omega), near_in (by omega)]
      simp [sawtoothref01_Add.j0]
  · rw [if_neg hb, if_neg (show ¬ b < 0 by omega), w64 (x := a + b) (by omega), near_in (by omega)]
    simp [sawtoothref01_Add.j0]
theorem gt_calm {w t u : Int} (_h1 : I w) (h2 : I t) (_h3 : I u) : sawtoothref14_Calm.f 1 w t u = some (calmQ w t u) := by
  have a := win_bd w
  have b := clamp_bd (a := u) (low := 0) (high := 68719476736) (by omega)
  unfold sawtoothref14_Calm.f sawtoothref02_MulS.f sawtoothref02_DivS.f sawtoothref02_IntS.f
  rw [gt_given]
  simp only [Option.bind_some]
  unfold calmQ byQ
  by_cases c : t ≤ win w
  · rw [if_pos c, if_pos c, Int.add_zero, win_in a.1 a.2]
  · rw [if_neg c, if_neg c, gt_told]
    simp only [Option.bind_some]
    have m := mulI (a := clamp u 0 68719476736) (b := t - win w) (by omega) (by omega)
    rw [w64 (x := t - win w) (by omega), u64w_in (x := win w) (by omega), mulF_eq (by omega) (by omega)]
    simp only [Option.bind_some]
    rw [divF_enc (by omega) (by omega), quo_pos (by omega)]
    simp only [Option.bind_some]
    have q0 : 0 ≤ clamp u 0 68719476736 * (t - win w) / win w := Int.ediv_nonneg (Int.mul_nonneg b.1 (by omega)) (by omega)
    have qB := div_B (v := clamp u 0 68719476736 * (t - win w)) (d := win w) (by omega) (by omega)
    generalize clamp u 0 68719476736 * (t - win w) / win w = q at *
    rw [intF_enc qB]
    simp only [Option.bind_some]
    have nq : 0 ≤ near q ∧ near q ≤ 9223372036854775807 ∧ (near q = q ∨ q > 9223372036854775807 ∧ near q = 9223372036854775807) := by unfold near; (repeat' split) <;> omega
    rw [gt_add (by omega) (by omega) nq.1 nq.2.1]
    simp only [Option.bind_some]
    have ns : near (win w + near q) = win w + near q ∧ win w + near q ≤ 9223372036854775807 ∨ win w + near q > 9223372036854775807 ∧ near (win w + near q) = 9223372036854775807 := by unfold near; (repeat' split) <;> omega
    generalize near (win w + near q) = s at *
    generalize near q = z at *
    have mq : Go.Proofs.Ytghpecgpdhaibaa.Sp.min2 q (t - win w) = if t - win w < q then t - win w else q := rfl
    rw [gt_given, gt_given]
    simp only [Option.bind_some]
    by_cases k : s > t
    · rw [if_pos k, mq]
      split
      · congr 2; omega
      · exfalso; omega
    · rw [if_neg k, mq]
      split
      · congr 2; omega
      · congr 2; omega
theorem gt_slow (w t l0 l1 l2 : Int) (g d : Bool) (b0 b1 : Int) : sawtoothref14_Slow.f 1 w t l0 l1 l2 g d b0 b1 = some (slowQ w t g d) := by
  have a := win_bd w
  have b := clamp_bd (a := t) (low := 0) (high := 68719476736) (by omega)
  have hp : ∀ x : Int, 0 ≤ x → x ≤ 524288 → sawtoothref10_Part.f 1 l0 l1 l2 g d b0 b1 x = some (if d = true then 0 else if g = true then x / 4 else x) := by
    intro x x0 x1
    unfold sawtoothref10_Part.f
    rw [decide_eq_false (show ¬ x < 0 by omega)]
    have e : wrap64 (Int.tdiv x 4) = x / 4 := by rw [Int.tdiv_eq_ediv_of_nonneg x0, w64 (by omega)]
    cases d <;> cases g <;> simp [sawtoothref10_Part.j0, e]
  have hq : ∀ x : Int, 0 ≤ x → x ≤ 524288 → 0 ≤ (if d = true then 0 else if g = true then x / 4 else x) ∧ (if d = true then 0 else if g = true then x / 4 else x) ≤ 524288 := by
    intro x x0 x1; (repeat' split) <;> omega
  unfold sawtoothref14_Slow.f slowQ partQ
  rw [gt_told]
  simp only [Option.bind_some]
  have mq : Go.Proofs.Ytghpecgpdhaibaa.Sp.min2 (clamp t 0 68719476736) 524288 = if 524288 < clamp t 0 68719476736 then 524288 else clamp t 0 68719476736 := rfl
  rw [mq]
  by_cases c : clamp t 0 68719476736 > 524288
  · have q := hq 524288 (by omega) (by omega)
    rw [if_pos c, if_pos c, gt_given, hp _ (by omega) (by omega)]
    simp only [Option.bind_some]
    rw [w64 (by omega), gt_given]
    rfl
  · have q := hq (clamp t 0 68719476736) (by omega) (by omega)
    rw [if_neg c, if_neg c, gt_given, hp _ (by omega) (by omega)]
    simp only [Option.bind_some]
    rw [w64 (by omega), gt_given]
    rfl
theorem gt_both {w t e u : Int} (h1 : I w) (h2 : I t) (h3 : I u) : sawtoothref14_Both.f 1 w t e u = some (bothQ w t e u) := by
  have a := win_bd w
  have b := byQ_bd w u h2.2
  unfold sawtoothref14_Both.f
  rw [gt_calm h1 h2 h3]
  simp only [Option.bind_some]
  rw [gt_given]
  simp only [Option.bind_some]
  unfold calmQ bothQ
  generalize win w + byQ w t u = x at *
  congr 1
  unfold mx win clamp; (repeat' split) <;> omega
theorem sawtoothlaw14_GrowTells.pure : ∀ (a0 : Int) (a1 : Int) (a2 : Int) (a3 : Int) (a4_0 : Int) (a4_1 : Int) (a4_2 : Int) (a4_3 : Bool) (a4_4 : Bool) (a4_5 : Int) (a4_6 : Int), (Lit.int .i64 a0).wf = true → (Lit.int .i64 a1).wf = true → (Lit.int .i64 a2).wf = true → (Lit.int .i64 a3).wf = true → (Lit.int .i64 a4_0).wf = true → (Lit.int .i64 a4_1).wf = true → (Lit.int .i64 a4_2).wf = true → (Lit.int .i64 a4_5).wf = true → (Lit.int .i64 a4_6).wf = true → ∃ k, sawtoothlaw14_GrowTells.f k a0 a1 a2 a3 a4_0 a4_1 a4_2 a4_3 a4_4 a4_5 a4_6 = some true := by
  intro w t e u l0 l1 l2 g d b0 b1 w1 w2 w3 w4 w5 w6 w7 w8 w9
  have h1 := wf_i64.1 w1
  have h2 := wf_i64.1 w2
  have h3 := wf_i64.1 w3
  have h4 := wf_i64.1 w4
  refine ⟨1, ?_⟩
  have hl : sawtoothref14_Limit.f w t = some (Go.Proofs.Ytghpecgpdhaibaa.Sp.min2 (win w) (win t)) := by
    unfold sawtoothref14_Limit.f
    rw [gt_given, gt_given]
    simp only [Option.bind_some]
    first | rfl | (congr 1; unfold mn Go.Proofs.Ytghpecgpdhaibaa.Sp.min2; (repeat' split) <;> omega)
  unfold sawtoothlaw14_GrowTells.f sawtoothlaw14_awakeS.f
  simp only [Option.bind_some, if_true]
  rw [grow_Slow.eq h1 h4, gt_slow, grow_Calm.eq h1 h2 h4, gt_calm h1 h2 h4, grow_Both.eq h1 h2 h3 h4, gt_both h1 h2 h4, grow_LimitS.eq h1 h2, hl]
  simp
end Go.Proofs.Ytghpecgpdhaibaa.Px
