/- The law GrowMeets, of the Lean functions alone: it answers true at every input. No conditions. -/
import Derived.Test.YtghpecgpdhaibaaPx35
import Derived.Test.YtghpecgpdhaibaaSpec
namespace Go.Proofs.Ytghpecgpdhaibaa.Px
open Go.Proofs.Ytghpecgpdhaibaa.Sp Go.RowKit Go.Proofs.YtghpecgpdhaibaaW.PrintWords Go.Proofs.YtghpecgpdhaibaaW.PrintLast Go.Proofs.YtghpecgpdhaibaaW.PrintMore
theorem sawtoothlaw14_GrowMeets.pure : ∀ (a0 : Int) (a1 : Int) (a2 : Int), (Lit.int .u32 a0).wf = true → (Lit.int .u32 a1).wf = true → (Lit.int .u8 a2).wf = true → ∃ k, sawtoothlaw14_GrowMeets.f k a0 a1 a2 = some true := by
  intro a gap pa w1 w2 w3
  have h1 := wf_u32.1 w1
  have h2 := wf_u32.1 w2
  have h3 := wf_u8.1 w3
  unfold sawtoothlaw14_GrowMeets.f sawtoothlaw14_awakeS.f
  simp only [Option.bind_some]
  rw [w64 (x := a) (by omega), w64 (x := gap) (by omega), w64 (x := 131072 + a) (by omega), w64 (x := 131072 + a + gap) (by omega)]
  have en : RowKit.wrap64 (1 + RowKit.wrap64 (Int.tmod pa 20)) = 1 + pa % 20 := by
    rw [Int.tmod_eq_emod_of_nonneg (by omega), w64 (x := pa % 20) (by omega), w64 (by omega)]
  rw [en]
  obtain ⟨w, hw⟩ : ∃ w : Int, w = 131072 + a := ⟨_, rfl⟩
  rw [← hw]
  obtain ⟨t, ht⟩ : ∃ t : Int, t = mn (w + gap) 68719476736 := ⟨_, rfl⟩
  rw [← ht]
  have tb : w ≤ t ∧ t ≤ 68719476736 := by rw [ht]; unfold mn; split <;> omega
  obtain ⟨n, hn⟩ : ∃ n : Nat, (n : Int) = 1 + pa % 20 := ⟨(1 + pa % 20).toNat, by omega⟩
  rw [← hn]
  have n1 : 1 ≤ n ∧ n ≤ 20 := by omega
  have step : ∀ x u : Int, w ≤ x → x ≤ t → x ≤ calmQ x t u ∧ calmQ x t u ≤ t := by
    intro x u k1 k2
    have bb := byQ_bd x u (t := t) (by omega)
    have ww : win x = x := win_in (by omega) (by omega)
    unfold calmQ
    rw [ww] at bb ⊢
    rw [win_in (by omega) (by omega)]
    omega
  have last : calmQ w t w = t := by
    have ww : win w = w := win_in (by omega) (by omega)
    have e : byQ w t w = t - w := by
      unfold byQ
      rw [ww]
      by_cases c : t ≤ w
      · rw [if_pos c]; omega
      · rw [if_neg c, clamp_in (by omega) (by omega), Int.mul_ediv_cancel_left _ (by omega)]
        unfold Go.Proofs.Ytghpecgpdhaibaa.Sp.min2; split <;> omega
    unfold calmQ
    rw [ww, e, show w + (t - w) = t by omega, win_in (by omega) (by omega)]
  have same : calmQ t t w = t := by
    have ww : win t = t := win_in (by omega) (by omega)
    unfold calmQ byQ
    rw [ww, if_pos (Int.le_refl _), Int.add_zero, ww]
  have key : ∀ (j : Nat) (i x : Int), i + j = n → 0 ≤ i → w ≤ x → x ≤ t → sawtoothlaw14_GrowMeets.l0 (j + 1) true w t (n : Int) x i = some true := by
    intro j
    induction j with
    | zero =>
      intro i x hi h0 k1 k2
      rw [sawtoothlaw14_GrowMeets.l0, if_neg (by omega), if_pos rfl, grow_Calm.eq (by omega) (by omega) (by omega), last, grow_Calm.eq (by omega) (by omega) (by omega), same]
      simp only [Option.bind_some, if_true]
      rw [if_pos k2, if_pos k1]; simp
    | succ j ih =>
      intro i x hi h0 k1 k2
      have hd : 0 ≤ Int.tdiv w (n : Int) ∧ Int.tdiv w (n : Int) ≤ w := by
        rw [Int.tdiv_eq_ediv_of_nonneg (by omega)]
        exact ⟨Int.ediv_nonneg (by omega) (by omega), Int.ediv_le_self _ (by omega)⟩
      have st := step x (Int.tdiv w (n : Int)) k1 k2
      rw [sawtoothlaw14_GrowMeets.l0, if_pos (by omega), if_neg (by omega), w64 (x := Int.tdiv w (n : Int)) (by omega), grow_Calm.eq (by omega) (by omega) (by omega)]
      simp only [Option.bind_some]
      rw [w64 (x := i + 1) (by omega)]
      exact ih (i + 1) _ (by omega) (by omega) (by omega) st.2
  exact ⟨n + 1, key n 0 w (by omega) (by omega) (by omega) tb.1⟩
end Go.Proofs.Ytghpecgpdhaibaa.Px
