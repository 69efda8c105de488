/- The law GrowBounds, of the Lean functions alone: it answers true at every input. No conditions. -/
import Derived.Test.YtghpecgpdhaibaaPx32
import Derived.Test.YtghpecgpdhaibaaSpec
namespace Go.Proofs.Ytghpecgpdhaibaa.Px
open Go.Proofs.Ytghpecgpdhaibaa.Sp Go.RowKit Go.Proofs.YtghpecgpdhaibaaW.PrintWords Go.Proofs.YtghpecgpdhaibaaW.PrintLast Go.Proofs.YtghpecgpdhaibaaW.PrintMore
theorem sawtoothlaw14_GrowBounds.pure : ∀ (a0 : Int) (a1 : Int) (a2 : Int) (a3 : Int) (a4_0 : Int) (a4_1 : Int) (a4_2 : Int) (a4_3 : Bool) (a4_4 : Bool) (a4_5 : Int) (a4_6 : Int), (Lit.int .u64 a0).wf = true → (Lit.int .i64 a1).wf = true → (Lit.int .i64 a2).wf = true → (Lit.int .i64 a3).wf = true → (Lit.int .i64 a4_0).wf = true → (Lit.int .i64 a4_1).wf = true → (Lit.int .i64 a4_2).wf = true → (Lit.int .i64 a4_5).wf = true → (Lit.int .i64 a4_6).wf = true → sawtoothlaw14_GrowBounds.f a0 a1 a2 a3 a4_0 a4_1 a4_2 a4_3 a4_4 a4_5 a4_6 = some true := by
  intro x t e u l0 l1 l2 g d b0 b1 w1 w2 w3 w4 w5 w6 w7 w8 w9
  have h1 := wf_u64.1 w1
  have h2 := wf_i64.1 w2
  have h3 := wf_i64.1 w3
  have h4 := wf_i64.1 w4
  unfold sawtoothlaw14_GrowBounds.f sawtoothlaw14_awakeS.f
  have ew : RowKit.wrap64 (131072 + RowKit.wrap64 (Int.tmod x 68719345665)) = 131072 + x % 68719345665 := by
    rw [Int.tmod_eq_emod_of_nonneg h1.1, w64 (x := x % 68719345665) (by omega), w64 (by omega)]
  rw [ew]
  obtain ⟨w, hw⟩ : ∃ w : Int, w = 131072 + x % 68719345665 := ⟨_, rfl⟩
  rw [← hw]
  have k1 : 131072 ≤ w ∧ w ≤ 68719476736 := by omega
  have iw : I w := by omega
  have ww := win_in k1.1 k1.2
  have pb := partQ_bd u g d
  have bb := byQ_bd w u h2.2
  rw [grow_Slow.eq iw h4, grow_Calm.eq iw h2 h4, grow_Both.eq iw h2 h3 h4, grow_LimitS.eq iw h2]
  simp only [Option.bind_some, if_true]
  rw [w64 (x := w + 524288) (by omega)]
  unfold slowQ calmQ bothQ
  rw [ww] at bb ⊢
  generalize partQ u g d = p at *
  generalize byQ w t u = q at *
  have wt := win_bd t
  rw [if_pos (by unfold win clamp; (repeat' split) <;> omega), if_pos (by unfold win clamp; (repeat' split) <;> omega), if_pos (by unfold win clamp; (repeat' split) <;> omega), if_pos (by unfold win clamp mx mn; (repeat' split) <;> omega), if_pos (win_mono (by split <;> omega)), if_pos (by unfold win clamp mx mn; (repeat' split) <;> omega), if_pos (by unfold Go.Proofs.Ytghpecgpdhaibaa.Sp.min2; split <;> omega), if_pos (by unfold Go.Proofs.Ytghpecgpdhaibaa.Sp.min2; split <;> omega), decide_eq_true (by unfold win clamp; (repeat' split) <;> omega)]
end Go.Proofs.Ytghpecgpdhaibaa.Px
