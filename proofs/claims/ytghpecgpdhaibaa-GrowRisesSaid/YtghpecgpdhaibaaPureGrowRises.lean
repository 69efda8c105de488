/- The law GrowRises, of the Lean functions alone: it answers true at every input. No conditions. -/
import Derived.Test.YtghpecgpdhaibaaPx33
import Derived.Test.YtghpecgpdhaibaaSpec
namespace Go.Proofs.Ytghpecgpdhaibaa.Px
open Go.Proofs.Ytghpecgpdhaibaa.Sp Go.RowKit Go.Proofs.YtghpecgpdhaibaaW.PrintWords Go.Proofs.YtghpecgpdhaibaaW.PrintLast Go.Proofs.YtghpecgpdhaibaaW.PrintMore
theorem sawtoothlaw14_GrowRises.pure : ∀ (a0 : Int) (a1 : Int) (a2 : Int) (a3 : Int) (a4_0 : Int) (a4_1 : Int) (a4_2 : Int) (a4_3 : Bool) (a4_4 : Bool) (a4_5 : Int) (a4_6 : Int), (Lit.int .i64 a0).wf = true → (Lit.int .i64 a1).wf = true → (Lit.int .i64 a2).wf = true → (Lit.int .i64 a3).wf = true → (Lit.int .i64 a4_0).wf = true → (Lit.int .i64 a4_1).wf = true → (Lit.int .i64 a4_2).wf = true → (Lit.int .i64 a4_5).wf = true → (Lit.int .i64 a4_6).wf = true → sawtoothlaw14_GrowRises.f a0 a1 a2 a3 a4_0 a4_1 a4_2 a4_3 a4_4 a4_5 a4_6 = some true := by
  intro w a b c l0 l1 l2 g d b0 b1 w1 w2 w3 w4 w5 w6 w7 w8 w9
  have h1 := wf_i64.1 w1
  have h2 := wf_i64.1 w2
  have h3 := wf_i64.1 w3
  have h4 := wf_i64.1 w4
  unfold sawtoothlaw14_GrowRises.f sawtoothlaw14_awakeS.f
  have i1 : I (mn a b) := by unfold mn; split <;> omega
  have i2 : I (mx a b) := by unfold mx; split <;> omega
  have l : mn a b ≤ mx a b := by unfold mn mx; split <;> split <;> omega
  simp only [Option.bind_some, if_true]
  rw [grow_Slow.eq h1 i1, grow_Slow.eq h1 i2, grow_Calm.eq h1 h4 i1, grow_Calm.eq h1 h4 i2, grow_Calm.eq h1 i1 h4, grow_Calm.eq h1 i2 h4, grow_Both.eq h1 h4 i1 h2, grow_Both.eq h1 h4 i2 h2]
  simp only [Option.bind_some]
  have e4 : bothQ w c (mn a b) a ≤ bothQ w c (mx a b) a := win_mono (by split <;> split <;> omega)
  have e2 : calmQ w c (mn a b) ≤ calmQ w c (mx a b) := win_mono (by have := byQ_told w c l; omega)
  have e3 : calmQ w (mn a b) c ≤ calmQ w (mx a b) c := win_mono (by have := byQ_target w c l; omega)
  rw [if_pos (slowQ_mono w l g d), if_pos e2, if_pos e3, decide_eq_true e4]
end Go.Proofs.Ytghpecgpdhaibaa.Px
