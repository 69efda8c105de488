/- The law GrowLimits, of the Lean functions alone: it answers true at every input. No conditions. -/
import Derived.Test.YtghpecgpdhaibaaPx35
import Derived.Test.YtghpecgpdhaibaaSpec
namespace Go.Proofs.Ytghpecgpdhaibaa.Px
open Go.Proofs.Ytghpecgpdhaibaa.Sp Go.RowKit Go.Proofs.YtghpecgpdhaibaaW.PrintWords Go.Proofs.YtghpecgpdhaibaaW.PrintLast Go.Proofs.YtghpecgpdhaibaaW.PrintMore
theorem sawtoothlaw14_GrowLimits.pure : ∀ (a0 : Int) (a1 : Int) (a2 : Int) (a3_0 : Int) (a3_1 : Int) (a3_2 : Int) (a3_3 : Bool) (a3_4 : Bool) (a3_5 : Int) (a3_6 : Int), (Lit.int .i64 a0).wf = true → (Lit.int .i64 a1).wf = true → (Lit.int .i64 a2).wf = true → (Lit.int .i64 a3_0).wf = true → (Lit.int .i64 a3_1).wf = true → (Lit.int .i64 a3_2).wf = true → (Lit.int .i64 a3_5).wf = true → (Lit.int .i64 a3_6).wf = true → sawtoothlaw14_GrowLimits.f a0 a1 a2 a3_0 a3_1 a3_2 a3_3 a3_4 a3_5 a3_6 = some true := by
  intro w a b l0 l1 l2 g d b0 b1 w1 w2 w3 w4 w5 w6 w7 w8
  have h1 := wf_i64.1 w1
  have h2 := wf_i64.1 w2
  have h3 := wf_i64.1 w3
  unfold sawtoothlaw14_GrowLimits.f sawtoothlaw14_awakeS.f
  have bw := win_bd w
  have ba := win_bd a
  have bb := win_bd b
  have m1 : 131072 ≤ Go.Proofs.Ytghpecgpdhaibaa.Sp.min2 (win w) (win a) ∧ Go.Proofs.Ytghpecgpdhaibaa.Sp.min2 (win w) (win a) ≤ 68719476736 := by unfold Go.Proofs.Ytghpecgpdhaibaa.Sp.min2; split <;> omega
  have m2 : 131072 ≤ Go.Proofs.Ytghpecgpdhaibaa.Sp.min2 (win w) (win b) ∧ Go.Proofs.Ytghpecgpdhaibaa.Sp.min2 (win w) (win b) ≤ 68719476736 := by unfold Go.Proofs.Ytghpecgpdhaibaa.Sp.min2; split <;> omega
  simp only [Option.bind_some, if_true]
  rw [grow_LimitS.eq h1 h2, grow_LimitS.eq (b := 68719476736) h1 (by omega)]
  simp only [Option.bind_some]
  rw [grow_LimitS.eq (by omega) h2]
  simp only [Option.bind_some]
  rw [win_in m1.1 m1.2, if_pos (by unfold Go.Proofs.Ytghpecgpdhaibaa.Sp.min2; (repeat' split) <;> omega), grow_LimitS.eq (by omega) h3, grow_LimitS.eq h1 h3]
  simp only [Option.bind_some]
  rw [grow_LimitS.eq (by omega) h2]
  simp only [Option.bind_some]
  rw [win_in m1.1 m1.2, win_in m2.1 m2.2, if_pos (by unfold Go.Proofs.Ytghpecgpdhaibaa.Sp.min2; (repeat' split) <;> omega), grow_LimitS.eq h2 h1]
  simp only [Option.bind_some]
  have hw : win 68719476736 = 68719476736 := win_in (by omega) (by omega)
  have e0 : Go.Proofs.Ytghpecgpdhaibaa.Sp.min2 (win w) (win 68719476736) = win w := by rw [hw]; unfold Go.Proofs.Ytghpecgpdhaibaa.Sp.min2; split <;> omega
  have p0 : partQ 0 g d = 0 := by unfold partQ Go.Proofs.Ytghpecgpdhaibaa.Sp.min2; rw [clamp_in (by omega) (by omega)]; cases g <;> cases d <;> simp
  have s0 : slowQ w 0 g d = win w := by unfold slowQ; rw [p0, Int.add_zero, win_in bw.1 bw.2]
  have c0 : calmQ w a 0 = win w := by unfold calmQ; rw [byQ_zero, Int.add_zero, win_in bw.1 bw.2]
  have t0 : bothQ w a 0 0 = win w := by unfold bothQ; rw [byQ_zero, Int.add_zero, if_neg (by omega), win_in bw.1 bw.2]
  rw [if_pos (by unfold Go.Proofs.Ytghpecgpdhaibaa.Sp.min2; (repeat' split) <;> omega), grow_Slow.eq h1 (by omega), grow_Calm.eq h1 h2 (by omega), grow_Both.eq h1 h2 (by omega) (by omega), s0, c0, t0, e0]
  simp
end Go.Proofs.Ytghpecgpdhaibaa.Px
