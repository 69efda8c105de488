/- The law BigBack, of the Lean functions alone: it answers true at every input. No conditions. -/
import Derived.Test.YtkoeehacildioaaPx28
import Derived.Test.YtkoeehacildioaaSpec
namespace Go.Proofs.Ytkoeehacildioaa.Px
open Go.Proofs.Ytkoeehacildioaa.Sp Go.RowKit Go.Proofs.YtkoeehacildioaaW.PrintWords Go.Proofs.YtkoeehacildioaaW.PrintLast Go.Proofs.YtkoeehacildioaaW.PrintMore
theorem sawtoothlaw02_BigBack.pure : ∀ (a0_0 : Bool) (a0_1 : Int) (a0_2 : Int) (a1_0 : Bool) (a1_1 : Int) (a1_2 : Int), (Lit.int .u64 a0_1).wf = true → (Lit.int .u64 a0_2).wf = true → (Lit.int .u64 a1_1).wf = true → (Lit.int .u64 a1_2).wf = true → sawtoothlaw02_BigBack.f a0_0 a0_1 a0_2 a1_0 a1_1 a1_2 = some true := by
  intro n h l m i k w1 w2 w3 w4
  have h1 := wf_u64.1 w1
  have h2 := wf_u64.1 w2
  have h3 := wf_u64.1 w3
  have h4 := wf_u64.1 w4
  have hB1 := val_B (n := n) h1 h2
  have hB2 := val_B (n := m) h3 h4
  have z1 : (!false && ((0 : Int) == 0 && ((0 : Int) == 0))) = true := rfl
  unfold sawtoothlaw02_BigBack.f sawtoothlaw02_awakeS.f
  simp only [Option.bind_some]
  rw [big_AddS.eq h1 h2 h3 h4, big_AddS.eq h3 h4 h1 h2, big_NegS.eq h3 h4, big_NegS.eq h1 h2]
  simp only [Option.bind_some]
  rw [big_NegS.enc (by omega), big_AddS.le h1 h2 (by omega)]
  simp only [Option.bind_some]
  rw [big_CmpS.el (by omega) h1 h2]
  have e0 : val n h l + -val n h l = 0 := by omega
  have e1 : cmpI (- -val n h l) (val n h l) = 0 := cmpI_eq (by omega)
  rw [e0, e1, held_in (v := 0) (by omega)]
  have ec : ∀ x y z : Int, big_CmpS.f (encN (x + y)) (encH (x + y)) (encL (x + y)) n h l = big_CmpS.f (encN (x + y)) (encH (x + y)) (encL (x + y)) n h l := fun _ _ _ => rfl
  have hcm : ∀ v : Int, B v → big_CmpS.f (encN v) (encH v) (encL v) n h l = some (cmpI v (val n h l)) := fun v hv => big_CmpS.el hv h1 h2
  have had : ∀ v : Int, B v → big_AddS.f (encN v) (encH v) (encL v) (encN (-val m i k)) (encH (-val m i k)) (encL (-val m i k)) = held (v + -val m i k) := fun v hv => big_AddS.enc hv (by omega)
  have hz : ∀ v : Int, (!encN v && (encH v == 0 && (encL v == 0))) = decide (v = 0) := fun v => by rw [enc_lit (by omega) (by omega)]; simp
  have hover : ∀ v : Int, B v → big_AddS.f false 0 0 (encN v) (encH v) (encL v) = held v := fun v hv => by rw [big_AddS.le (by omega) (by omega) hv, val_f]; simp
  have hov : big_AddS.f false 0 0 (encN (-val m i k)) (encH (-val m i k)) (encL (-val m i k)) = held (-val m i k) := hover _ (by omega)
  rw [Int.add_comm (val m i k)]
  by_cases hb : B (val n h l + val m i k)
  · rw [held_in hb]
    simp only [Option.bind_some]
    rw [had _ hb, show val n h l + val m i k + -val m i k = val n h l by omega, held_in hB1]
    simp only [Option.bind_some]
    rw [hcm _ hB1, cmpI_eq rfl, enc_beq]
    simp only [hz]
    simp
  · rw [held_out hb]
    simp only [Option.bind_some]
    rw [hov, held_in (by omega)]
    simp only [Option.bind_some]
    simp only [hz]
    simp
end Go.Proofs.Ytkoeehacildioaa.Px
