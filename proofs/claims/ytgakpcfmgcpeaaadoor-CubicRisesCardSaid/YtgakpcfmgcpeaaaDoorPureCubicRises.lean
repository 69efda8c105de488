/- The law CubicRises, of the Lean functions alone: it answers true at every input. No conditions. -/
import Derived.Test.YtgakpcfmgcpeaaaDoorPx41
import Derived.Test.YtgakpcfmgcpeaaaDoorSpec
namespace Go.Proofs.YtgakpcfmgcpeaaaDoor.Px
open Go.Proofs.YtgakpcfmgcpeaaaDoor.Sp Go.RowKit Go.Proofs.YtgakpcfmgcpeaaaDoorW.PrintWords Go.Proofs.YtgakpcfmgcpeaaaDoorW.PrintLast Go.Proofs.YtgakpcfmgcpeaaaDoorW.PrintMore
theorem sawtoothlaw12_CubicRises.pure : ∀ (a0_0 : Bool) (a0_1 : Int) (a0_2 : Int) (a0_3 : Int) (a0_4 : Int) (a0_5 : Int) (a1 : Int) (a2 : Int), (Lit.int .i64 a0_1).wf = true → (Lit.int .i64 a0_2).wf = true → (Lit.int .i64 a0_3).wf = true → (Lit.int .i64 a0_4).wf = true → (Lit.int .i64 a0_5).wf = true → (Lit.int .i64 a1).wf = true → (Lit.int .i64 a2).wf = true → sawtoothlaw12_CubicRises.f a0_0 a0_1 a0_2 a0_3 a0_4 a0_5 a1 a2 = some true := by
  intro on s f m k e a b w1 w2 w3 w4 w5 w6 w7
  have h1 := wf_i64.1 w1
  have h2 := wf_i64.1 w2
  have h3 := wf_i64.1 w3
  have h4 := wf_i64.1 w4
  have h6 := wf_i64.1 w6
  have h7 := wf_i64.1 w7
  unfold sawtoothlaw12_CubicRises.f sawtoothlaw12_awakeS.f
  have p1 : I (mn a b) ∧ I (mx a b) ∧ mn a b ≤ mx a b := by unfold mn mx; (repeat' split) <;> omega
  generalize mn a b = x at *
  generalize mx a b = y at *
  rw [cubic_RiseS.eq p1.1, cubic_RiseS.eq p1.2.1, cubic_AtS.eq h1 h2 h3 h4 p1.1, cubic_AtS.eq h1 h2 h3 h4 p1.2.1, cubic_AtS.eq h1 h2 h3 h4 h6]
  have q1 := riseQ_mono p1.2.2
  have q2 : atQ on s f m k e x ≤ atQ on s f m k e y := by
    unfold atQ
    split
    · exact lawQ_mono (by omega)
    · omega
  have q3 : 0 ≤ atQ on s f m k e a ∧ atQ on s f m k e a ≤ 68719476736 := by
    unfold atQ
    split
    · exact lawQ_bd _ _ _
    · omega
  generalize atQ on s f m k e x = X at *
  generalize atQ on s f m k e y = Y at *
  generalize atQ on s f m k e a = Z at *
  generalize riseQ x = U at *
  generalize riseQ y = V at *
  simp [q1, q2, q3.1, q3.2]
end Go.Proofs.YtgakpcfmgcpeaaaDoor.Px
