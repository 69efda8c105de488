/- The law CubicTells, of the Lean functions alone: it answers true at every input. No conditions. -/
import Derived.Test.YtgakpcfmgcpeaaaDoorPx40
import Derived.Test.YtgakpcfmgcpeaaaDoorSpec
namespace Go.Proofs.YtgakpcfmgcpeaaaDoor.Px
open Go.Proofs.YtgakpcfmgcpeaaaDoor.Sp Go.RowKit Go.Proofs.YtgakpcfmgcpeaaaDoorW.PrintWords Go.Proofs.YtgakpcfmgcpeaaaDoorW.PrintLast Go.Proofs.YtgakpcfmgcpeaaaDoorW.PrintMore
theorem sawtoothlaw12_CubicTells.pure : ∀ (a0_0 : Bool) (a0_1 : Int) (a0_2 : Int) (a0_3 : Int) (a0_4 : Int) (a0_5 : Int) (a1 : Int) (a2 : Int) (a3 : Int), (Lit.int .i64 a0_1).wf = true → (Lit.int .i64 a0_2).wf = true → (Lit.int .i64 a0_3).wf = true → (Lit.int .i64 a0_4).wf = true → (Lit.int .i64 a0_5).wf = true → (Lit.int .i64 a1).wf = true → (Lit.int .i64 a2).wf = true → (Lit.int .i64 a3).wf = true → sawtoothlaw12_CubicTells.f a0_0 a0_1 a0_2 a0_3 a0_4 a0_5 a1 a2 a3 = some true := by
  intro on s f m k e d now wd w1 w2 w3 w4 w5 w6 w7 w8
  have h1 := wf_i64.1 w1
  have h2 := wf_i64.1 w2
  have h3 := wf_i64.1 w3
  have h4 := wf_i64.1 w4
  have h5 := wf_i64.1 w5
  have h6 := wf_i64.1 w6
  have h7 := wf_i64.1 w7
  have h8 := wf_i64.1 w8
  unfold sawtoothlaw12_CubicTells.f sawtoothlaw12_awakeS.f
  rw [cubic_Reach.eq h1 h2 h3 h4 h5 h8, sawtoothref12_ReachS.eq h1 h2 h3 h4 h8, cubic_RiseS.eq h6, sawtoothref12_RiseS.eq h6, cubic_AtS.eq h1 h2 h3 h4 h7, sawtoothref12_AtS.eq h1 h2 h3 h4 h7, cubic_TargetS.eq h1 h2 h3 h4 h7 h8, sawtoothref12_TargetS.eq h1 h2 h3 h4 h7 h8]
  generalize reachQ on s f m k e wd = r
  generalize riseQ d = x
  generalize atQ on s f m k e now = y
  generalize targetQ on s f m k e now wd = z
  simp
end Go.Proofs.YtgakpcfmgcpeaaaDoor.Px
