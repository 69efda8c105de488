/- The law CubicExact, of the Lean functions alone: it answers true at every input. No conditions. -/
import Derived.Test.YtgakpcfmgcpeaaaDoorPx41
import Derived.Test.YtgakpcfmgcpeaaaDoorSpec
namespace Go.Proofs.YtgakpcfmgcpeaaaDoor.Px
open Go.Proofs.YtgakpcfmgcpeaaaDoor.Sp Go.RowKit Go.Proofs.YtgakpcfmgcpeaaaDoorW.PrintWords Go.Proofs.YtgakpcfmgcpeaaaDoorW.PrintLast Go.Proofs.YtgakpcfmgcpeaaaDoorW.PrintMore
theorem sawtoothlaw12_CubicExact.pure : ∀ (a0 : Int), (Lit.int .i32 a0).wf = true → sawtoothlaw12_CubicExact.f a0 = some true := by
  intro a w1
  have h1 := wf_i32.1 w1
  unfold sawtoothlaw12_CubicExact.f sawtoothlaw12_awakeS.f sawtoothref02_OfS.f sawtoothref02_Scale.f sawtoothref02_CmpS.f
  have rb := riseQ_bd a
  have rb2 := riseQ_bd (-a)
  have cb := c31_cube a
  have c0 : c31 a = a := by unfold c31; exact clamp_in (by omega) (by omega)
  have c1 : c31 (-a) = -a := by unfold c31; exact clamp_in (by omega) (by omega)
  have e0 : riseQ a = a * a * a * 262144 / 10000000000000000000 := by unfold riseQ; rw [c0]
  have e1 : riseQ (-a) = (-(a * a * a)) * 262144 / 10000000000000000000 := by unfold riseQ; rw [c1, Int.neg_mul_neg, Int.mul_neg]
  rw [c0] at cb
  rw [w64 (x := a) (by omega), w64 (x := -a) (by omega), cubic_RiseS.eq (by omega), cubic_RiseS.eq (by omega), sawtoothref12_CubedS.eq (by omega)]
  simp only [Option.bind_some]
  generalize riseQ a = n at *
  generalize riseQ (-a) = u at *
  generalize a * a * a = c at *
  rw [w64 (x := n + 1) (by omega), w64 (x := -n) (by omega), w64 (x := -n - 1) (by omega), ofF_eq (by omega), ofF_eq (by omega)]
  simp only [Option.bind_some]
  rw [scaleF_enc (by omega) (by omega), held_in (by omega), scaleF_enc (by omega) (by omega), held_in (by omega)]
  simp only [Option.bind_some, if_true]
  rw [cmpF_enc (by omega) (by omega), cmpF_enc (by omega) (by omega)]
  simp only [Option.bind_some]
  have d1 : cmpI (n * 10000000000000000000) (c * 262144) ≤ 0 := by unfold cmpI; (repeat' split) <;> omega
  have d2 : cmpI ((n + 1) * 10000000000000000000) (c * 262144) > 0 := by unfold cmpI; (repeat' split) <;> omega
  rw [if_pos d1, if_pos d2]
  by_cases x : u = -n
  · rw [if_pos x]
  · rw [if_neg x, show (u == -n - 1) = true from beq_iff_eq.mpr (by omega)]
end Go.Proofs.YtgakpcfmgcpeaaaDoor.Px
