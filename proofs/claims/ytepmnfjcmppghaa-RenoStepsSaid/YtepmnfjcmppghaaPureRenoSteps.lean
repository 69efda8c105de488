/- The law RenoSteps of what the program's functions answer, in plain numbers and lists, without Go or memory. Conditions: as the statement has them. -/
import Derived.Test.YtepmnfjcmppghaaPx32
import Derived.Test.YtepmnfjcmppghaaSpec
namespace Go.Proofs.Ytepmnfjcmppghaa.Pure
open Go.Proofs.Ytepmnfjcmppghaa.Sp Go.RowKit Go.Proofs.Ytepmnfjcmppghaa.Px Go.Proofs.YtepmnfjcmppghaaW.PrintWords Go.Proofs.YtepmnfjcmppghaaW.PrintLast
set_option maxRecDepth 100000
theorem RenoSteps : sawtoothlaw13_RenoSteps.Pure := by
  intro e p v l c w0 w1 w2 hl hl2 hx w4
  have h0 := wf_u32.1 w0
  have h1 := wf_i64.1 w1
  have h2 := wf_i64.1 w2
  have hI : ∀ x ∈ l, I x := fun x m => wf_i64.1 (hx x m)
  have h4 := wf_u8.1 w4
  unfold sawtoothlaw13_RenoSteps.f sawtoothlaw13_awakeS.f
  simp only [Option.bind_some]
  by_cases hL : (l.length : Int) > 100
  · rw [if_pos hL]
  · rw [if_neg hL, w64 (x := e) (by omega), w64 (x := c) (by omega), w64 (x := (l.length : Int) + 1) (by omega), if_neg (by omega)]
    have e1 : Int.tmod c ((l.length : Int) + 1) = c % ((l.length : Int) + 1) := Int.tmod_eq_emod_of_nonneg (by omega)
    have m1 := Int.emod_nonneg c (show (l.length : Int) + 1 ≠ 0 by omega)
    have m2 := Int.emod_lt_of_pos c (show 0 < (l.length : Int) + 1 by omega)
    rw [e1]
    generalize c % ((l.length : Int) + 1) = k at m1 m2 ⊢
    have b1 := stepsQ_bd p v (l.take k.toNat) (e := e) (by omega) (by omega)
    rw [if_pos m1, if_pos (by omega), reno_StepsS.eq (by omega) h1 h2 (fun x m => hI x (List.mem_of_mem_take m)) (by simp only [List.length_take]; omega)]
    simp only [Option.bind_some, if_true]
    rw [reno_StepsS.eq (by omega) h1 h2 (fun x m => hI x (List.mem_of_mem_drop m)) (by simp only [List.length_drop]; omega), reno_StepsS.eq (by omega) h1 h2 hI (by omega), stepsQ_parts, reno_StepS.eq (by omega) h1 h2 (by omega), stepQ_none (by omega) (by omega)]
    simp only [Option.bind_some, if_true]
    rw [decide_eq_true b1.1]

end Go.Proofs.Ytepmnfjcmppghaa.Pure
