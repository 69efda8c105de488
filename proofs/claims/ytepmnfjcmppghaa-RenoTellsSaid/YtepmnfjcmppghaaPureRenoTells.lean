/- The law RenoTells of what the program's functions answer, in plain numbers and lists, without Go or memory. Conditions: as the statement has them. -/
import Derived.Test.YtepmnfjcmppghaaPx32
import Derived.Test.YtepmnfjcmppghaaSpec
namespace Go.Proofs.Ytepmnfjcmppghaa.Pure
open Go.Proofs.Ytepmnfjcmppghaa.Sp Go.RowKit Go.Proofs.Ytepmnfjcmppghaa.Px Go.Proofs.YtepmnfjcmppghaaW.PrintWords Go.Proofs.YtepmnfjcmppghaaW.PrintLast
set_option maxRecDepth 100000
theorem RenoTells : sawtoothlaw13_RenoTells.Pure := by
  intro e p v l w1 w2 w3 hl hl2 hx
  have h1 := wf_i64.1 w1
  have h2 := wf_i64.1 w2
  have h3 := wf_i64.1 w3
  have hI : ∀ x ∈ l, I x := fun x m => wf_i64.1 (hx x m)
  unfold sawtoothlaw13_RenoTells.f sawtoothlaw13_awakeS.f
  simp only [Option.bind_some]
  by_cases hL : (l.length : Int) > 100
  · exact ⟨0, by rw [if_pos hL]⟩
  refine ⟨l.length + 2, ?_⟩
  rw [if_neg hL]
  have key : ∀ (j i : Nat), i + j = l.length → sawtoothlaw13_RenoTells.l0 (j + 1) e p v l true true (i : Int) = some true := by
    intro j
    induction j with
    | zero =>
      intro i hi
      rw [sawtoothlaw13_RenoTells.l0, if_neg (by omega), if_pos rfl, if_pos rfl, reno_StepsS.eq h1 h2 h3 hI (by omega), sawtoothref13_StepsS.eq h1 h2 h3 hI (by omega)]
      simp
    | succ j ih =>
      intro i hi
      have hlt : i < l.length := by omega
      have hr : rd l (i : Int) = l[i] := by simp [rd, hlt]
      have hw : RowKit.wrap64 ((i : Int) + 1) = ((i + 1 : Nat) : Int) := by rw [w64 (by omega)]; omega
      rw [sawtoothlaw13_RenoTells.l0, if_pos (by omega), if_pos (by omega), hr, reno_StepS.eq h1 h2 h3 (hI _ (List.getElem_mem hlt)), sawtoothref13_StepS.eq h1 h2 h3 (hI _ (List.getElem_mem hlt))]
      simp only [Option.bind_some, if_true]
      rw [hw]; exact ih (i + 1) (by omega)
  have fin : sawtoothlaw13_RenoTells.j0 (l.length + 2) e p v l true true = some true := by rw [sawtoothlaw13_RenoTells.j0]; exact key l.length 0 (by omega)
  unfold reno_Part.f
  by_cases c : e < p
  · simp only [if_pos c, Option.bind_some, if_true]; exact fin
  · have c2 : e ≥ p := by omega
    simp only [if_neg c, if_pos c2, Option.bind_some, if_true]; exact fin

end Go.Proofs.Ytepmnfjcmppghaa.Pure
