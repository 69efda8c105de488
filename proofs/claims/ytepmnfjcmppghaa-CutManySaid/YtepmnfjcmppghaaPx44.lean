/- Printed by a program of this session (wip/tool/px.py), over the kit's print: for each Go function a Lean function, and the proof that the machine's call answers as that function says. Conditions: none beside what the theorems state. -/
import Derived.Test.YtepmnfjcmppghaaPx0
import Derived.Test.YtepmnfjcmppghaaPx35
import Derived.Test.YtepmnfjcmppghaaPx39
import Derived.Test.YtepmnfjcmppghaaPx41
import Derived.Test.YtepmnfjcmppghaaPx42
import Derived.Test.YtepmnfjcmppghaaPx43
import Derived.Test.YtepmnfjcmppghaaSpec
namespace Go.Proofs.Ytepmnfjcmppghaa.Px
open Go.RowKit Go.Proofs.YtepmnfjcmppghaaW.PrintWords Go.Proofs.YtepmnfjcmppghaaW.PrintLast Go.Proofs.YtepmnfjcmppghaaW.PrintMore
attribute [local go_sem] max2_int min2_int max_two min_two max_three min_three max_four min_four   -- for this text's walks alone
set_option linter.unusedVariables false
set_option linter.unusedSimpArgs false

/-! ### sawtoothlaw15_awakeS: pure, behind function 13 -/
noncomputable def sawtoothlaw15_awakeS.f : Option Bool := some true
section
open Go.Proofs.Ytepmnfjcmppghaa.Sp
theorem sawtoothlaw15_awake.main : sawtoothlaw15_awake.f = some true := by
 have f1 : cut_LossS.f 655360 786432 = some (458752, 557056) := by rw [cut_LossS.eq (by omega) (by omega)]; simp [win, leastW, fastQ, clamp]
 have f2 : cut_LossS.f 655360 589824 = some (458752, 655360) := by rw [cut_LossS.eq (by omega) (by omega)]; simp [win, leastW, fastQ, clamp]
 have f3 : cut_TimeoutS.f 655360 786432 = some (131072, 458752, 557056) := by rw [cut_TimeoutS.eq (by omega) (by omega)]; simp [win, leastW, fastQ, clamp]
 have f4 : cut_LeastS.f 0 = some 131072 := by rw [cut_LeastS.eq (by omega)]; simp [win, leastW, clamp]
 have f5 : cut_LeastS.f 4611686018427387904 = some 48103633715 := by rw [cut_LeastS.eq (by omega)]; simp [win, leastW, clamp]
 have f6 : cut_LeastS.f 131072 = some 131072 := by rw [cut_LeastS.eq (by omega)]; simp [win, leastW, clamp]
 have f7 : cut_Many.f 6553600 2 = some 3211264 := by rw [cut_Many.eq (by omega) (by omega)]; simp [win, clamp, manyW, leastW]
 have f8 : cut_Many.f 68719476736 4611686018427387904 = some 131072 := by rw [cut_Many.eq (by omega) (by omega), show (clamp 4611686018427387904 0 64).toNat = 64 by simp [clamp], manyW_end (win_bd _).1 (win_bd _).2 (by omega)]
 have f9 : cut_Many.f 5 (-3) = some 131072 := by rw [cut_Many.eq (by omega) (by omega)]; simp [win, clamp, manyW, leastW]
 unfold sawtoothlaw15_awake.f
 simp only [f1, f2, f3, f4, f5, f6, f7, f8, f9, Option.bind_some, if_true, eq_self, beq_self_eq_true]
end
theorem sawtoothlaw15_awakeS.calls (r : Bool) (w : World) (h : sawtoothlaw15_awakeS.f = some r) :
  Calls Try.prog 13 #[] w fun e w' => e = .returned (.bool r) ∧ Below w.heap.size w w' :=
 sawtoothlaw15_awake.calls r w (by rw [sawtoothlaw15_awake.main]; exact h)

end Go.Proofs.Ytepmnfjcmppghaa.Px
