/- Printed by a program of this session (wip/tool/px.py), over the kit's print: for each Go function a Lean function, and the proof that the machine's call answers as that function says. Conditions: none beside what the theorems state. -/
import Derived.Test.YtepmnfjcmppghaaPx0
import Derived.Test.YtepmnfjcmppghaaPx31
import Derived.Test.YtepmnfjcmppghaaPx36
import Derived.Test.YtepmnfjcmppghaaSpec
namespace Go.Proofs.Ytepmnfjcmppghaa.Px
open Go.RowKit Go.Proofs.YtepmnfjcmppghaaW.PrintWords Go.Proofs.YtepmnfjcmppghaaW.PrintLast Go.Proofs.YtepmnfjcmppghaaW.PrintMore
attribute [local go_sem] max2_int min2_int max_two min_two max_three min_three max_four min_four   -- for this text's walks alone
set_option linter.unusedVariables false
set_option linter.unusedSimpArgs false

/-! ### epoch_FastS: pure, behind function 27 -/
noncomputable def epoch_FastS.f (a b : Int) : Option Int := Go.Proofs.Ytepmnfjcmppghaa.Sp.need (Go.Proofs.Ytepmnfjcmppghaa.Sp.I a ∧ Go.Proofs.Ytepmnfjcmppghaa.Sp.I b) (some (Go.Proofs.Ytepmnfjcmppghaa.Sp.fastQ a b))
theorem epoch_FastS.eq {a b : Int} (h1 : Go.Proofs.Ytepmnfjcmppghaa.Sp.I a) (h2 : Go.Proofs.Ytepmnfjcmppghaa.Sp.I b) : epoch_FastS.f a b = some (Go.Proofs.Ytepmnfjcmppghaa.Sp.fastQ a b) := Go.Proofs.Ytepmnfjcmppghaa.Sp.need_pos ⟨h1, h2⟩
section
open Go.Proofs.Ytepmnfjcmppghaa.Sp
theorem epoch_Fast.main {a b : Int} (h1 : Go.Proofs.Ytepmnfjcmppghaa.Sp.I a) (h2 : Go.Proofs.Ytepmnfjcmppghaa.Sp.I b) : epoch_Fast.f a b = some (Go.Proofs.Ytepmnfjcmppghaa.Sp.fastQ a b) := by
 unfold epoch_Fast.f fastQ
 by_cases c : b ≥ a
 ·rw [if_pos c, if_pos c]
 ·rw [if_neg c, if_neg c]
  have e : mx b 0 = if b < 0 then 0 else b := rfl
  rw [e]
  have hm : 0 ≤ (if b < 0 then 0 else b) ∧ (if b < 0 then 0 else b) ≤ 9223372036854775807 := by split <;> omega
  generalize (if b < 0 then 0 else b) = m at hm ⊢
  rw [frac_FloorS.eq (by omega) (by omega) (by omega), floorQ_in (by omega) (by omega)]
  rfl
end
theorem epoch_FastS.calls (a b r : Int) (w : World) (h : epoch_FastS.f a b = some r) :
  Calls Try.prog 27 #[.int .i64 a, .int .i64 b] w fun e w' => e = .returned (.int .i64 r) ∧ Below w.heap.size w w' := by
 obtain ⟨hc, h⟩ := Go.Proofs.Ytepmnfjcmppghaa.Sp.need_some h
 obtain ⟨h1, h2⟩ := hc
 exact epoch_Fast.calls a b r w (by rw [epoch_Fast.main h1 h2]; exact h)

end Go.Proofs.Ytepmnfjcmppghaa.Px
