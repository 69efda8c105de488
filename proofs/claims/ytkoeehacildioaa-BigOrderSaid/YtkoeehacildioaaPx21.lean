/- Printed by a program of this session (wip/tool/px.py), over the kit's print: for each Go function a Lean function, and the proof that the machine's call answers as that function says. Conditions: none beside what the theorems state. -/
import Derived.Test.YtkoeehacildioaaPx0
import Derived.Test.YtkoeehacildioaaPx13
import Derived.Test.YtkoeehacildioaaPx20
import Derived.Test.YtkoeehacildioaaSpec
namespace Go.Proofs.Ytkoeehacildioaa.Px
open Go.RowKit Go.Proofs.YtkoeehacildioaaW.PrintWords Go.Proofs.YtkoeehacildioaaW.PrintLast Go.Proofs.YtkoeehacildioaaW.PrintMore
attribute [local go_sem] max2_int min2_int max_two min_two max_three min_three max_four min_four   -- for this text's walks alone
set_option linter.unusedVariables false
set_option linter.unusedSimpArgs false

/-! ### big_NegS: that of the other sign: pure, behind function 26 -/
noncomputable def big_NegS.f (n : Bool) (h l : Int) : Option (Bool × Int × Int) := Go.Proofs.Ytkoeehacildioaa.Sp.need (Go.Proofs.Ytkoeehacildioaa.Sp.U h ∧ Go.Proofs.Ytkoeehacildioaa.Sp.U l) (some (Go.Proofs.Ytkoeehacildioaa.Sp.encN (-Go.Proofs.Ytkoeehacildioaa.Sp.val n h l), Go.Proofs.Ytkoeehacildioaa.Sp.encH (-Go.Proofs.Ytkoeehacildioaa.Sp.val n h l), Go.Proofs.Ytkoeehacildioaa.Sp.encL (-Go.Proofs.Ytkoeehacildioaa.Sp.val n h l)))
theorem big_NegS.eq {n : Bool} {h l : Int} (h1 : Go.Proofs.Ytkoeehacildioaa.Sp.U h) (h2 : Go.Proofs.Ytkoeehacildioaa.Sp.U l) : big_NegS.f n h l = some (Go.Proofs.Ytkoeehacildioaa.Sp.encN (-Go.Proofs.Ytkoeehacildioaa.Sp.val n h l), Go.Proofs.Ytkoeehacildioaa.Sp.encH (-Go.Proofs.Ytkoeehacildioaa.Sp.val n h l), Go.Proofs.Ytkoeehacildioaa.Sp.encL (-Go.Proofs.Ytkoeehacildioaa.Sp.val n h l)) := Go.Proofs.Ytkoeehacildioaa.Sp.need_pos ⟨h1, h2⟩
theorem big_NegS.enc {v : Int} (h : Go.Proofs.Ytkoeehacildioaa.Sp.B v) : big_NegS.f (Go.Proofs.Ytkoeehacildioaa.Sp.encN v) (Go.Proofs.Ytkoeehacildioaa.Sp.encH v) (Go.Proofs.Ytkoeehacildioaa.Sp.encL v) = some (Go.Proofs.Ytkoeehacildioaa.Sp.encN (-v), Go.Proofs.Ytkoeehacildioaa.Sp.encH (-v), Go.Proofs.Ytkoeehacildioaa.Sp.encL (-v)) := by
 rw [big_NegS.eq (Go.Proofs.Ytkoeehacildioaa.Sp.encH_U h) Go.Proofs.Ytkoeehacildioaa.Sp.encL_U, Go.Proofs.Ytkoeehacildioaa.Sp.val_enc]
theorem big_NegS.calls (a0_0 : Bool) (a0_1 a0_2 : Int) (r1 : Bool) (r2 r3 : Int) (w : World) (h : big_NegS.f a0_0 a0_1 a0_2 = some (r1, r2, r3)) :
  Calls Try.prog 26 #[.agg #[.bool a0_0, .int .u64 a0_1, .int .u64 a0_2]] w fun e w' => e = .returned (.agg #[.bool r1, .int .u64 r2, .int .u64 r3]) ∧ Below w.heap.size w w' := by
 obtain ⟨hc, h⟩ := Go.Proofs.Ytkoeehacildioaa.Sp.need_some h; refine big_Neg.calls a0_0 a0_1 a0_2 r1 r2 r3 w ?_
 rw [← h]
 unfold big_Neg.f big_of.f
 simp only [Option.bind_some]
 rw [big_with.eq hc.1 hc.2]
 simp only [Option.bind_some]
 have e : Go.Proofs.Ytkoeehacildioaa.Sp.val (!a0_0) a0_1 a0_2 = -Go.Proofs.Ytkoeehacildioaa.Sp.val a0_0 a0_1 a0_2 := by
  unfold Go.Proofs.Ytkoeehacildioaa.Sp.val; cases a0_0 <;> simp
 rw [e]

end Go.Proofs.Ytkoeehacildioaa.Px
