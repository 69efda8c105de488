/- Printed by a program of this session (wip/tool/px.py), over the kit's print: for each Go function a Lean function, and the proof that the machine's call answers as that function says. Conditions: none beside what the theorems state. -/
import Derived.Test.YtlcobnngpcabpaaPx0
import Derived.Test.YtlcobnngpcabpaaPx13
import Derived.Test.YtlcobnngpcabpaaPx20
import Derived.Test.YtlcobnngpcabpaaSpec
namespace Go.Proofs.Ytlcobnngpcabpaa.Px
open Go.RowKit Go.Proofs.YtlcobnngpcabpaaW.PrintWords Go.Proofs.YtlcobnngpcabpaaW.PrintLast Go.Proofs.YtlcobnngpcabpaaW.PrintMore
attribute [local go_sem] max2_int min2_int max_two min_two max_three min_three max_four min_four   -- for this text's walks alone
set_option linter.unusedVariables false
set_option linter.unusedSimpArgs false

/-! ### big_NegS: that of the other sign: pure, behind function 15 -/
noncomputable def big_NegS.f (n : Bool) (h l : Int) : Option (Bool × Int × Int) := Go.Proofs.Ytlcobnngpcabpaa.Sp.need (Go.Proofs.Ytlcobnngpcabpaa.Sp.U h ∧ Go.Proofs.Ytlcobnngpcabpaa.Sp.U l) (some (Go.Proofs.Ytlcobnngpcabpaa.Sp.encN (-Go.Proofs.Ytlcobnngpcabpaa.Sp.val n h l), Go.Proofs.Ytlcobnngpcabpaa.Sp.encH (-Go.Proofs.Ytlcobnngpcabpaa.Sp.val n h l), Go.Proofs.Ytlcobnngpcabpaa.Sp.encL (-Go.Proofs.Ytlcobnngpcabpaa.Sp.val n h l)))
theorem big_NegS.eq {n : Bool} {h l : Int} (h1 : Go.Proofs.Ytlcobnngpcabpaa.Sp.U h) (h2 : Go.Proofs.Ytlcobnngpcabpaa.Sp.U l) : big_NegS.f n h l = some (Go.Proofs.Ytlcobnngpcabpaa.Sp.encN (-Go.Proofs.Ytlcobnngpcabpaa.Sp.val n h l), Go.Proofs.Ytlcobnngpcabpaa.Sp.encH (-Go.Proofs.Ytlcobnngpcabpaa.Sp.val n h l), Go.Proofs.Ytlcobnngpcabpaa.Sp.encL (-Go.Proofs.Ytlcobnngpcabpaa.Sp.val n h l)) := Go.Proofs.Ytlcobnngpcabpaa.Sp.need_pos ⟨h1, h2⟩
theorem big_NegS.enc {v : Int} (h : Go.Proofs.Ytlcobnngpcabpaa.Sp.B v) : big_NegS.f (Go.Proofs.Ytlcobnngpcabpaa.Sp.encN v) (Go.Proofs.Ytlcobnngpcabpaa.Sp.encH v) (Go.Proofs.Ytlcobnngpcabpaa.Sp.encL v) = some (Go.Proofs.Ytlcobnngpcabpaa.Sp.encN (-v), Go.Proofs.Ytlcobnngpcabpaa.Sp.encH (-v), Go.Proofs.Ytlcobnngpcabpaa.Sp.encL (-v)) := by
 rw [big_NegS.eq (Go.Proofs.Ytlcobnngpcabpaa.Sp.encH_U h) Go.Proofs.Ytlcobnngpcabpaa.Sp.encL_U, Go.Proofs.Ytlcobnngpcabpaa.Sp.val_enc]
theorem big_NegS.calls (a0_0 : Bool) (a0_1 a0_2 : Int) (r1 : Bool) (r2 r3 : Int) (w : World) (h : big_NegS.f a0_0 a0_1 a0_2 = some (r1, r2, r3)) :
  Calls Try.prog 15 #[.agg #[.bool a0_0, .int .u64 a0_1, .int .u64 a0_2]] w fun e w' => e = .returned (.agg #[.bool r1, .int .u64 r2, .int .u64 r3]) ∧ Below w.heap.size w w' := by
 obtain ⟨hc, h⟩ := Go.Proofs.Ytlcobnngpcabpaa.Sp.need_some h; refine big_Neg.calls a0_0 a0_1 a0_2 r1 r2 r3 w ?_
 rw [← h]
 unfold big_Neg.f big_of.f
 simp only [Option.bind_some]
 rw [big_with.eq hc.1 hc.2]
 simp only [Option.bind_some]
 have e : Go.Proofs.Ytlcobnngpcabpaa.Sp.val (!a0_0) a0_1 a0_2 = -Go.Proofs.Ytlcobnngpcabpaa.Sp.val a0_0 a0_1 a0_2 := by
  unfold Go.Proofs.Ytlcobnngpcabpaa.Sp.val; cases a0_0 <;> simp
 rw [e]

end Go.Proofs.Ytlcobnngpcabpaa.Px
