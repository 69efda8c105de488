/- Printed by a program of this session (wip/tool/px.py), over the kit's print: for each Go function a Lean function, and the proof that the machine's call answers as that function says. Conditions: none beside what the theorems state. -/
import Derived.Test.YtkoeehacildioaaPx0
import Derived.Test.YtkoeehacildioaaPx28
import Derived.Test.YtkoeehacildioaaPx35
import Derived.Test.YtkoeehacildioaaSpec
namespace Go.Proofs.Ytkoeehacildioaa.Px
open Go.RowKit Go.Proofs.YtkoeehacildioaaW.PrintWords Go.Proofs.YtkoeehacildioaaW.PrintLast Go.Proofs.YtkoeehacildioaaW.PrintMore
attribute [local go_sem] max2_int min2_int max_two min_two max_three min_three max_four min_four   -- for this text's walks alone
set_option linter.unusedVariables false
set_option linter.unusedSimpArgs false

/-! ### frac_BytesS: pure, behind function 41 -/
noncomputable def frac_BytesS.f (a c : Int) : Option (Int × Int) := Go.Proofs.Ytkoeehacildioaa.Sp.need (Go.Proofs.Ytkoeehacildioaa.Sp.I a ∧ Go.Proofs.Ytkoeehacildioaa.Sp.I c) (Go.Proofs.Ytkoeehacildioaa.Sp.floorQ a c 65536)
theorem frac_BytesS.eq {a c : Int} (h1 : Go.Proofs.Ytkoeehacildioaa.Sp.I a) (h2 : Go.Proofs.Ytkoeehacildioaa.Sp.I c) : frac_BytesS.f a c = Go.Proofs.Ytkoeehacildioaa.Sp.floorQ a c 65536 := Go.Proofs.Ytkoeehacildioaa.Sp.need_pos ⟨h1, h2⟩
theorem frac_BytesS.calls (a0 a1 r1 r2 : Int) (w : World) (h : frac_BytesS.f a0 a1 = some (r1, r2)) :
  Calls Try.prog 41 #[.int .i64 a0, .int .i64 a1] w fun e w' => e = .returned (.tuple #[.int .i64 r1, .int .i64 r2]) ∧ Below w.heap.size w w' := by
 obtain ⟨hc, h⟩ := Go.Proofs.Ytkoeehacildioaa.Sp.need_some h
 refine frac_Bytes.calls a0 a1 r1 r2 w ?_
 unfold frac_Bytes.f
 rw [frac_FloorS.eq (by omega) (by omega) (by omega), h]
 rfl

end Go.Proofs.Ytkoeehacildioaa.Px
