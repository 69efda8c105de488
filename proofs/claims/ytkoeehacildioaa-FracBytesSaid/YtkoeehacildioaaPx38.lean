/- Printed by a program of this session (wip/tool/px.py), over the kit's print: for each Go function a Lean function, and the proof that the machine's call answers as that function says. Conditions: none beside what the theorems state. -/
import Derived.Test.YtkoeehacildioaaPx0
import Derived.Test.YtkoeehacildioaaPx28
import Derived.Test.YtkoeehacildioaaPx30
import Derived.Test.YtkoeehacildioaaPx32
import Derived.Test.YtkoeehacildioaaPx34
import Derived.Test.YtkoeehacildioaaPx36
import Derived.Test.YtkoeehacildioaaPx37
import Derived.Test.YtkoeehacildioaaSpec
namespace Go.Proofs.Ytkoeehacildioaa.Px
open Go.RowKit Go.Proofs.YtkoeehacildioaaW.PrintWords Go.Proofs.YtkoeehacildioaaW.PrintLast Go.Proofs.YtkoeehacildioaaW.PrintMore
attribute [local go_sem] max2_int min2_int max_two min_two max_three min_three max_four min_four   -- for this text's walks alone
set_option linter.unusedVariables false
set_option linter.unusedSimpArgs false

/-! ### sawtoothlaw04_awakeS: pure, behind function 32 -/
noncomputable def sawtoothlaw04_awakeS.f : Option Bool := some true
section Awake04
open Go.Proofs.Ytkoeehacildioaa.Sp
theorem sawtoothlaw04_awake.main : sawtoothlaw04_awake.f = some true := by
 have f1 : frac_FloorS.f (-7) (1) (2) = some (-4, 0) := by rw [frac_FloorS.eq (by omega) (by omega) (by omega)]; unfold floorQ; rw [if_neg (by omega), show ((-7) * (1) / (2) : Int) = -4 by omega, fit_in (by omega)]
 have f2 : frac_CeilS.f (-7) (1) (2) = some (-3, 0) := by rw [frac_CeilS.eq (by omega) (by omega) (by omega)]; unfold ceilQ; rw [if_neg (by omega), show (-(-((-7) * (1)) / (2)) : Int) = -3 by omega, fit_in (by omega)]
 have f3 : frac_NearS.f (-7) (1) (2) = some (-3, 0) := by rw [frac_NearS.eq (by omega) (by omega) (by omega)]; unfold nearQ; rw [if_neg (by omega), show (((-7) * (1) + (2) / 2) / (2) : Int) = -3 by omega, fit_in (by omega)]
 have f4 : frac_FloorS.f 4611686018427387904 4 1 = some (0, 10) := by rw [frac_FloorS.eq (by omega) (by omega) (by omega)]; unfold floorQ; rw [if_neg (by omega), fit_out (by omega)]
 have f5 : frac_FloorS.f 1 1 0 = some (0, 20) := by rw [frac_FloorS.eq (by omega) (by omega) (by omega)]; unfold floorQ; rw [if_pos (by omega)]
 have f6 : frac_CeilS.f 1 1 (-5) = some (0, 20) := by rw [frac_CeilS.eq (by omega) (by omega) (by omega)]; unfold ceilQ; rw [if_pos (by omega)]
 have f7 : frac_NearS.f (9223372036854775807) (9223372036854775807) (9223372036854775807) = some (9223372036854775807, 0) := by rw [frac_NearS.eq (by omega) (by omega) (by omega)]; unfold nearQ; rw [if_neg (by omega), show (((9223372036854775807) * (9223372036854775807) + (9223372036854775807) / 2) / (9223372036854775807) : Int) = 9223372036854775807 by omega, fit_in (by omega)]
 have f8 : frac_SegsS.f 3000 1500 = some (131072, 0) := by rw [frac_SegsS.eq (by omega) (by omega)]; unfold floorQ; rw [if_neg (by omega), show (3000 * 65536 / 1500 : Int) = 131072 by omega, fit_in (by omega)]
 have f9 : frac_BytesS.f 98304 1500 = some (2250, 0) := by rw [frac_BytesS.eq (by omega) (by omega)]; unfold floorQ; rw [if_neg (by omega), show (98304 * 1500 / 65536 : Int) = 2250 by omega, fit_in (by omega)]
 have g1 : (-1 / 65536 : Int) = -1 := by omega
 have g2 : (327679 / 65536 : Int) = 4 := by omega
 unfold sawtoothlaw04_awake.f frac_Whole.f
 simp only [f1, f2, f3, f4, f5, f6, f7, f8, f9, g1, g2, Option.bind_some, if_true, eq_self]
end Awake04
theorem sawtoothlaw04_awakeS.calls (r : Bool) (w : World) (h : sawtoothlaw04_awakeS.f = some r) :
  Calls Try.prog 32 #[] w fun e w' => e = .returned (.bool r) ∧ Below w.heap.size w w' :=
 sawtoothlaw04_awake.calls r w (by rw [sawtoothlaw04_awake.main]; exact h)

end Go.Proofs.Ytkoeehacildioaa.Px
