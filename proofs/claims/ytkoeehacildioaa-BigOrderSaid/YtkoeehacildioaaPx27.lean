/- Printed by a program of this session (wip/tool/px.py), over the kit's print: for each Go function a Lean function, and the proof that the machine's call answers as that function says. Conditions: none beside what the theorems state. -/
import Derived.Test.YtkoeehacildioaaPx0
import Derived.Test.YtkoeehacildioaaPx9
import Derived.Test.YtkoeehacildioaaPx11
import Derived.Test.YtkoeehacildioaaPx13
import Derived.Test.YtkoeehacildioaaPx17
import Derived.Test.YtkoeehacildioaaPx19
import Derived.Test.YtkoeehacildioaaPx21
import Derived.Test.YtkoeehacildioaaPx23
import Derived.Test.YtkoeehacildioaaPx25
import Derived.Test.YtkoeehacildioaaPx26
import Derived.Test.YtkoeehacildioaaSpec
namespace Go.Proofs.Ytkoeehacildioaa.Px
open Go.RowKit Go.Proofs.YtkoeehacildioaaW.PrintWords Go.Proofs.YtkoeehacildioaaW.PrintLast Go.Proofs.YtkoeehacildioaaW.PrintMore
attribute [local go_sem] max2_int min2_int max_two min_two max_three min_three max_four min_four   -- for this text's walks alone
set_option linter.unusedVariables false
set_option linter.unusedSimpArgs false

/-! ### sawtoothlaw02_awakeS: the answers that the document fixes: pure, behind function 15 -/
noncomputable def sawtoothlaw02_awakeS.f : Option Bool := some true
section Awake02
open Go.Proofs.Ytkoeehacildioaa.Sp
theorem sawtoothlaw02_awake.main : sawtoothlaw02_awake.f = some true := by
 have o0 : big_OfS.f (1) = some (encN (1), encH (1), encL (1)) := big_OfS.eq (by omega); have o1 : big_OfS.f (-1) = some (encN (-1), encH (-1), encL (-1)) := big_OfS.eq (by omega); have o2 : big_OfS.f (-7) = some (encN (-7), encH (-7), encL (-7)) := big_OfS.eq (by omega); have o3 : big_OfS.f (5) = some (encN (5), encH (5), encL (5)) := big_OfS.eq (by omega); have o4 : big_OfS.f (-5) = some (encN (-5), encH (-5), encL (-5)) := big_OfS.eq (by omega); have o5 : big_OfS.f (-4) = some (encN (-4), encH (-4), encL (-4)) := big_OfS.eq (by omega); have o6 : big_OfS.f (3) = some (encN (3), encH (3), encL (3)) := big_OfS.eq (by omega); have o7 : big_OfS.f (-6) = some (encN (-6), encH (-6), encL (-6)) := big_OfS.eq (by omega); have o8 : big_OfS.f (-9) = some (encN (-9), encH (-9), encL (-9)) := big_OfS.eq (by omega); have o9 : big_OfS.f (-9223372036854775808) = some (encN (-9223372036854775808), encH (-9223372036854775808), encL (-9223372036854775808)) := big_OfS.eq (by omega)
 have a1 : big_AddS.f false 18446744073709551615 18446744073709551615 (encN (1)) (encH (1)) (encL (1)) = some (false, 0, 0, 10) := by rw [big_AddS.le (by omega) (by omega) (by omega), val_f, held_out (by omega)]
 have a2 : big_AddS.f false 18446744073709551615 18446744073709551615 (encN (-1)) (encH (-1)) (encL (-1)) = some (encN (18446744073709551615 * 18446744073709551616 + 18446744073709551615 + -1), encH (18446744073709551615 * 18446744073709551616 + 18446744073709551615 + -1), encL (18446744073709551615 * 18446744073709551616 + 18446744073709551615 + -1), 0) := by rw [big_AddS.le (by omega) (by omega) (by omega), val_f, held_in (by omega)]
 have d1 : big_DivS.f (encN (-7)) (encH (-7)) (encL (-7)) 2 = some (encN (-7 / 2), encH (-7 / 2), encL (-7 / 2), -7 % 2, 0) := by rw [big_DivS.enc (by omega) (by omega), quo_pos (by omega)]
 have d2 : big_DivS.f false 18446744073709551615 18446744073709551615 0 = some (false, 0, 0, 0, 20) := by rw [big_DivS.eq (by omega) (by omega) (by omega), quo_zero]
 have s1 : big_ScaleS.f false 18446744073709551615 18446744073709551615 2 = some (false, 0, 0, 10) := by rw [big_ScaleS.eq (by omega) (by omega) (by omega), val_f, held_out (by omega)]
 have s2 : big_ScaleS.f false 1 18446744073709551615 18446744073709551615 = some (false, 0, 0, 10) := by rw [big_ScaleS.eq (by omega) (by omega) (by omega), val_f, held_out (by omega)]
 have a3 : big_AddS.f (encN (5)) (encH (5)) (encL (5)) (encN (-5)) (encH (-5)) (encL (-5)) = some (encN (5 + -5), encH (5 + -5), encL (5 + -5), 0) := by rw [big_AddS.enc (by omega) (by omega), held_in (by omega)]
 have m1 : big_MulS.f (-9223372036854775808) (-9223372036854775808) = some (encN ((-9223372036854775808) * (-9223372036854775808)), encH ((-9223372036854775808) * (-9223372036854775808)), encL ((-9223372036854775808) * (-9223372036854775808))) := big_MulS.eq (by omega) (by omega)
 have c1 : big_CmpS.f (encN (-5)) (encH (-5)) (encL (-5)) (encN (3)) (encH (3)) (encL (3)) = some (-1) := by rw [big_CmpS.enc (by omega) (by omega), cmpI_lt (by omega)]
 have c2 : big_CmpS.f (encN (-5)) (encH (-5)) (encL (-5)) (encN (-6)) (encH (-6)) (encL (-6)) = some 1 := by rw [big_CmpS.enc (by omega) (by omega), cmpI_gt (by omega)]
 have c3 : big_CmpS.f true 0 0 false 0 0 = some 0 := by rw [big_CmpS.eq (by omega) (by omega) (by omega) (by omega), val_t, val_f, cmpI_eq (by omega)]
 have i1 : big_IntS.f false 18446744073709551615 18446744073709551615 = some 9223372036854775807 := by rw [big_IntS.eq (by omega) (by omega), val_f, near_hi (by omega)]
 have n1 : big_NegS.f false 18446744073709551615 18446744073709551615 = some (encN (-(18446744073709551615 * 18446744073709551616 + 18446744073709551615)), encH (-(18446744073709551615 * 18446744073709551616 + 18446744073709551615)), encL (-(18446744073709551615 * 18446744073709551616 + 18446744073709551615))) := by rw [big_NegS.eq (by omega) (by omega), val_f]
 have i2 : big_IntS.f (encN (-(18446744073709551615 * 18446744073709551616 + 18446744073709551615))) (encH (-(18446744073709551615 * 18446744073709551616 + 18446744073709551615))) (encL (-(18446744073709551615 * 18446744073709551616 + 18446744073709551615))) = some (-9223372036854775808) := by rw [big_IntS.enc (by omega), near_lo (by omega)]
 have i3 : big_IntS.f (encN (-9)) (encH (-9)) (encL (-9)) = some (-9) := by rw [big_IntS.enc (by omega), near_in (by omega)]
 have q1 : (!encN (18446744073709551615 * 18446744073709551616 + 18446744073709551615 + -1) && (encH (18446744073709551615 * 18446744073709551616 + 18446744073709551615 + -1) == 18446744073709551615 && (encL (18446744073709551615 * 18446744073709551616 + 18446744073709551615 + -1) == 18446744073709551614))) = true := by rw [enc_lit (by omega) (by omega)]; exact decide_eq_true (by omega)
 have q2 : (encN (-7 / 2) == encN (-4) && (encH (-7 / 2) == encH (-4) && (encL (-7 / 2) == encL (-4)))) = true := by rw [enc_beq]; exact decide_eq_true (by omega)
 have q3 : (!encN (5 + -5) && (encH (5 + -5) == 0 && (encL (5 + -5) == 0))) = true := by rw [enc_lit (by omega) (by omega)]; exact decide_eq_true (by omega)
 have q4 : (!encN ((-9223372036854775808) * (-9223372036854775808)) && (encH ((-9223372036854775808) * (-9223372036854775808)) == 4611686018427387904 && (encL ((-9223372036854775808) * (-9223372036854775808)) == 0))) = true := by rw [enc_lit (by omega) (by omega)]; exact decide_eq_true (by omega)
 have q5 : (encN (-9223372036854775808) && (encH (-9223372036854775808) == 0 && (encL (-9223372036854775808) == 9223372036854775808))) = true := by rw [enc_neg_lit (by omega) (by omega) (by omega)]; exact decide_eq_true (by omega)
 have e1 : (-7 % 2 : Int) = 1 := by omega
 unfold sawtoothlaw02_awake.f
 simp only [o0, o1, o2, o3, o4, o5, o6, o7, o8, o9, a1, a2, d1, d2, s1, s2, a3, m1, c1, c2, c3, i1, n1, i2, i3, q1, q2, q3, q4, q5, e1, Option.bind_some, if_true, eq_self]
end Awake02
theorem sawtoothlaw02_awakeS.calls (r : Bool) (w : World) (h : sawtoothlaw02_awakeS.f = some r) :
  Calls Try.prog 15 #[] w fun e w' => e = .returned (.bool r) ∧ Below w.heap.size w w' :=
 sawtoothlaw02_awake.calls r w (by rw [sawtoothlaw02_awake.main]; exact h)

end Go.Proofs.Ytkoeehacildioaa.Px
