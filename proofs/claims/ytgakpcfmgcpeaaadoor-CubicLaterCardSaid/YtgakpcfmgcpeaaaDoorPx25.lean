/- Printed by px.py, over the kit's print. Conditions: none beside the theorems' own. -/
import Derived.Test.YtgakpcfmgcpeaaaDoorPx0
import Derived.Test.YtgakpcfmgcpeaaaDoorPx24
import Derived.Test.YtgakpcfmgcpeaaaDoorSpec
namespace Go.Proofs.YtgakpcfmgcpeaaaDoor.Px
open Go.RowKit Go.Proofs.YtgakpcfmgcpeaaaDoorW.PrintWords Go.Proofs.YtgakpcfmgcpeaaaDoorW.PrintLast Go.Proofs.YtgakpcfmgcpeaaaDoorW.PrintMore
attribute [local go_sem] max2_int min2_int max_two min_two max_three min_three max_four min_four
set_option linter.unusedVariables false
set_option linter.unusedSimpArgs false

/-! ### big_IntS: the nearest int: pure, behind function 35 -/
noncomputable def big_IntS.f (n : Bool) (h l : Int) : Option Int := Sp.need (Sp.U h ∧ Sp.U l) (some (Sp.near (Sp.val n h l)))
theorem big_IntS.eq {n : Bool} {h l : Int} (h1 : Sp.U h) (h2 : Sp.U l) : big_IntS.f n h l = some (Sp.near (Sp.val n h l)) := Sp.need_pos ⟨h1, h2⟩
theorem big_IntS.enc {v : Int} (h : Sp.B v) : big_IntS.f (Sp.encN v) (Sp.encH v) (Sp.encL v) = some (Sp.near v) := by
 rw [big_IntS.eq (Sp.encH_U h) Sp.encL_U, Sp.val_enc]
theorem big_IntS.calls (a0_0 : Bool) (a0_1 a0_2 r : Int) (w : World) (h : big_IntS.f a0_0 a0_1 a0_2 = some r) :
  Calls Tryd.prog 35 #[.agg #[.bool a0_0, .int .u64 a0_1, .int .u64 a0_2]] w fun e w' => e = .returned (.int .i64 r) ∧ Below w.heap.size w w' := by
 obtain ⟨hc, h⟩ := Sp.need_some h; obtain ⟨h1, h2⟩ := hc; refine big_Int.calls a0_0 a0_1 a0_2 r w ?_
 rw [← h]
 have o1 : big_OfS.f 9223372036854775807 = some (false, 0, 9223372036854775807) := by
  unfold big_OfS.f
  obtain ⟨a, b, c⟩ := Sp.enc_small (v := 9223372036854775807) (by omega)
  rw [Sp.need_pos (by omega), a, b, c]
 have o2 : big_OfS.f (-9223372036854775808) = some (true, 0, 9223372036854775808) := by
  unfold big_OfS.f
  obtain ⟨a, b, c⟩ := Sp.enc_neg (v := 9223372036854775808) (by omega) (by omega)
  rw [Sp.need_pos (by omega), a, b, c]
 unfold big_Int.f
 rw [o1, o2]
 simp only [Option.bind_some]
 unfold big_CmpS.f
 rw [Sp.need_pos (by omega), Sp.need_pos (by omega)]
 simp only [Option.bind_some]
 have v1 : Sp.val false 0 9223372036854775807 = 9223372036854775807 := by unfold Sp.val; simp
 have v2 : Sp.val true 0 9223372036854775808 = -9223372036854775808 := by unfold Sp.val; simp
 rw [v1, v2]
 have hv : Sp.val a0_0 a0_1 a0_2 = if a0_0 = true then -(a0_1 * 18446744073709551616 + a0_2) else a0_1 * 18446744073709551616 + a0_2 := rfl
 generalize Sp.val a0_0 a0_1 a0_2 = v at *
 unfold Sp.cmpI Sp.near
 by_cases c1 : 9223372036854775807 < v
 ·rw [if_neg (show ¬ v < 9223372036854775807 by omega), if_neg (show ¬ v = 9223372036854775807 by omega), if_pos (by omega), if_pos c1]
 rw [if_neg (show ¬ (if v < 9223372036854775807 then (-1 : Int) else if v = 9223372036854775807 then 0 else 1) > 0 by split <;> (try split) <;> omega), if_neg c1]
 by_cases c2 : v < -9223372036854775808
 ·rw [if_pos c2, if_pos (by omega), if_pos c2]
 rw [if_neg (show ¬ (if v < -9223372036854775808 then (-1 : Int) else if v = -9223372036854775808 then 0 else 1) < 0 by split <;> (try split) <;> omega), if_neg c2]
 cases a0_0
 ·simp only [Bool.false_eq_true, if_false] at hv ⊢
  congr 1; unfold wrap64; omega
 ·simp only [if_true] at hv ⊢
  congr 1; unfold wrap64; omega

end Go.Proofs.YtgakpcfmgcpeaaaDoor.Px
