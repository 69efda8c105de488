/- Printed by px.py, over the kit's print. Conditions: none beside the theorems' own. -/
import Derived.Test.YtbpcfamjidjhjaaDoorPx0
import Derived.Test.YtbpcfamjidjhjaaDoorPx12
import Derived.Test.YtbpcfamjidjhjaaDoorPx24
import Derived.Test.YtbpcfamjidjhjaaDoorPx25
import Derived.Test.YtbpcfamjidjhjaaDoorSpec
namespace Go.Proofs.YtbpcfamjidjhjaaDoor.Px
open Go.RowKit Go.Proofs.YtbpcfamjidjhjaaDoorW.PrintWords Go.Proofs.YtbpcfamjidjhjaaDoorW.PrintLast Go.Proofs.YtbpcfamjidjhjaaDoorW.PrintMore
attribute [local go_sem] max2_int min2_int max_two min_two max_three min_three max_four min_four
set_option linter.unusedVariables false
set_option linter.unusedSimpArgs false

/-! ### big_DivS: a quotient from below, and what is left over: pure, behind function 59 -/
noncomputable def big_DivS.f (n : Bool) (h l d : Int) : Option (Bool × Int × Int × Int × Int) :=
 Sp.need (Sp.U h ∧ Sp.U l ∧ Sp.U d) (Sp.quo (Sp.val n h l) d)
section BigDiv
open Go.Proofs.YtbpcfamjidjhjaaDoor.Sp
theorem big_Div.main {n : Bool} {h l d : Int} (h1 : U h) (h2 : U l) (h3 : U d) : big_Div.f 1 n h l d = quo (val n h l) d := by
 unfold big_Div.f quo
 by_cases hd : d = 0
 ·rw [if_pos hd, if_pos hd]
 rw [if_neg hd, if_neg hd]
 have hp : 0 < d := by omega
 have a := Int.emod_nonneg h hd; have b := Int.emod_lt_of_pos h hp; have c := Int.ediv_nonneg h1.1 h3.1; have c2 := Int.ediv_le_self d h1.1; have d1 := Int.emod_nonneg (h % d * 18446744073709551616 + l) hd; have d2 := Int.emod_lt_of_pos (h % d * 18446744073709551616 + l) hp; have d3 : 0 ≤ (h % d * 18446744073709551616 + l) / d := Int.ediv_nonneg (by omega) (by omega)
 have d4 : (h % d * 18446744073709551616 + l) / d < 18446744073709551616 := by rw [Int.ediv_lt_iff_lt_mul hp]; omega
 obtain ⟨e1, e2⟩ := two_div (h := h) (l := l) hp
 rw [Int.tmod_eq_emod_of_nonneg h1.1, Int.tdiv_eq_ediv_of_nonneg h1.1, u64w_in (x := h / d) (by omega)]
 unfold bits_Div64S.f
 rw [need_pos ⟨a, b, h3.2, h2.1, h2.2⟩]
 simp only [Option.bind_some]
 rw [big_with.eq (by omega) (by omega)]
 simp only [Option.bind_some, big_Div.j0]
 have hv : val n h l = if n = true then -(h * 18446744073709551616 + l) else h * 18446744073709551616 + l := rfl
 generalize h * 18446744073709551616 + l = X at *
 generalize (h % d * 18446744073709551616 + l) / d = lo at *
 generalize (h % d * 18446744073709551616 + l) % d = re at *
 have hX := Int.emod_add_ediv_mul X d
 have hQ : 0 ≤ X / d := by rw [e1]; omega
 have hQ2 : X / d < 340282366920938463463374607431768211456 := by rw [e1]; omega
 cases n with
 | false =>
  simp only [Bool.false_eq_true, if_false, if_true] at hv ⊢
  rw [hv, e2]
  have : val false (h / d) lo = X / d := by unfold val; rw [e1]; simp
  rw [this]
 | true =>
  simp only [if_true] at hv ⊢
  have hs : val true (h / d) lo = -(X / d) := by unfold val; rw [e1]; simp
  rw [hs]
  by_cases hz : re = 0
  ·subst hz
   have hv2 : val true h l / d = -(X / d) := by rw [hv]; exact neg_div hp e2
   have hm2 : val true h l % d = 0 := by rw [hv]; exact neg_mod hp e2
   rw [hv2, hm2]; simp
  ·have hv2 : val true h l / d = -(X / d) + -1 := by rw [hv]; exact neg_div' hp (by omega)
   have hm2 : val true h l % d = d - re := by rw [hv, ← e2]; exact neg_mod' hp (by omega)
   have hne : (re == 0) = false := by simpa using hz
   rw [hne]
   simp only [Bool.false_eq_true, if_false]
   rw [big_with.eq (by omega) (by omega), hs]
   unfold big_OfS.f
   rw [need_pos (by omega)]
   simp only [Option.bind_some]
   have hd2 : 2 ≤ d := by omega
   have hsm : X / d ≤ 170141183460469231731687303715884105728 := by
    have hX2 : X < 340282366920938463463374607431768211456 := by
     have := val_B (n := true) h1 h2; rw [hv] at this; omega
    have := Int.mul_le_mul_of_nonneg_left hd2 hQ
    omega
   rw [big_AddS.enc (by omega) (by omega), held_in (by omega)]
   simp only [Option.bind_some, if_true]
   rw [u64w_in (x := d - re) (by omega), hv2, hm2]
theorem big_DivS.eq {n : Bool} {h l d : Int} (h1 : U h) (h2 : U l) (h3 : U d) : big_DivS.f n h l d = quo (val n h l) d := need_pos ⟨h1, h2, h3⟩
theorem big_DivS.enc {v d : Int} (h1 : B v) (h3 : U d) : big_DivS.f (encN v) (encH v) (encL v) d = quo v d := by
 rw [big_DivS.eq (encH_U h1) encL_U h3, val_enc]
end BigDiv
theorem big_DivS.calls (a0_0 : Bool) (a0_1 a0_2 a1 : Int) (r1 : Bool) (r2 r3 r4 r5 : Int) (w : World) (h : big_DivS.f a0_0 a0_1 a0_2 a1 = some (r1, r2, r3, r4, r5)) :
  Calls Tryd.prog 59 #[.agg #[.bool a0_0, .int .u64 a0_1, .int .u64 a0_2], .int .u64 a1] w fun e w' => e = .returned (.tuple #[.agg #[.bool r1, .int .u64 r2, .int .u64 r3], .int .u64 r4, .int .i64 r5]) ∧ Below w.heap.size w w' := by
 obtain ⟨hc, h⟩ := Sp.need_some h; obtain ⟨h1, h2, h3⟩ := hc; exact big_Div.calls 1 _ _ _ _ r1 r2 r3 r4 r5 w (by rw [big_Div.main h1 h2 h3]; exact h)

end Go.Proofs.YtbpcfamjidjhjaaDoor.Px
