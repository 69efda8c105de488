/- Printed by px.py, over the kit's print. Conditions: none beside the theorems' own. -/
import Derived.Test.YtbpcfamjidjhjaaDoorPx0
import Derived.Test.YtbpcfamjidjhjaaDoorPx12
import Derived.Test.YtbpcfamjidjhjaaDoorPx23
import Derived.Test.YtbpcfamjidjhjaaDoorSpec
namespace Go.Proofs.YtbpcfamjidjhjaaDoor.Px
open Go.RowKit Go.Proofs.YtbpcfamjidjhjaaDoorW.PrintWords Go.Proofs.YtbpcfamjidjhjaaDoorW.PrintLast Go.Proofs.YtbpcfamjidjhjaaDoorW.PrintMore
attribute [local go_sem] max2_int min2_int max_two min_two max_three min_three max_four min_four
set_option linter.unusedVariables false
set_option linter.unusedSimpArgs false

/-! ### big_AddS: a sum: pure, behind function 70 -/
noncomputable def big_AddS.f (n : Bool) (h l : Int) (m : Bool) (i k : Int) : Option (Bool × Int × Int × Int) :=
 Sp.need (Sp.U h ∧ Sp.U l ∧ Sp.U i ∧ Sp.U k) (Sp.held (Sp.val n h l + Sp.val m i k))
section BigAdd
open Go.Proofs.YtbpcfamjidjhjaaDoor.Sp
theorem big_Add.main {n m : Bool} {h l i k : Int} (h1 : U h) (h2 : U l) (h3 : U i) (h4 : U k) : big_Add.f n h l m i k = held (val n h l + val m i k) := by
 unfold big_Add.f big_of.f
 simp only [Option.bind_some]
 have hv1 : val n h l = if n = true then -(h * 18446744073709551616 + l) else h * 18446744073709551616 + l := rfl
 have hv2 : val m i k = if m = true then -(i * 18446744073709551616 + k) else i * 18446744073709551616 + k := rfl
 by_cases hn : (n != m) = true
 ·rw [if_pos hn]
  unfold big_size_cmpS.f
  rw [need_pos (by omega)]
  simp only [Option.bind_some]
  have hm : m = !n := by cases n <;> cases m <;> simp_all
  subst hm
  by_cases hc : h * 18446744073709551616 + l < i * 18446744073709551616 + k
  ·have : cmpI (h * 18446744073709551616 + l) (i * 18446744073709551616 + k) < 0 := by unfold cmpI; rw [if_pos hc]; omega
   rw [if_pos this]
   unfold big_size_minusS.f
   rw [need_pos (by omega)]
   simp only [Option.bind_some]
   rw [big_with.eq (by omega) (by omega)]
   simp only [Option.bind_some]
   have e : val (!n) ((i * 18446744073709551616 + k - (h * 18446744073709551616 + l)) / 18446744073709551616) ((i * 18446744073709551616 + k - (h * 18446744073709551616 + l)) % 18446744073709551616) = val n h l + val (!n) i k := by
    rw [hv1, hv2]; unfold val; cases n <;> simp <;> omega
   rw [e]
   have hb : B (val n h l + val (!n) i k) := by rw [hv1, hv2]; cases n <;> simp <;> omega
   unfold held
   rw [if_pos hb]
  ·have : ¬ cmpI (h * 18446744073709551616 + l) (i * 18446744073709551616 + k) < 0 := by unfold cmpI; rw [if_neg hc]; split <;> omega
   rw [if_neg this]
   unfold big_size_minusS.f
   rw [need_pos (by omega)]
   simp only [Option.bind_some]
   rw [big_with.eq (by omega) (by omega)]
   simp only [Option.bind_some]
   have e : val n ((h * 18446744073709551616 + l - (i * 18446744073709551616 + k)) / 18446744073709551616) ((h * 18446744073709551616 + l - (i * 18446744073709551616 + k)) % 18446744073709551616) = val n h l + val (!n) i k := by
    rw [hv1, hv2]; unfold val; cases n <;> simp <;> omega
   rw [e]
   have hb : B (val n h l + val (!n) i k) := by rw [hv1, hv2]; cases n <;> simp <;> omega
   unfold held
   rw [if_pos hb]
 ·rw [if_neg hn]
  have hm : m = n := by cases n <;> cases m <;> simp_all
  subst hm
  unfold bits_Add64.f
  rw [need_pos (by omega)]
  simp only [Option.bind_some]
  rw [need_pos (by omega)]
  simp only [Option.bind_some]
  unfold held
  by_cases c : (h + i + (l + k + 0) / 18446744073709551616) / 18446744073709551616 > 0
  ·rw [if_pos c, if_neg (by rw [hv1, hv2]; cases m <;> simp <;> omega)]
  ·rw [if_neg c, big_with.eq (by omega) (by omega), if_pos (by rw [hv1, hv2]; cases m <;> simp <;> omega)]
   simp only [Option.bind_some]
   have e : val m ((h + i + (l + k + 0) / 18446744073709551616) % 18446744073709551616) ((l + k + 0) % 18446744073709551616) = val m h l + val m i k := by
    rw [hv1, hv2]; unfold val; cases m <;> simp <;> omega
   rw [e]
theorem big_AddS.eq {n m : Bool} {h l i k : Int} (h1 : U h) (h2 : U l) (h3 : U i) (h4 : U k) : big_AddS.f n h l m i k = held (val n h l + val m i k) := need_pos ⟨h1, h2, h3, h4⟩
theorem big_AddS.enc {v w : Int} (h1 : B v) (h2 : B w) : big_AddS.f (encN v) (encH v) (encL v) (encN w) (encH w) (encL w) = held (v + w) := by
 rw [big_AddS.eq (encH_U h1) encL_U (encH_U h2) encL_U, val_enc, val_enc]
theorem big_AddS.le {n : Bool} {h l w : Int} (h1 : U h) (h2 : U l) (h3 : B w) : big_AddS.f n h l (encN w) (encH w) (encL w) = held (val n h l + w) := by
 rw [big_AddS.eq h1 h2 (encH_U h3) encL_U, val_enc]
theorem big_AddS.el {m : Bool} {v i k : Int} (h1 : B v) (h2 : U i) (h3 : U k) : big_AddS.f (encN v) (encH v) (encL v) m i k = held (v + val m i k) := by
 rw [big_AddS.eq (encH_U h1) encL_U h2 h3, val_enc]
end BigAdd
theorem big_AddS.calls (a0_0 : Bool) (a0_1 a0_2 : Int) (a1_0 : Bool) (a1_1 a1_2 : Int) (r1 : Bool) (r2 r3 r4 : Int) (w : World) (h : big_AddS.f a0_0 a0_1 a0_2 a1_0 a1_1 a1_2 = some (r1, r2, r3, r4)) :
  Calls Tryd.prog 70 #[.agg #[.bool a0_0, .int .u64 a0_1, .int .u64 a0_2], .agg #[.bool a1_0, .int .u64 a1_1, .int .u64 a1_2]] w fun e w' => e = .returned (.tuple #[.agg #[.bool r1, .int .u64 r2, .int .u64 r3], .int .i64 r4]) ∧ Below w.heap.size w w' := by
 obtain ⟨hc, h⟩ := Sp.need_some h; obtain ⟨h1, h2, h3, h4⟩ := hc; exact big_Add.calls _ _ _ _ _ _ r1 r2 r3 r4 w (by rw [big_Add.main h1 h2 h3 h4]; exact h)

end Go.Proofs.YtbpcfamjidjhjaaDoor.Px
