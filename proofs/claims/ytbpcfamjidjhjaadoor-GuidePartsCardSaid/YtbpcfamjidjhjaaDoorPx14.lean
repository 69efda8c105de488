/- Printed by px.py, over the kit's print. Conditions: none beside the theorems' own. -/
import Derived.Test.YtbpcfamjidjhjaaDoorPx0
import Derived.Test.YtbpcfamjidjhjaaDoorPx12
import Derived.Test.YtbpcfamjidjhjaaDoorPx13
import Derived.Test.YtbpcfamjidjhjaaDoorSpec
namespace Go.Proofs.YtbpcfamjidjhjaaDoor.Px
open Go.RowKit Go.Proofs.YtbpcfamjidjhjaaDoorW.PrintWords Go.Proofs.YtbpcfamjidjhjaaDoorW.PrintLast Go.Proofs.YtbpcfamjidjhjaaDoorW.PrintMore
attribute [local go_sem] max2_int min2_int max_two min_two max_three min_three max_four min_four
set_option linter.unusedVariables false
set_option linter.unusedSimpArgs false

/-! ### big_CmpS: which number is greater: pure, behind function 32 -/
noncomputable def big_CmpS.f (n : Bool) (h l : Int) (m : Bool) (i k : Int) : Option Int := Sp.need (Sp.U h ∧ Sp.U l ∧ Sp.U i ∧ Sp.U k) (some (Sp.cmpI (Sp.val n h l) (Sp.val m i k)))
section BigCmp
open Go.Proofs.YtbpcfamjidjhjaaDoor.Sp
theorem size_cmp_enc {v w : Int} (h1 : B v) (h2 : B w) : big_size_cmpS.f (encH v) (encL v) (encH w) (encL w) = some (cmpI v.natAbs w.natAbs) := by
 unfold big_size_cmpS.f
 have a := encH_U h1; have b := encH_U h2; have c := @encL_U v; have d := @encL_U w
 rw [need_pos (by omega)]
 have e1 : encH v * 18446744073709551616 + encL v = v.natAbs := by unfold encH encL; omega
 have e2 : encH w * 18446744073709551616 + encL w = w.natAbs := by unfold encH encL; omega
 rw [e1, e2]
set_option maxRecDepth 100000 in
theorem big_Cmp.eq {v w : Int} (h1 : B v) (h2 : B w) (hd : v ≠ w) (x : Bool) (hx : x = if encN v = encN w then false else encN v) :
  big_Cmp.j0 1 x (encN v) (encH v) (encL v) (encN w) (encH w) (encL w) = some (cmpI v w) := by
 simp only [big_Cmp.j0, big_of.f, Option.bind_some]
 rw [size_cmp_enc h1 h2, size_cmp_enc h2 h1]
 simp only [Option.bind_some]
 unfold cmpI
 by_cases a : v < 0 <;> by_cases b : w < 0
 ·have ea := encN_neg a; have eb := encN_neg b
  rw [ea, eb] at hx ⊢; subst hx
  simp only [if_true, Bool.false_eq_true, if_false, bne_self_eq_false]
  congr 1; (repeat' split) <;> omega
 ·have ea := encN_neg a; have eb := encN_pos (v := w) (by omega)
  rw [ea, eb] at hx ⊢; subst hx
  simp; omega
 ·have ea := encN_pos (v := v) (by omega); have eb := encN_neg b
  rw [ea, eb] at hx ⊢; subst hx
  simp; omega
 ·have ea := encN_pos (v := v) (by omega); have eb := encN_pos (v := w) (by omega)
  rw [ea, eb] at hx ⊢; subst hx
  simp only [if_true, Bool.false_eq_true, if_false, bne_self_eq_false]
  congr 1; (repeat' split) <;> omega
theorem big_Cmp.main {n m : Bool} {h l i k : Int} (h1 : U h) (h2 : U l) (h3 : U i) (h4 : U k) : big_Cmp.f 1 n h l m i k = some (cmpI (val n h l) (val m i k)) := by
 unfold big_Cmp.f big_of.f
 simp only [Option.bind_some]
 rw [big_with.eq h1 h2, big_with.eq h3 h4]
 simp only [Option.bind_some]; have b1 := val_B (n := n) h1 h2; have b2 := val_B (n := m) h3 h4
 generalize val n h l = v at *
 generalize val m i k = w at *
 by_cases hd : v = w
 ·subst hd; simp [cmpI]
 ·have hne : (encN v == encN w && (encH v == encH w && (encL v == encL w))) ≠ true := by
   intro h; simp at h; exact hd (enc_inj h.1 h.2.1 h.2.2)
  rw [if_neg hne]
  by_cases hs : encN v = encN w
  ·rw [if_neg (by simp [hs])]
   exact big_Cmp.eq b1 b2 hd false (by rw [if_pos hs])
  ·rw [if_pos (by simpa using hs)]
   exact big_Cmp.eq b1 b2 hd _ (by rw [if_neg hs])
end BigCmp
theorem big_CmpS.eq {n m : Bool} {h l i k : Int} (h1 : Sp.U h) (h2 : Sp.U l) (h3 : Sp.U i) (h4 : Sp.U k) : big_CmpS.f n h l m i k = some (Sp.cmpI (Sp.val n h l) (Sp.val m i k)) := Sp.need_pos ⟨h1, h2, h3, h4⟩
theorem big_CmpS.enc {v w : Int} (h1 : Sp.B v) (h2 : Sp.B w) : big_CmpS.f (Sp.encN v) (Sp.encH v) (Sp.encL v) (Sp.encN w) (Sp.encH w) (Sp.encL w) = some (Sp.cmpI v w) := by
 rw [big_CmpS.eq (Sp.encH_U h1) Sp.encL_U (Sp.encH_U h2) Sp.encL_U, Sp.val_enc, Sp.val_enc]
theorem big_CmpS.el {m : Bool} {v i k : Int} (h1 : Sp.B v) (h2 : Sp.U i) (h3 : Sp.U k) : big_CmpS.f (Sp.encN v) (Sp.encH v) (Sp.encL v) m i k = some (Sp.cmpI v (Sp.val m i k)) := by
 rw [big_CmpS.eq (Sp.encH_U h1) Sp.encL_U h2 h3, Sp.val_enc]
theorem big_CmpS.le {n : Bool} {h l w : Int} (h1 : Sp.U h) (h2 : Sp.U l) (h3 : Sp.B w) : big_CmpS.f n h l (Sp.encN w) (Sp.encH w) (Sp.encL w) = some (Sp.cmpI (Sp.val n h l) w) := by
 rw [big_CmpS.eq h1 h2 (Sp.encH_U h3) Sp.encL_U, Sp.val_enc]
theorem big_CmpS.calls (a0_0 : Bool) (a0_1 a0_2 : Int) (a1_0 : Bool) (a1_1 a1_2 r : Int) (w : World) (h : big_CmpS.f a0_0 a0_1 a0_2 a1_0 a1_1 a1_2 = some r) :
  Calls Tryd.prog 32 #[.agg #[.bool a0_0, .int .u64 a0_1, .int .u64 a0_2], .agg #[.bool a1_0, .int .u64 a1_1, .int .u64 a1_2]] w fun e w' => e = .returned (.int .i64 r) ∧ Below w.heap.size w w' := by
 obtain ⟨hc, h⟩ := Sp.need_some h; obtain ⟨h1, h2, h3, h4⟩ := hc; exact big_Cmp.calls 1 _ _ _ _ _ _ r w (by rw [big_Cmp.main h1 h2 h3 h4]; exact h)

end Go.Proofs.YtbpcfamjidjhjaaDoor.Px
