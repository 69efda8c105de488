/- Printed by px.py, over the kit's print. Conditions: none beside the theorems' own. -/
import Derived.Test.YtgakpcfmgcpeaaaDoorPx0
import Derived.Test.YtgakpcfmgcpeaaaDoorPx28
import Derived.Test.YtgakpcfmgcpeaaaDoorPx32
import Derived.Test.YtgakpcfmgcpeaaaDoorSpec
namespace Go.Proofs.YtgakpcfmgcpeaaaDoor.Px
open Go.RowKit Go.Proofs.YtgakpcfmgcpeaaaDoorW.PrintWords Go.Proofs.YtgakpcfmgcpeaaaDoorW.PrintLast Go.Proofs.YtgakpcfmgcpeaaaDoorW.PrintMore
attribute [local go_sem] max2_int min2_int max_two min_two max_three min_three max_four min_four
set_option linter.unusedVariables false
set_option linter.unusedSimpArgs false

/-! ### sawtoothref02_DivS: a quotient from below, and what is left over: pure, behind function 37 -/
noncomputable def sawtoothref02_DivS.f (n : Bool) (h l d : Int) : Option (Bool × Int × Int × Int × Int) := Sp.divF n h l d
section Ref02Div
open Go.Proofs.YtgakpcfmgcpeaaaDoor.Sp
theorem sawtoothref02_Div.stop (k : Nat) (d r low i : Int) (n : Bool) (x1 x2 : Int) (m : Bool) (qh q : Int) (h : ¬ i < 64) : sawtoothref02_Div.l0 (k + 1) d r low i n x1 x2 m qh q = ((sawtoothref02_digits.f m qh q).bind fun bt377 => ((sawtoothref02_wholeS.f bt377.1 bt377.2.1 bt377.2.2.1 bt377.2.2.2 m).bind fun bt381 => (if n = true then (sawtoothref02_Div.j1 k d r (r == 0) bt381.1 bt381.2.1 bt381.2.2) else (sawtoothref02_Div.j1 k d r true bt381.1 bt381.2.1 bt381.2.2)))) := by
 rw [sawtoothref02_Div.l0, if_neg h]
theorem sawtoothref02_Div.go (k : Nat) (d r low i : Int) (n : Bool) (x1 x2 : Int) (m : Bool) (qh q b s : Int) (h : i < 64) (hi : 0 ≤ i) (hd : U d) (hr : 0 ≤ r) (hrd : r < d) (hlow : low = b * 9223372036854775808 + s) (hb : 0 ≤ b) (hb1 : b ≤ 1) (hs : 0 ≤ s) (hs2 : s < 9223372036854775808) (hq : 0 ≤ q) (hq2 : q < 9223372036854775808) :
  sawtoothref02_Div.l0 (k + 1) d r low i n x1 x2 m qh q = if d ≤ 2 * r + b then sawtoothref02_Div.l0 k d (2 * r + b - d) (2 * s) (i + 1) n x1 x2 m qh (2 * q + 1) else sawtoothref02_Div.l0 k d (2 * r + b) (2 * s) (i + 1) n x1 x2 m qh (2 * q) := by
 have e1 : Int.tdiv low 9223372036854775808 = b := by rw [Int.tdiv_eq_ediv_of_nonneg (by omega)]; omega
 have e2 : IntKind.u64.wrap (2 * low) = 2 * s := by rw [u64w]; omega
 have e3 : wrap64 (i + 1) = i + 1 := w64 (by omega); have e4 : IntKind.u64.wrap (2 * q) = 2 * q := u64w_in (by omega); have e5 : IntKind.u64.wrap (2 * q + 1) = 2 * q + 1 := u64w_in (by omega); have e6 : IntKind.u64.wrap b = b := u64w_in (by omega)
 rw [sawtoothref02_Div.l0, if_pos h, e1, e2, e3, e4, e5, e6]
 by_cases ho : r ≥ 9223372036854775808
 ·rw [if_pos ho, if_pos (by omega)]
  have : IntKind.u64.wrap (IntKind.u64.wrap (IntKind.u64.wrap (2 * r) + b) - d) = 2 * r + b - d := by rw [u64w, u64w, u64w]; omega
  rw [this]
 ·have e7 : IntKind.u64.wrap (IntKind.u64.wrap (2 * r) + b) = 2 * r + b := by rw [u64w, u64w]; omega
  rw [if_neg ho, e7]
  by_cases hg : 2 * r + b ≥ d
  ·rw [if_pos hg, if_pos hg, u64w_in (by omega)]
  ·rw [if_neg hg, if_neg hg]
theorem sawtoothref02_Div.all (d : Int) (n : Bool) (x1 x2 : Int) (m : Bool) (qh : Int) (hd : U d) (hp : 0 < d) (k : Nat) : ∀ (j : Nat) (P Q r low i q y : Int), P = (2 : Int) ^ j → P * Q = 18446744073709551616 → 0 ≤ r → r < d → low = y * Q → 0 ≤ y → y < P → 0 ≤ q → q < Q → i = 64 - (j : Int) → 0 ≤ i →
  sawtoothref02_Div.l0 (j + (k + 1)) d r low i n x1 x2 m qh q = sawtoothref02_Div.l0 (k + 1) d ((r * P + y) % d) 0 64 n x1 x2 m qh (q * P + (r * P + y) / d) := by
 intro j
 induction j with
 | zero =>
  intro P Q r low i q y hP hPQ hr hrd hlow hy hy2 hq hq2 hi hi0
  have hP1 : P = 1 := by rw [hP]; rfl
  subst hP1
  have : y = 0 := by omega
  subst this
  have : i = 64 := by simpa using hi
  subst this
  rw [hlow, Int.mul_one, Int.mul_one, Int.add_zero, Int.emod_eq_of_lt hr hrd, Int.ediv_eq_zero_of_lt hr hrd, Int.add_zero, Int.zero_mul, Nat.zero_add]
 | succ j ih =>
  intro P Q r low i q y hP hPQ hr hrd hlow hy hy2 hq hq2 hi hi0
  have hj : (j : Int) + 1 ≤ 64 := by omega
  have hp0 : (0 : Int) < 2 ^ j := Int.pow_pos (by omega)
  have hP2 : P = 2 * 2 ^ j := by rw [hP, Int.pow_succ]; omega
  generalize hR : (2 : Int) ^ j = R at *
  have hRQ : R * Q = 9223372036854775808 := by rw [hP2, Int.mul_assoc] at hPQ; omega
  have hQ0 : 0 < Q := by
   by_cases hq0 : 0 < Q
   ·exact hq0
   ·have := Int.mul_nonpos_of_nonneg_of_nonpos (show 0 ≤ R by omega) (show Q ≤ 0 by omega); omega
  have hQle : Q ≤ 9223372036854775808 := by
   have := Int.mul_le_mul_of_nonneg_right (show 1 ≤ R by omega) (show 0 ≤ Q by omega); omega
  obtain ⟨b, z, hy3, hb, hb1, hz, hz2⟩ : ∃ b z : Int, y = b * R + z ∧ 0 ≤ b ∧ b ≤ 1 ∧ 0 ≤ z ∧ z < R := by
   by_cases c : y < R
   ·exact ⟨0, y, by omega, by omega, by omega, hy, c⟩
   ·exact ⟨1, y - R, by omega, by omega, by omega, by omega, by omega⟩
  have hs : 0 ≤ z * Q := Int.mul_nonneg hz (by omega)
  have hs2 : z * Q < 9223372036854775808 := by rw [← hRQ]; exact Int.mul_lt_mul_of_pos_right hz2 hQ0
  have hl2 : low = b * 9223372036854775808 + z * Q := by rw [hlow, hy3, Int.add_mul, Int.mul_assoc, hRQ]
  rw [show j + 1 + (k + 1) = (j + (k + 1)) + 1 by omega, sawtoothref02_Div.go (j + (k + 1)) d r low i n x1 x2 m qh q b (z * Q) (by omega) hi0 hd hr hrd hl2 hb hb1 hs hs2 hq (by omega)]
  have hA : r * P + y = (2 * r + b) * R + z := by rw [hP2, hy3, Int.add_mul, Int.mul_comm 2 r, Int.mul_assoc]; omega
  have hQ2 : R * (2 * Q) = 18446744073709551616 := by rw [← Int.mul_assoc, Int.mul_comm R 2, Int.mul_assoc]; omega
  have hzQ : 2 * (z * Q) = z * (2 * Q) := by rw [← Int.mul_assoc, Int.mul_comm 2 z, Int.mul_assoc]
  by_cases hg : d ≤ 2 * r + b
  ·rw [if_pos hg, ih R (2 * Q) (2 * r + b - d) (2 * (z * Q)) (i + 1) (2 * q + 1) z rfl hQ2 (by omega) (by omega) hzQ hz hz2 (by omega) (by omega) (by omega) (by omega)]
   have hB : r * P + y = ((2 * r + b - d) * R + z) + R * d := by rw [hA, Int.sub_mul, Int.mul_comm R d]; omega
   rw [hB, Int.add_mul_emod_self_right, Int.add_mul_ediv_right _ _ (by omega)]
   congr 1
   rw [hP2, Int.add_mul, ← Int.mul_assoc, Int.mul_comm q 2]; omega
  ·rw [if_neg hg, ih R (2 * Q) (2 * r + b) (2 * (z * Q)) (i + 1) (2 * q) z rfl hQ2 (by omega) (by omega) hzQ hz hz2 (by omega) (by omega) (by omega) (by omega), hA]
   congr 1
   rw [hP2, ← Int.mul_assoc, Int.mul_comm q 2]
theorem sawtoothref02_Div.below0 {v : Int} (h : v ≤ 0) : val true (encH v) (encL v) = v := by unfold val encH encL; simp; omega
theorem sawtoothref02_Div.main {n : Bool} {h l d : Int} (h1 : U h) (h2 : U l) (h3 : U d) : sawtoothref02_Div.f 66 n h l d = quo (val n h l) d := by
 unfold sawtoothref02_Div.f quo
 by_cases hd : d = 0
 ·rw [if_pos hd, if_pos hd]
 rw [if_neg hd, if_neg hd]
 have hp : 0 < d := by omega
 have a := Int.emod_nonneg h hd; have b := Int.emod_lt_of_pos h hp; have c := Int.ediv_nonneg h1.1 h3.1; have c2 := Int.ediv_le_self d h1.1; have d1 := Int.emod_nonneg (h % d * 18446744073709551616 + l) hd; have d2 := Int.emod_lt_of_pos (h % d * 18446744073709551616 + l) hp; have d3 : 0 ≤ (h % d * 18446744073709551616 + l) / d := Int.ediv_nonneg (by omega) (by omega)
 have d4 : (h % d * 18446744073709551616 + l) / d < 18446744073709551616 := by rw [Int.ediv_lt_iff_lt_mul hp]; omega
 obtain ⟨e1, e2⟩ := two_div (h := h) (l := l) hp
 rw [Int.tmod_eq_emod_of_nonneg h1.1, Int.tdiv_eq_ediv_of_nonneg h1.1, u64w_in (x := h / d) (by omega)]
 have L := sawtoothref02_Div.all d n h l n (h / d) h3 hp 1 64 18446744073709551616 1 (h % d) l 0 0 l (by decide) (by decide) a b (by omega) h2.1 h2.2 (by omega) (by omega) (by decide) (by omega)
 rw [show (66 : Nat) = 64 + (1 + 1) from rfl, L, Int.zero_mul, Int.zero_add, sawtoothref02_Div.stop 1 _ _ _ _ _ _ _ _ _ _ (by omega)]
 have hv : val n h l = if n = true then -(h * 18446744073709551616 + l) else h * 18446744073709551616 + l := rfl
 generalize h * 18446744073709551616 + l = X at *
 generalize (h % d * 18446744073709551616 + l) / d = lo at *
 generalize (h % d * 18446744073709551616 + l) % d = re at *
 have hX := Int.emod_add_ediv_mul X d
 have hQ : 0 ≤ X / d := by rw [e1]; omega
 have hQ2 : X / d < 340282366920938463463374607431768211456 := by rw [e1]; omega
 rw [sawtoothref02_digits.eq ⟨c, by omega⟩ ⟨d3, d4⟩]
 simp only [Option.bind_some]
 rw [sawtoothref02_wholeS.eq (by omega) (by omega) (by omega) (by omega)]
 simp only [Option.bind_some]
 rw [show h / d / 4294967296 * 4294967296 + h / d % 4294967296 = h / d by omega, show lo / 4294967296 * 4294967296 + lo % 4294967296 = lo by omega]
 clear L
 cases n with
 | false =>
  simp only [Bool.false_eq_true, if_false, if_true, sawtoothref02_Div.j1] at hv ⊢
  rw [hv, e2]
  have : val false (h / d) lo = X / d := by rw [val_f, e1]
  rw [this]
 | true =>
  simp only [if_true, sawtoothref02_Div.j1] at hv ⊢
  have hs : val true (h / d) lo = -(X / d) := by rw [val_t, e1]
  rw [hs]
  by_cases hz : re = 0
  ·subst hz
   have hv2 : val true h l / d = -(X / d) := by rw [hv]; exact neg_div hp e2
   have hm2 : val true h l % d = 0 := by rw [hv]; exact neg_mod hp e2
   rw [hv2, hm2]; simp
  ·have hv2 : val true h l / d = -(X / d) + -1 := by rw [hv]; exact neg_div' hp (by omega)
   have hm2 : val true h l % d = d - re := by rw [hv, ← e2]; exact neg_mod' hp (by omega)
   have hne : (re == 0) = false := by simpa using hz
   rw [hne]
   simp only [Bool.false_eq_true, if_false]
   unfold sawtoothref02_OfS.f sawtoothref02_AddS.f
   rw [ofF_eq (by omega)]
   simp only [Option.bind_some]
   have hd2 : 2 ≤ d := by omega
   have hsm : X / d ≤ 170141183460469231731687303715884105728 := by
    have hX2 : X < 340282366920938463463374607431768211456 := by
     have := val_B (n := true) h1 h2; rw [hv] at this; omega
    have := Int.mul_le_mul_of_nonneg_left hd2 hQ
    omega
   rw [addF_eq (encH_U (by omega)) encL_U (encH_U (by omega)) encL_U, sawtoothref02_Div.below0 (by omega), val_enc, held_in (by omega)]
   simp only [Option.bind_some, if_true]
   rw [u64w_in (x := d - re) (by omega), hv2, hm2]
end Ref02Div
theorem sawtoothref02_DivS.calls (a0_0 : Bool) (a0_1 a0_2 a1 : Int) (r1 : Bool) (r2 r3 r4 r5 : Int) (w : World) (h : sawtoothref02_DivS.f a0_0 a0_1 a0_2 a1 = some (r1, r2, r3, r4, r5)) :
  Calls Tryd.prog 37 #[.agg #[.bool a0_0, .int .u64 a0_1, .int .u64 a0_2], .int .u64 a1] w fun e w' => e = .returned (.tuple #[.agg #[.bool r1, .int .u64 r2, .int .u64 r3], .int .u64 r4, .int .i64 r5]) ∧ Below w.heap.size w w' := by
 obtain ⟨hc, h⟩ := Sp.need_some h; obtain ⟨h1, h2, h3⟩ := hc; exact sawtoothref02_Div.calls 66 a0_0 a0_1 a0_2 a1 r1 r2 r3 r4 r5 w (by rw [sawtoothref02_Div.main h1 h2 h3]; exact h)

end Go.Proofs.YtgakpcfmgcpeaaaDoor.Px
