/- Printed by a program of this session (wip/tool/px.py), over the kit's print: for each Go function a Lean function, and the proof that the machine's call answers as that function says. Conditions: none beside what the theorems state. -/
import Derived.Test.YtlcobnngpcabpaaPx0
import Derived.Test.YtlcobnngpcabpaaPx27
import Derived.Test.YtlcobnngpcabpaaSpec
namespace Go.Proofs.Ytlcobnngpcabpaa.Px
open Go.RowKit Go.Proofs.YtlcobnngpcabpaaW.PrintWords Go.Proofs.YtlcobnngpcabpaaW.PrintLast Go.Proofs.YtlcobnngpcabpaaW.PrintMore
attribute [local go_sem] max2_int min2_int max_two min_two max_three min_three max_four min_four   -- for this text's walks alone
set_option linter.unusedVariables false
set_option linter.unusedSimpArgs false

/-! ### sawtoothref02_AddS: a sum: pure, behind function 6 -/
noncomputable def sawtoothref02_AddS.f (n : Bool) (h l : Int) (m : Bool) (i k : Int) : Option (Bool × Int × Int × Int) := Go.Proofs.Ytlcobnngpcabpaa.Sp.addF n h l m i k
section Ref02Add
open Go.Proofs.Ytlcobnngpcabpaa.Sp
theorem sawtoothref02_Add.sub {h l i k : Int} {s : Bool} (h1 : U h) (h2 : U l) (h3 : U i) (h4 : U k) (hle : i * 18446744073709551616 + k ≤ h * 18446744073709551616 + l) {v : Int} (hv : v = if s = true then -((h * 18446744073709551616 + l) - (i * 18446744073709551616 + k)) else (h * 18446744073709551616 + l) - (i * 18446744073709551616 + k)) :
  ((sawtoothref02_minus.f (l % 4294967296) (l / 4294967296) (h % 4294967296) (h / 4294967296) (k % 4294967296) (k / 4294967296) (i % 4294967296) (i / 4294967296)).bind fun bt => (sawtoothref02_wholeS.f bt.1 bt.2.1 bt.2.2.1 bt.2.2.2 s).bind fun b2 => some (b2.1, b2.2.1, b2.2.2, (0 : Int))) = held v := by
 unfold sawtoothref02_minus.f
 rw [need_pos ⟨by omega, by omega, by omega, by omega, by omega, by omega, by omega, by omega⟩]
 simp only [Option.bind_some]; have K := minus_whole h1 h2 h3 h4 hle rfl rfl rfl rfl; obtain ⟨k0, k1, k2, k3, ks⟩ := K
 rw [sawtoothref02_wholeS.eq k0 k1 k2 k3]
 simp only [Option.bind_some]
 generalize (4294967296 + h / 4294967296 - i / 4294967296 - (1 - (4294967296 + h % 4294967296 - i % 4294967296 - (1 - (4294967296 + l / 4294967296 - k / 4294967296 - (1 - (4294967296 + l % 4294967296 - k % 4294967296) / 4294967296)) / 4294967296)) / 4294967296)) % 4294967296 = o3 at *
 generalize (4294967296 + h % 4294967296 - i % 4294967296 - (1 - (4294967296 + l / 4294967296 - k / 4294967296 - (1 - (4294967296 + l % 4294967296 - k % 4294967296) / 4294967296)) / 4294967296)) % 4294967296 = o2 at *
 generalize (4294967296 + l / 4294967296 - k / 4294967296 - (1 - (4294967296 + l % 4294967296 - k % 4294967296) / 4294967296)) % 4294967296 = o1 at *
 generalize (4294967296 + l % 4294967296 - k % 4294967296) % 4294967296 = o0 at *
 have hv2 : val s (o3 * 4294967296 + o2) (o1 * 4294967296 + o0) = v := by
  rw [hv]; unfold val
  cases s
  ·simp only [Bool.false_eq_true, if_false]; omega
  ·simp only [if_true]; omega
 have hB : B v := by rw [← hv2]; exact val_B (by omega) (by omega)
 rw [held_in hB, hv2]
theorem sawtoothref02_Add.main {n m : Bool} {h l i k : Int} (h1 : U h) (h2 : U l) (h3 : U i) (h4 : U k) : sawtoothref02_Add.f n h l m i k = held (val n h l + val m i k) := by
 unfold sawtoothref02_Add.f
 rw [sawtoothref02_digits.eq h1 h2, sawtoothref02_digits.eq h3 h4]
 simp only [Option.bind_some]
 by_cases hnm : n = m
 ·subst hnm
  rw [if_pos (by simp)]
  unfold sawtoothref02_plus.f
  rw [need_pos ⟨by omega, by omega, by omega, by omega, by omega, by omega, by omega, by omega⟩]
  simp only [Option.bind_some]; have K := plus_whole h1 h2 h3 h4 rfl rfl rfl rfl rfl; obtain ⟨k0, k1, k2, k3, k4, k5, ks⟩ := K
  generalize (h / 4294967296 + i / 4294967296 + (h % 4294967296 + i % 4294967296 + (l / 4294967296 + k / 4294967296 + (l % 4294967296 + k % 4294967296) / 4294967296) / 4294967296) / 4294967296) / 4294967296 = c at *
  generalize (h / 4294967296 + i / 4294967296 + (h % 4294967296 + i % 4294967296 + (l / 4294967296 + k / 4294967296 + (l % 4294967296 + k % 4294967296) / 4294967296) / 4294967296) / 4294967296) % 4294967296 = o3 at *
  generalize (h % 4294967296 + i % 4294967296 + (l / 4294967296 + k / 4294967296 + (l % 4294967296 + k % 4294967296) / 4294967296) / 4294967296) % 4294967296 = o2 at *
  generalize (l / 4294967296 + k / 4294967296 + (l % 4294967296 + k % 4294967296) / 4294967296) % 4294967296 = o1 at *
  generalize (l % 4294967296 + k % 4294967296) % 4294967296 = o0 at *
  by_cases hc : c > 0
  ·rw [if_pos hc, held_out]
   unfold val
   cases n
   ·simp only [Bool.false_eq_true, if_false]; omega
   ·simp only [if_true]; omega
  ·rw [if_neg hc, sawtoothref02_wholeS.eq k0 k1 k2 k3]
   simp only [Option.bind_some]
   have hv2 : val n (o3 * 4294967296 + o2) (o1 * 4294967296 + o0) = val n h l + val n i k := by
    unfold val
    cases n
    ·simp only [Bool.false_eq_true, if_false]; omega
    ·simp only [if_true]; omega
   rw [held_in (by rw [← hv2]; exact val_B (by omega) (by omega)), hv2]
 ·rw [if_neg (by simpa using hnm), sawtoothref02_less.eq h1 h2 h3 h4]
  simp only [Option.bind_some]
  by_cases hl : h * 18446744073709551616 + l < i * 18446744073709551616 + k
  ·rw [decide_eq_true hl, if_pos rfl]
   refine sawtoothref02_Add.sub h3 h4 h1 h2 (by omega) ?_
   unfold val
   cases n <;> cases m <;> simp at hnm ⊢ <;> omega
  ·rw [decide_eq_false hl, if_neg (by simp)]
   refine sawtoothref02_Add.sub h1 h2 h3 h4 (by omega) ?_
   unfold val
   cases n <;> cases m <;> simp at hnm ⊢ <;> omega
end Ref02Add
theorem sawtoothref02_AddS.calls (a0_0 : Bool) (a0_1 a0_2 : Int) (a1_0 : Bool) (a1_1 a1_2 : Int) (r1 : Bool) (r2 r3 r4 : Int) (w : World) (h : sawtoothref02_AddS.f a0_0 a0_1 a0_2 a1_0 a1_1 a1_2 = some (r1, r2, r3, r4)) :
  Calls Try.prog 6 #[.agg #[.bool a0_0, .int .u64 a0_1, .int .u64 a0_2], .agg #[.bool a1_0, .int .u64 a1_1, .int .u64 a1_2]] w fun e w' => e = .returned (.tuple #[.agg #[.bool r1, .int .u64 r2, .int .u64 r3], .int .i64 r4]) ∧ Below w.heap.size w w' := by
 obtain ⟨hc, h⟩ := Go.Proofs.Ytlcobnngpcabpaa.Sp.need_some h; obtain ⟨h1, h2, h3, h4⟩ := hc; exact sawtoothref02_Add.calls a0_0 a0_1 a0_2 a1_0 a1_1 a1_2 r1 r2 r3 r4 w (by rw [sawtoothref02_Add.main h1 h2 h3 h4]; exact h)

end Go.Proofs.Ytlcobnngpcabpaa.Px
