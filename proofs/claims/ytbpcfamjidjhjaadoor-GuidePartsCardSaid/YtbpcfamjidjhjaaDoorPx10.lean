/- Printed by px.py, over the kit's print. Conditions: none beside the theorems' own. -/
import Derived.Test.YtbpcfamjidjhjaaDoorPx0
import Derived.Test.YtbpcfamjidjhjaaDoorPx9
import Derived.Test.YtbpcfamjidjhjaaDoorSpec
namespace Go.Proofs.YtbpcfamjidjhjaaDoor.Px
open Go.RowKit Go.Proofs.YtbpcfamjidjhjaaDoorW.PrintWords Go.Proofs.YtbpcfamjidjhjaaDoorW.PrintLast Go.Proofs.YtbpcfamjidjhjaaDoorW.PrintMore
attribute [local go_sem] max2_int min2_int max_two min_two max_three min_three max_four min_four
set_option linter.unusedVariables false
set_option linter.unusedSimpArgs false

/-! ### big_size_cmpS: which size is greater: pure, behind function 46 -/
section SizeCmp
open Go.Proofs.YtbpcfamjidjhjaaDoor.Sp
theorem cmpU_eq (a b : Int) : cmp_Compare_uint64.f a b = some (cmpI a b) := by
 unfold cmp_Compare_uint64.f cmp_isNaN_uint64.f cmpI
 simp
 split
 ·rfl
 ·split <;> split <;> first | rfl | omega
theorem orI_eq (a b : Int) : cmp_Or_int.f 3 [a, b] = some (if a = 0 then b else a) := by
 have w1 : wrap64 (0 + 1) = 1 := by unfold wrap64; omega
 have w2 : wrap64 (1 + 1) = 2 := by unfold wrap64; omega
 unfold cmp_Or_int.f
 simp only [cmp_Or_int.l0, List.length_cons, List.length_nil, rd, w1, w2]
 by_cases ha : a = 0 <;> by_cases hb : b = 0 <;> simp [ha, hb]
end SizeCmp
noncomputable def big_size_cmpS.f (a b c d : Int) : Option Int := Sp.need (0 ≤ a ∧ a < 18446744073709551616 ∧ 0 ≤ b ∧ b < 18446744073709551616 ∧ 0 ≤ c ∧ c < 18446744073709551616 ∧ 0 ≤ d ∧ d < 18446744073709551616) (some (Sp.cmpI (a * 18446744073709551616 + b) (c * 18446744073709551616 + d)))
theorem big_size_cmpS.calls (a0_0 a0_1 a1_0 a1_1 r : Int) (w : World) (h : big_size_cmpS.f a0_0 a0_1 a1_0 a1_1 = some r) :
  Calls Tryd.prog 46 #[.agg #[.int .u64 a0_0, .int .u64 a0_1], .agg #[.int .u64 a1_0, .int .u64 a1_1]] w fun e w' => e = .returned (.int .i64 r) ∧ Below w.heap.size w w' := by
 obtain ⟨hc, h⟩ := Sp.need_some h; refine big_size_cmp.calls 3 a0_0 a0_1 a1_0 a1_1 r w ?_
 rw [← h]
 unfold big_size_cmp.f
 rw [cmpU_eq, cmpU_eq]
 simp only [Option.bind_some, orI_eq]
 congr 1
 unfold Sp.cmpI
 obtain ⟨_, _, _, _, _, _, _, _⟩ := hc
 (repeat' split) <;> omega

end Go.Proofs.YtbpcfamjidjhjaaDoor.Px
