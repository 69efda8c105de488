/- Printed by px.py, over the kit's print. Conditions: none beside the theorems' own. -/
import Derived.Test.YtbpcfamjidjhjaaDoorPx0
import Derived.Test.YtbpcfamjidjhjaaDoorPx11
import Derived.Test.YtbpcfamjidjhjaaDoorSpec
namespace Go.Proofs.YtbpcfamjidjhjaaDoor.Px
open Go.RowKit Go.Proofs.YtbpcfamjidjhjaaDoorW.PrintWords Go.Proofs.YtbpcfamjidjhjaaDoorW.PrintLast Go.Proofs.YtbpcfamjidjhjaaDoorW.PrintMore
attribute [local go_sem] max2_int min2_int max_two min_two max_three min_three max_four min_four
set_option linter.unusedVariables false
set_option linter.unusedSimpArgs false

/-! ### big_OfS: a number: pure, behind function 56 -/
section BigOf
open Go.Proofs.YtbpcfamjidjhjaaDoor.Sp
theorem big_far.eq {a : Int} (h : I a) : big_far.f a = some (a.natAbs : Int) := by
 unfold big_far.f
 simp only [u64w]
 split <;> · congr 1; omega
theorem big_with.eq {h l : Int} {neg : Bool} (h1 : U h) (h2 : U l) :
  big_size_with.f h l neg = some (encN (val neg h l), encH (val neg h l), encL (val neg h l)) := by
 unfold big_size_with.f
 by_cases hn : neg = true
 ·subst hn
  rw [if_pos rfl]
  by_cases hz : h = 0 ∧ l = 0
  ·obtain ⟨rfl, rfl⟩ := hz; rfl
  ·obtain ⟨e1, e2, e3⟩ := enc_of (n := true) h1 h2 (fun _ => hz)
   rw [e1, e2, e3]
   congr 2
   simp
   omega
 ·rw [if_neg hn]
  have hn : neg = false := by simpa using hn
  subst hn
  obtain ⟨e1, e2, e3⟩ := enc_of (n := false) h1 h2 (by simp)
  rw [e1, e2, e3]
end BigOf
noncomputable def big_OfS.f (a : Int) : Option (Bool × Int × Int) := Sp.need (Sp.I a) (some (Sp.encN a, Sp.encH a, Sp.encL a))
theorem big_OfS.eq {a : Int} (h : Sp.I a) : big_OfS.f a = some (Sp.encN a, Sp.encH a, Sp.encL a) := Sp.need_pos h
theorem big_OfS.calls (a0 : Int) (r1 : Bool) (r2 r3 : Int) (w : World) (h : big_OfS.f a0 = some (r1, r2, r3)) :
  Calls Tryd.prog 56 #[.int .i64 a0] w fun e w' => e = .returned (.agg #[.bool r1, .int .u64 r2, .int .u64 r3]) ∧ Below w.heap.size w w' := by
 obtain ⟨hc, h⟩ := Sp.need_some h; refine big_Of.calls a0 r1 r2 r3 w ?_
 rw [← h]
 unfold big_Of.f
 rw [big_far.eq hc]
 simp only [Option.bind_some]
 rw [big_with.eq (by omega) (by omega)]
 simp only [Option.bind_some]
 have e : Sp.val (decide (a0 < 0)) 0 (a0.natAbs : Int) = a0 := by
  unfold Sp.val
  by_cases h : a0 < 0 <;> simp [h] <;> omega
 rw [e]

end Go.Proofs.YtbpcfamjidjhjaaDoor.Px
