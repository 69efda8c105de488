/- Printed by a program of this session (wip/tool/px.py), over the kit's print: for each Go function a Lean function, and the proof that the machine's call answers as that function says. Conditions: none beside what the theorems state. -/
import Derived.Test.YtepmnfjcmppghaaPx0
import Derived.Test.YtepmnfjcmppghaaPx14
import Derived.Test.YtepmnfjcmppghaaPx16
import Derived.Test.YtepmnfjcmppghaaPx22
import Derived.Test.YtepmnfjcmppghaaPx25
import Derived.Test.YtepmnfjcmppghaaPx29
import Derived.Test.YtepmnfjcmppghaaPx30
import Derived.Test.YtepmnfjcmppghaaSpec
namespace Go.Proofs.Ytepmnfjcmppghaa.Px
open Go.RowKit Go.Proofs.YtepmnfjcmppghaaW.PrintWords Go.Proofs.YtepmnfjcmppghaaW.PrintLast Go.Proofs.YtepmnfjcmppghaaW.PrintMore
attribute [local go_sem] max2_int min2_int max_two min_two max_three min_three max_four min_four   -- for this text's walks alone
set_option linter.unusedVariables false
set_option linter.unusedSimpArgs false

/-! ### frac_FloorS: a part of a product, from below: pure, behind function 36 -/
noncomputable def frac_FloorS.f (a b c : Int) : Option (Int × Int) := Go.Proofs.Ytepmnfjcmppghaa.Sp.need (Go.Proofs.Ytepmnfjcmppghaa.Sp.I a ∧ Go.Proofs.Ytepmnfjcmppghaa.Sp.I b ∧ Go.Proofs.Ytepmnfjcmppghaa.Sp.I c) (Go.Proofs.Ytepmnfjcmppghaa.Sp.floorQ a b c)
section FracFloor
open Go.Proofs.Ytepmnfjcmppghaa.Sp
theorem frac_way_part_frac_Floor.j1_eq {q : Int} (h : B q) : frac_way_part_frac_Floor.j1 1 0 (encN q) (encH q) (encL q) = fit q := by
 simp only [frac_way_part_frac_Floor.j1]
 rw [big_IntS.enc h]
 simp only [Option.bind_some, if_true]
 rw [big_OfS.eq (near_I _)]
 simp only [Option.bind_some]
 rw [enc_bne]
 unfold fit
 by_cases hi : I q
 ·rw [near_in hi, if_pos hi]; simp
 ·rw [if_neg hi, if_pos]
  have : ¬ q = near q := fun e => hi (e ▸ near_I q)
  simp [this]
theorem frac_way_part_frac_Floor.j0_eq {q : Int} (h : -85070591730234615865843651857942052864 ≤ q ∧ q ≤ 85070591730234615865843651857942052864) (up : Bool) : frac_way_part_frac_Floor.j0 2 0 up (encN q) (encH q) (encL q) = fit (if up = true then q + 1 else q) := by
 simp only [frac_way_part_frac_Floor.j0]
 cases up with
 | false =>
  simp only [Bool.false_eq_true, if_false]
  exact frac_way_part_frac_Floor.j1_eq (by omega)
 | true =>
  simp only [if_true]
  rw [big_OfS.eq (by omega)]
  simp only [Option.bind_some]
  rw [big_AddS.enc (by omega) (by omega), held_in (by omega)]
  simp only [Option.bind_some]
  exact frac_way_part_frac_Floor.j1_eq (by omega)
theorem frac_Floor.main {a b c : Int} (h1 : I a) (h2 : I b) (h3 : I c) : frac_Floor.f 2 a b c = floorQ a b c := by
 unfold frac_Floor.f frac_way_part_frac_Floor.f
 by_cases hc : c < 1
 ·rw [if_pos hc]; unfold floorQ; rw [if_pos hc]; rfl
 ·have hp : 0 < c := by omega
  have hm := mulI h1 h2
  have r0 := Int.emod_nonneg (a * b) (show c ≠ 0 by omega)
  have r1 := Int.emod_lt_of_pos (a * b) hp
  have hq := quoI hm hp
  rw [if_neg hc, big_MulS.eq h1 h2, u64w_in (x := c) (by omega)]
  simp only [Option.bind_some]
  rw [big_DivS.enc (by omega) (by omega), quo_pos (by omega)]
  simp only [Option.bind_some, if_true, frac_Floor_1.f]
  rw [show ∀ x : Option (Int × Int), (x.bind fun bt => some (bt.1, bt.2)) = x from fun x => by cases x <;> rfl]
  rw [frac_way_part_frac_Floor.j0_eq hq false]
  simp only [Bool.false_eq_true, if_false]
  unfold floorQ; rw [if_neg hc]
theorem frac_FloorS.eq {a b c : Int} (h1 : I a) (h2 : I b) (h3 : I c) : frac_FloorS.f a b c = floorQ a b c := need_pos ⟨h1, h2, h3⟩
end FracFloor
theorem frac_FloorS.calls (a0 a1 a2 r1 r2 : Int) (w : World) (h : frac_FloorS.f a0 a1 a2 = some (r1, r2)) :
  Calls Try.prog 36 #[.int .i64 a0, .int .i64 a1, .int .i64 a2] w fun e w' => e = .returned (.tuple #[.int .i64 r1, .int .i64 r2]) ∧ Below w.heap.size w w' := by
 obtain ⟨hc, h⟩ := Go.Proofs.Ytepmnfjcmppghaa.Sp.need_some h
 obtain ⟨h1, h2, h3⟩ := hc
 exact frac_Floor.calls 2 a0 a1 a2 r1 r2 w (by rw [frac_Floor.main h1 h2 h3]; exact h)

end Go.Proofs.Ytepmnfjcmppghaa.Px
