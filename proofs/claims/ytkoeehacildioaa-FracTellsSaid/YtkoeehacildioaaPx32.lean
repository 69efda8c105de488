/- Printed by a program of this session (wip/tool/px.py), over the kit's print: for each Go function a Lean function, and the proof that the machine's call answers as that function says. Conditions: none beside what the theorems state. -/
import Derived.Test.YtkoeehacildioaaPx0
import Derived.Test.YtkoeehacildioaaPx25
import Derived.Test.YtkoeehacildioaaPx26
import Derived.Test.YtkoeehacildioaaPx28
import Derived.Test.YtkoeehacildioaaPx30
import Derived.Test.YtkoeehacildioaaPx31
import Derived.Test.YtkoeehacildioaaSpec
namespace Go.Proofs.Ytkoeehacildioaa.Px
open Go.RowKit Go.Proofs.YtkoeehacildioaaW.PrintWords Go.Proofs.YtkoeehacildioaaW.PrintLast Go.Proofs.YtkoeehacildioaaW.PrintMore
attribute [local go_sem] max2_int min2_int max_two min_two max_three min_three max_four min_four   -- for this text's walks alone
set_option linter.unusedVariables false
set_option linter.unusedSimpArgs false

/-! ### sawtoothref02_CmpS: which is greater: pure, behind function 29 -/
noncomputable def sawtoothref02_CmpS.f (n : Bool) (h l : Int) (m : Bool) (i k : Int) : Option Int := Go.Proofs.Ytkoeehacildioaa.Sp.cmpF n h l m i k
section Ref02Cmp
open Go.Proofs.Ytkoeehacildioaa.Sp
theorem sawtoothref02_Cmp.main {n m : Bool} {h l i k : Int} (h1 : U h) (h2 : U l) (h3 : U i) (h4 : U k) : sawtoothref02_Cmp.f 1 n h l m i k = some (cmpI (val n h l) (val m i k)) := by
 unfold sawtoothref02_Cmp.f
 rw [sawtoothref02_digits.eq h1 h2, sawtoothref02_digits.eq h3 h4]
 simp only [Option.bind_some, sawtoothref02_belowS.eq h1 h2, sawtoothref02_belowS.eq h3 h4, sawtoothref02_less.eq h1 h2 h3 h4, sawtoothref02_less.eq h3 h4 h1 h2, sawtoothref02_Cmp.j0]
 have v1 : val n h l = h * 18446744073709551616 + l ∨ val n h l = -(h * 18446744073709551616 + l) := by unfold val; cases n <;> simp
 have v2 : val m i k = i * 18446744073709551616 + k ∨ val m i k = -(i * 18446744073709551616 + k) := by unfold val; cases m <;> simp
 have p1 : 0 ≤ h * 18446744073709551616 + l := by omega
 have p2 : 0 ≤ i * 18446744073709551616 + k := by omega
 generalize val n h l = v at *
 generalize val m i k = w at *
 generalize h * 18446744073709551616 + l = M at *
 generalize i * 18446744073709551616 + k = N at *
 unfold cmpI
 by_cases a : v < 0 <;> by_cases b : w < 0 <;> by_cases c : M < N <;> by_cases d : N < M <;> simp [a, b, c, d] <;> omega
end Ref02Cmp
theorem sawtoothref02_CmpS.calls (a0_0 : Bool) (a0_1 a0_2 : Int) (a1_0 : Bool) (a1_1 a1_2 r : Int) (w : World) (h : sawtoothref02_CmpS.f a0_0 a0_1 a0_2 a1_0 a1_1 a1_2 = some r) :
  Calls Try.prog 29 #[.agg #[.bool a0_0, .int .u64 a0_1, .int .u64 a0_2], .agg #[.bool a1_0, .int .u64 a1_1, .int .u64 a1_2]] w fun e w' => e = .returned (.int .i64 r) ∧ Below w.heap.size w w' := by
 obtain ⟨hc, h⟩ := Go.Proofs.Ytkoeehacildioaa.Sp.need_some h; obtain ⟨h1, h2, h3, h4⟩ := hc; exact sawtoothref02_Cmp.calls 1 a0_0 a0_1 a0_2 a1_0 a1_1 a1_2 r w (by rw [sawtoothref02_Cmp.main h1 h2 h3 h4]; exact h)

/-! ### sawtoothref02_Int: function 31 -/
noncomputable def sawtoothref02_Int.j0 : Nat → Bool → Bool → Int → Int → Option (Int)
 | 0, _, _, _, _ => none
 | k + 1, x10, x416000, x416001, x416002 => if x10 = true then ((sawtoothref02_belowS.f x416000 x416001 x416002).bind fun t416 => (if t416 = true then (some (-9223372036854775808)) else (some 9223372036854775807))) else ((sawtoothref02_belowS.f x416000 x416001 x416002).bind fun t417 => (if t417 = true then (some (wrap64 (-(wrap64 (x416002))))) else (some (wrap64 (x416002)))))
noncomputable def sawtoothref02_Int.f (k : Nat) (a0_0 : Bool) (a0_1 : Int) (a0_2 : Int) : Option (Int) := if a0_1 > 0 then (sawtoothref02_Int.j0 k true a0_0 a0_1 a0_2) else (sawtoothref02_Int.j0 k (decide (a0_2 ≥ 9223372036854775808)) a0_0 a0_1 a0_2)
theorem sawtoothref02_Int.mono_l : ∀ k, (∀ y0 y1 y2 y3, LeO (sawtoothref02_Int.j0 k y0 y1 y2 y3) (sawtoothref02_Int.j0 (k + 1) y0 y1 y2 y3))
 | 0 => fun _ _ _ _ r h => by simp [sawtoothref02_Int.j0] at h
 | k + 1 => by
  have ih0 := sawtoothref02_Int.mono_l k
  ·intro y0 y1 y2 y3
   unfold sawtoothref02_Int.j0
   repeat' first
   | (with_reducible exact ih0 _ _ _ _)
   | (with_reducible exact LeO.refl _)
   | (with_reducible exact LeO.none _)
   | (with_reducible refine LeO.ite ?_ ?_)
   | (with_reducible refine LeO.bind ?_ (fun _ => ?_))
   | exact ih0 _ _ _ _
   | exact LeO.none _
   | refine LeO.ite ?_ ?_
   | refine LeO.bind ?_ (fun _ => ?_)
theorem sawtoothref02_Int.mono : ∀ a0 a1 a2 k, LeO (sawtoothref02_Int.f k a0 a1 a2) (sawtoothref02_Int.f (k + 1) a0 a1 a2) := by
 intro a0 a1 a2 k; have ih0 := sawtoothref02_Int.mono_l k
 unfold sawtoothref02_Int.f
 repeat' first
   | (with_reducible exact ih0 _ _ _ _)
   | (with_reducible exact LeO.refl _)
   | (with_reducible exact LeO.none _)
   | (with_reducible refine LeO.ite ?_ ?_)
   | (with_reducible refine LeO.bind ?_ (fun _ => ?_))
   | exact ih0 _ _ _ _
   | exact LeO.none _
   | refine LeO.ite ?_ ?_
   | refine LeO.bind ?_ (fun _ => ?_)
set_option maxHeartbeats 8000000 in
set_option maxRecDepth 100000 in
theorem sawtoothref02_Int.calls (k : Nat) (a0_0 : Bool) (a0_1 : Int) (a0_2 : Int) (r : Int) (w : World) (h : sawtoothref02_Int.f k a0_0 a0_1 a0_2 = some r) :
  Calls Try.prog 31 #[.agg #[.bool a0_0, .int .u64 a0_1, .int .u64 a0_2]] w fun e w' => e = .returned (.int .i64 r) ∧ Below w.heap.size w w' := by
 have hu24 := Try.underlying24; have HB := Aside0.mk (Below.refl w.heap.size w); have H : (if a0_1 > 0 then (sawtoothref02_Int.j0 k true a0_0 a0_1 a0_2) else (sawtoothref02_Int.j0 k (decide (a0_2 ≥ 9223372036854775808)) a0_0 a0_1 a0_2)) = some r := h; clear h; have HC2 := Aside0.mk H; clear H
 go_enter Try.func31, Try.ntmps31
 go_upto_region 1 with (first | ((with_reducible refine gate_dst (N := 1) rfl ?_); refine box_event ?hg (N := 1) ?hd (cs := #[.bool a0_0, .int .u64 a0_1, .int .u64 a0_2]) (t := 24) ?hr ?_; (case hd => rfl); (case hg => rfl); (case hr => first | (go_simp; done) | (go_simp; rfl)); intro gb415 hg w3 hbox hb; have BK415 := Aside0.mk (hbox); obtain ⟨GW415, nHB⟩ := geA hg hb; have GE415 := GW415; replace HB := nHB; clear nHB; clear hb hbox hg))
 (try simp only [Act.put, sA, sB, sC])
 go_cut [10] (fun v10 wc => ∃ (kq : Nat) (x10_1 : Bool), v10 = .bool x10_1 ∧ Aside0 (sawtoothref02_Int.j0 kq x10_1 a0_0 a0_1 a0_2 = some r) ∧ Aside0 (kq ≤ k) ∧ Aside0 (wc.heap[gb415]? = some (.cells #[.bool a0_0, .int .u64 a0_1, .int .u64 a0_2] 24 (0, 0))) ∧ Aside0 (Below w.heap.size w wc))
 case first =>
  have H := HC2.out; clear HC2
  by_cases c4 : a0_1 > 0
  ·rw [if_pos c4] at H
   have c4b0 : decide (0 < a0_1) = true := decide_eq_true c4; clear c4
   (first | rw [c4b0] | (simp only [i64_w, i32_w]; rw [c4b0]) | skip)
   have H' := Aside0.mk H; clear H; have hcz5_0 := czZ BK415 0 (.bool a0_0); have hcz5_1 := czZ BK415 1 (.int .u64 a0_1); have hcz5_2 := czZ BK415 2 (.int .u64 a0_2); have hfz5_0 := blk_frozen BK415.out 0; have hfz5_1 := blk_frozen BK415.out 1; have hfz5_2 := blk_frozen BK415.out 2
   go_wp2
   go_meet
   case rel => exact ⟨_, (true), (by first | rfl | (simp; done) | (simp [*]; done)), H', ⟨by first | omega | exact Nat.le_refl _⟩, ⟨by (with_reducible repeat first | apply blk_drewN | apply blk_drew | apply blk_alloc); exact BK415.out⟩, ⟨by repeat (first | (with_reducible first | exact HB.out | apply below_alloc | apply pw_below_drewN | apply below_drew1 | refine below_set ?_ GE415.out) | exact HB.out)⟩⟩
  ·rw [if_neg c4] at H
   have c4b0 : decide (0 < a0_1) = false := decide_eq_false c4; clear c4
   (first | rw [c4b0] | (simp only [i64_w, i32_w]; rw [c4b0]) | skip)
   have H' := Aside0.mk H; clear H; have hcz6_0 := czZ BK415 0 (.bool a0_0); have hcz6_1 := czZ BK415 1 (.int .u64 a0_1); have hcz6_2 := czZ BK415 2 (.int .u64 a0_2); have hfz6_0 := blk_frozen BK415.out 0; have hfz6_1 := blk_frozen BK415.out 1; have hfz6_2 := blk_frozen BK415.out 2
   go_wp2
   go_meet
   case rel => exact ⟨_, (decide (a0_2 ≥ 9223372036854775808)), (by first | rfl | (simp; done) | (simp [*]; done)), H', ⟨by first | omega | exact Nat.le_refl _⟩, ⟨by (with_reducible repeat first | apply blk_drewN | apply blk_drew | apply blk_alloc); exact BK415.out⟩, ⟨by repeat (first | (with_reducible first | exact HB.out | apply below_alloc | apply pw_below_drewN | apply below_drew1 | refine below_set ?_ GE415.out) | exact HB.out)⟩⟩
 case rest =>
  clear HC2
  try clear p2
  try clear c3
  try clear c4
  try clear c4b0
  try clear hcz5_0
  try clear hcz5_1
  try clear hcz5_2
  try clear hcz6_0
  try clear hcz6_1
  try clear hcz6_2
  try clear hfz5_0
  try clear hfz5_1
  try clear hfz5_2
  try clear hfz6_0
  try clear hfz6_1
  try clear hfz6_2
  obtain ⟨kq, x10_1, rfl, HA, HJ1, BK415, HB⟩ := hcut
  cases kq with
  | zero => exact absurd HA.out (by simp [sawtoothref02_Int.j0])
  | succ kj1 =>
   have H := HA.out; clear HA; simp only [sawtoothref02_Int.j0] at H
   by_cases c7 : x10_1 = true
   ·subst c7
    have H1 : ((sawtoothref02_belowS.f a0_0 a0_1 a0_2).bind fun t416 => (if t416 = true then (some (-9223372036854775808)) else (some 9223372036854775807))) = some r := by rw [if_pos rfl] at H; exact H
    clear H; have H := H1; clear H1; replace H := Option.bind_eq_some_iff.mp H; obtain ⟨t416, A80, H⟩ := H; replace H : (if t416 = true then (some (-9223372036854775808)) else (some 9223372036854775807)) = some r := H; have A8 := Aside0.mk A80; clear A80
    by_cases c9 : t416 = true
    ·subst c9
     have H1 : (some (-9223372036854775808)) = some r := by rw [if_pos rfl] at H; exact H
     clear H; have H := H1; clear H1; obtain rfl := Option.some.inj H; have hcz10_0 : wc.cell? ⟨gb415, 0, none⟩ = some (.bool a0_0) := (blk_cell BK415.out 0).trans rfl; have hcz10_1 : wc.cell? ⟨gb415, 1, none⟩ = some (.int .u64 a0_1) := (blk_cell BK415.out 1).trans rfl; have hcz10_2 : wc.cell? ⟨gb415, 2, none⟩ = some (.int .u64 a0_2) := (blk_cell BK415.out 2).trans rfl; have hfz10_0 := blk_frozen BK415.out 0; have hfz10_1 := blk_frozen BK415.out 1; have hfz10_2 := blk_frozen BK415.out 2
     go_wp2_with (first | ((with_reducible refine gate_callee (f := 59) rfl ?_); refine goesLA_ (some 12) rfl rfl Try.func59 rfl #[.agg #[.bool a0_0, .int .u64 a0_1, .int .u64 a0_2]] rfl ?_; (with_reducible refine (sawtoothref02_belowS.calls a0_0 a0_1 a0_2 true _ A8.out).mono ?_); rintro e w11 ⟨rfl, hb⟩; refine ⟨_, rfl, ?_⟩; replace BK415 := bdZ BK415 hb; replace HB := stA hb; clear hb))
     go_ret
     exact ⟨by first | rfl | (simp [errW_none, errW_some] <;> rfl) | (simp [*, errW_none, errW_some] <;> rfl), by repeat (first | (with_reducible first | exact HB.out | apply below_alloc | apply pw_below_drewN | apply below_drew1 | refine below_set ?_ GE415.out) | exact HB.out)⟩
    ·replace c9 := Bool.eq_false_iff.mpr c9
     subst c9
     have H1 : (some 9223372036854775807) = some r := by rw [if_neg (show ¬ (false = true) by decide)] at H; exact H
     clear H; have H := H1; clear H1; obtain rfl := Option.some.inj H; have hcz12_0 : wc.cell? ⟨gb415, 0, none⟩ = some (.bool a0_0) := (blk_cell BK415.out 0).trans rfl; have hcz12_1 : wc.cell? ⟨gb415, 1, none⟩ = some (.int .u64 a0_1) := (blk_cell BK415.out 1).trans rfl; have hcz12_2 : wc.cell? ⟨gb415, 2, none⟩ = some (.int .u64 a0_2) := (blk_cell BK415.out 2).trans rfl; have hfz12_0 := blk_frozen BK415.out 0; have hfz12_1 := blk_frozen BK415.out 1; have hfz12_2 := blk_frozen BK415.out 2
     go_wp2_with (first | ((with_reducible refine gate_callee (f := 59) rfl ?_); refine goesLA_ (some 12) rfl rfl Try.func59 rfl #[.agg #[.bool a0_0, .int .u64 a0_1, .int .u64 a0_2]] rfl ?_; (with_reducible refine (sawtoothref02_belowS.calls a0_0 a0_1 a0_2 false _ A8.out).mono ?_); rintro e w13 ⟨rfl, hb⟩; refine ⟨_, rfl, ?_⟩; replace BK415 := bdZ BK415 hb; replace HB := stA hb; clear hb))
     go_ret
     exact ⟨by first | rfl | (simp [errW_none, errW_some] <;> rfl) | (simp [*, errW_none, errW_some] <;> rfl), by repeat (first | (with_reducible first | exact HB.out | apply below_alloc | apply pw_below_drewN | apply below_drew1 | refine below_set ?_ GE415.out) | exact HB.out)⟩
   ·replace c7 := Bool.eq_false_iff.mpr c7
    subst c7
    have H1 : ((sawtoothref02_belowS.f a0_0 a0_1 a0_2).bind fun t417 => (if t417 = true then (some (wrap64 (-(wrap64 (a0_2))))) else (some (wrap64 (a0_2))))) = some r := by rw [if_neg (show ¬ (false = true) by decide)] at H; exact H
    clear H; have H := H1; clear H1; replace H := Option.bind_eq_some_iff.mp H; obtain ⟨t417, A140, H⟩ := H; replace H : (if t417 = true then (some (wrap64 (-(wrap64 (a0_2))))) else (some (wrap64 (a0_2)))) = some r := H; have A14 := Aside0.mk A140; clear A140
    by_cases c15 : t417 = true
    ·subst c15
     have H1 : (some (wrap64 (-(wrap64 (a0_2))))) = some r := by rw [if_pos rfl] at H; exact H
     clear H; have H := H1; clear H1; obtain rfl := Option.some.inj H; have hcz16_0 : wc.cell? ⟨gb415, 0, none⟩ = some (.bool a0_0) := (blk_cell BK415.out 0).trans rfl; have hcz16_1 : wc.cell? ⟨gb415, 1, none⟩ = some (.int .u64 a0_1) := (blk_cell BK415.out 1).trans rfl; have hcz16_2 : wc.cell? ⟨gb415, 2, none⟩ = some (.int .u64 a0_2) := (blk_cell BK415.out 2).trans rfl; have hfz16_0 := blk_frozen BK415.out 0; have hfz16_1 := blk_frozen BK415.out 1; have hfz16_2 := blk_frozen BK415.out 2
     go_wp2_with (first | ((with_reducible refine gate_callee (f := 59) rfl ?_); refine goesLA_ (some 14) rfl rfl Try.func59 rfl #[.agg #[.bool a0_0, .int .u64 a0_1, .int .u64 a0_2]] rfl ?_; (with_reducible refine (sawtoothref02_belowS.calls a0_0 a0_1 a0_2 true _ A14.out).mono ?_); rintro e w17 ⟨rfl, hb⟩; refine ⟨_, rfl, ?_⟩; replace BK415 := bdZ BK415 hb; replace HB := stA hb; clear hb; have hcz18_0 := czZ BK415 0 (.bool a0_0); have hcz18_1 := czZ BK415 1 (.int .u64 a0_1); have hcz18_2 := czZ BK415 2 (.int .u64 a0_2); have hfz18_0 := blk_frozen BK415.out 0; have hfz18_1 := blk_frozen BK415.out 1; have hfz18_2 := blk_frozen BK415.out 2))
     go_ret
     exact ⟨by first | rfl | (simp [errW_none, errW_some] <;> rfl) | (simp [*, errW_none, errW_some] <;> rfl), by repeat (first | (with_reducible first | exact HB.out | apply below_alloc | apply pw_below_drewN | apply below_drew1 | refine below_set ?_ GE415.out) | exact HB.out)⟩
    ·replace c15 := Bool.eq_false_iff.mpr c15
     subst c15
     have H1 : (some (wrap64 (a0_2))) = some r := by rw [if_neg (show ¬ (false = true) by decide)] at H; exact H
     clear H; have H := H1; clear H1; obtain rfl := Option.some.inj H; have hcz19_0 : wc.cell? ⟨gb415, 0, none⟩ = some (.bool a0_0) := (blk_cell BK415.out 0).trans rfl; have hcz19_1 : wc.cell? ⟨gb415, 1, none⟩ = some (.int .u64 a0_1) := (blk_cell BK415.out 1).trans rfl; have hcz19_2 : wc.cell? ⟨gb415, 2, none⟩ = some (.int .u64 a0_2) := (blk_cell BK415.out 2).trans rfl; have hfz19_0 := blk_frozen BK415.out 0; have hfz19_1 := blk_frozen BK415.out 1; have hfz19_2 := blk_frozen BK415.out 2
     go_wp2_with (first | ((with_reducible refine gate_callee (f := 59) rfl ?_); refine goesLA_ (some 14) rfl rfl Try.func59 rfl #[.agg #[.bool a0_0, .int .u64 a0_1, .int .u64 a0_2]] rfl ?_; (with_reducible refine (sawtoothref02_belowS.calls a0_0 a0_1 a0_2 false _ A14.out).mono ?_); rintro e w20 ⟨rfl, hb⟩; refine ⟨_, rfl, ?_⟩; replace BK415 := bdZ BK415 hb; replace HB := stA hb; clear hb; have hcz21_0 := czZ BK415 0 (.bool a0_0); have hcz21_1 := czZ BK415 1 (.int .u64 a0_1); have hcz21_2 := czZ BK415 2 (.int .u64 a0_2); have hfz21_0 := blk_frozen BK415.out 0; have hfz21_1 := blk_frozen BK415.out 1; have hfz21_2 := blk_frozen BK415.out 2))
     go_ret
     exact ⟨by first | rfl | (simp [errW_none, errW_some] <;> rfl) | (simp [*, errW_none, errW_some] <;> rfl), by repeat (first | (with_reducible first | exact HB.out | apply below_alloc | apply pw_below_drewN | apply below_drew1 | refine below_set ?_ GE415.out) | exact HB.out)⟩

/-! ### sawtoothref02_IntS: the nearest int: pure, behind function 31 -/
noncomputable def sawtoothref02_IntS.f (n : Bool) (h l : Int) : Option Int := Go.Proofs.Ytkoeehacildioaa.Sp.intF n h l
section Ref02Int
open Go.Proofs.Ytkoeehacildioaa.Sp
theorem sawtoothref02_Int.main {n : Bool} {h l : Int} (h1 : U h) (h2 : U l) : sawtoothref02_Int.f 1 n h l = some (near (val n h l)) := by
 unfold sawtoothref02_Int.f
 have e : (if h > 0 then sawtoothref02_Int.j0 1 true n h l else sawtoothref02_Int.j0 1 (decide (l ≥ 9223372036854775808)) n h l) = sawtoothref02_Int.j0 1 (decide (h > 0 ∨ l ≥ 9223372036854775808)) n h l := by
  by_cases hh : h > 0
  ·rw [if_pos hh, decide_eq_true (Or.inl hh)]
  ·rw [if_neg hh]; congr 1; rw [decide_eq_decide]; omega
 rw [e]
 simp only [sawtoothref02_Int.j0, sawtoothref02_belowS.eq h1 h2, Option.bind_some]; have hw : wrap64 l = wrap64 l := rfl
 by_cases hb : h > 0 ∨ l ≥ 9223372036854775808
 ·rw [decide_eq_true hb, if_pos rfl]
  by_cases hn : val n h l < 0
  ·rw [decide_eq_true hn, if_pos rfl]
   unfold near val at *
   cases n <;> simp at hn ⊢ <;> omega
  ·rw [decide_eq_false hn, if_neg (by simp)]
   unfold near val at *
   cases n <;> simp at hn ⊢ <;> omega
 ·rw [decide_eq_false hb, if_neg (by simp), w64 (x := l) (by omega), w64 (x := -l) (by omega)]
  have hh : h = 0 := by omega
  subst hh
  by_cases hn : val n 0 l < 0
  ·rw [decide_eq_true hn, if_pos rfl, near_in]
   ·unfold val at *; cases n <;> simp at hn ⊢; omega
   ·unfold val; cases n <;> simp <;> omega
  ·rw [decide_eq_false hn, if_neg (by simp), near_in]
   ·unfold val at *; cases n <;> simp at hn ⊢; omega
   ·unfold val; cases n <;> simp <;> omega
end Ref02Int
theorem sawtoothref02_IntS.calls (a0_0 : Bool) (a0_1 a0_2 r : Int) (w : World) (h : sawtoothref02_IntS.f a0_0 a0_1 a0_2 = some r) :
  Calls Try.prog 31 #[.agg #[.bool a0_0, .int .u64 a0_1, .int .u64 a0_2]] w fun e w' => e = .returned (.int .i64 r) ∧ Below w.heap.size w w' := by
 obtain ⟨hc, h⟩ := Go.Proofs.Ytkoeehacildioaa.Sp.need_some h; exact sawtoothref02_Int.calls 1 a0_0 a0_1 a0_2 r w (by rw [sawtoothref02_Int.main hc.1 hc.2]; exact h)

/-! ### sawtoothref04_part: function 62 -/
noncomputable def sawtoothref04_part.f (a0 : Int) (a1 : Int) (a2 : Int) (a3 : Int) : Option (Int × Int) := if a2 < 1 then (some (0, 20)) else ((sawtoothref02_MulS.f a0 a1).bind fun bt418 => ((sawtoothref02_OfS.f a3).bind fun bt421 => ((sawtoothref02_AddS.f bt418.1 bt418.2.1 bt418.2.2 bt421.1 bt421.2.1 bt421.2.2).bind fun bt424 => ((sawtoothref02_DivS.f bt424.1 bt424.2.1 bt424.2.2.1 (IntKind.u64.wrap (a2))).bind fun bt429 => ((sawtoothref02_IntS.f bt429.1 bt429.2.1 bt429.2.2.1).bind fun t435 => ((sawtoothref02_OfS.f t435).bind fun bt436 => ((sawtoothref02_CmpS.f bt429.1 bt429.2.1 bt429.2.2.1 bt436.1 bt436.2.1 bt436.2.2).bind fun t439 => (if t439 = 0 then (some (t435, 0)) else (some (0, 10))))))))))
set_option maxHeartbeats 8000000 in
set_option maxRecDepth 100000 in
theorem sawtoothref04_part.calls (a0 : Int) (a1 : Int) (a2 : Int) (a3 : Int) (r1 : Int) (r2 : Int) (w : World) (h : sawtoothref04_part.f a0 a1 a2 a3 = some (r1, r2)) :
  Calls Try.prog 62 #[.int .i64 a0, .int .i64 a1, .int .i64 a2, .int .i64 a3] w fun e w' => e = .returned (.tuple #[.int .i64 r1, .int .i64 r2]) ∧ Below w.heap.size w w' := by
 have hu24 := Try.underlying24; have HB := Aside0.mk (Below.refl w.heap.size w); have H : (if a2 < 1 then (some (0, 20)) else ((sawtoothref02_MulS.f a0 a1).bind fun bt418 => ((sawtoothref02_OfS.f a3).bind fun bt421 => ((sawtoothref02_AddS.f bt418.1 bt418.2.1 bt418.2.2 bt421.1 bt421.2.1 bt421.2.2).bind fun bt424 => ((sawtoothref02_DivS.f bt424.1 bt424.2.1 bt424.2.2.1 (IntKind.u64.wrap (a2))).bind fun bt429 => ((sawtoothref02_IntS.f bt429.1 bt429.2.1 bt429.2.2.1).bind fun t435 => ((sawtoothref02_OfS.f t435).bind fun bt436 => ((sawtoothref02_CmpS.f bt429.1 bt429.2.1 bt429.2.2.1 bt436.1 bt436.2.1 bt436.2.2).bind fun t439 => (if t439 = 0 then (some (t435, 0)) else (some (0, 10))))))))))) = some (r1, r2) := h; clear h
 by_cases c5 : a2 < 1
 ·rw [if_pos c5] at H
  have c5b0 : decide (a2 < 1) = true := decide_eq_true c5; clear c5; simp only [Option.some.injEq, Prod.mk.injEq] at H; obtain ⟨rfl, rfl⟩ := H
  go_enter Try.func62, Try.ntmps62
  go_wp2
  go_ret2
  exact ⟨by first | rfl | (simp [errW_none, errW_some] <;> rfl) | (simp [*, errW_none, errW_some] <;> rfl), by repeat (first | (with_reducible first | exact HB.out | apply below_alloc | apply pw_below_drewN | apply below_drew1) | exact HB.out)⟩
 ·rw [if_neg c5] at H
  have c5b0 : decide (a2 < 1) = false := decide_eq_false c5; clear c5; replace H := Option.bind_eq_some_iff.mp H; obtain ⟨⟨t418, t419, t420⟩, A60, H⟩ := H; (try dsimp only at H); have A6 := Aside0.mk A60; clear A60; replace H := Option.bind_eq_some_iff.mp H; obtain ⟨⟨t421, t422, t423⟩, A70, H⟩ := H; (try dsimp only at H); have A7 := Aside0.mk A70; clear A70; replace H := Option.bind_eq_some_iff.mp H; obtain ⟨⟨t424, t425, t426, t427⟩, A80, H⟩ := H; (try dsimp only at H); have A8 := Aside0.mk A80; clear A80; replace H := Option.bind_eq_some_iff.mp H; obtain ⟨⟨t429, t430, t431, t432, t433⟩, A90, H⟩ := H; (try dsimp only at H); have A9 := Aside0.mk A90; clear A90; replace H := Option.bind_eq_some_iff.mp H; obtain ⟨t435, A100, H⟩ := H; (try dsimp only at H); have A10 := Aside0.mk A100; clear A100; replace H := Option.bind_eq_some_iff.mp H; obtain ⟨⟨t436, t437, t438⟩, A110, H⟩ := H; replace H : ((sawtoothref02_CmpS.f t429 t430 t431 t436 t437 t438).bind fun t439 => (if t439 = 0 then (some (t435, 0)) else (some (0, 10)))) = some (r1, r2) := H; have A11 := Aside0.mk A110; clear A110; replace H := Option.bind_eq_some_iff.mp H; obtain ⟨t439, A120, H⟩ := H; replace H : (if t439 = 0 then (some (t435, 0)) else (some (0, 10))) = some (r1, r2) := H; have A12 := Aside0.mk A120; clear A120
  by_cases c13 : t439 = 0
  ·rw [if_pos c13] at H
   have c13b0 : (t439 == 0) = true := beq_iff_eq.mpr c13; have c13b1 : (t439 != 0) = false := bne_eq_false_iff_eq.mpr c13; clear c13; simp only [Option.some.injEq, Prod.mk.injEq] at H; obtain ⟨rfl, rfl⟩ := H
   go_enter Try.func62, Try.ntmps62
   try go_wp2_with (first | ((with_reducible refine gate_callee (f := 25) rfl ?_); refine goesLA_ (some 21) rfl rfl Try.func25 rfl #[.int .i64 a0, .int .i64 a1] rfl ?_; (with_reducible refine (sawtoothref02_MulS.calls a0 a1 t418 t419 t420 _ A6.out).mono ?_); rintro e w14 ⟨rfl, hb⟩; refine ⟨_, rfl, ?_⟩; replace HB := stA hb; clear hb) | ((with_reducible refine gate_callee (f := 23) rfl ?_); refine goesLA_ (some 23) rfl rfl Try.func23 rfl #[.int .i64 a3] rfl ?_; (with_reducible refine (sawtoothref02_OfS.calls a3 t421 t422 t423 _ A7.out).mono ?_); rintro e w15 ⟨rfl, hb⟩; refine ⟨_, rfl, ?_⟩; replace HB := stA hb; clear hb) | ((with_reducible refine gate_callee (f := 17) rfl ?_); refine goesLA_ (some 24) rfl rfl Try.func17 rfl #[.agg #[.bool t418, .int .u64 t419, .int .u64 t420], .agg #[.bool t421, .int .u64 t422, .int .u64 t423]] rfl ?_; (with_reducible refine (sawtoothref02_AddS.calls t418 t419 t420 t421 t422 t423 t424 t425 t426 t427 _ A8.out).mono ?_); rintro e w16 ⟨rfl, hb⟩; refine ⟨_, rfl, ?_⟩; replace HB := stA hb; clear hb) | ((with_reducible refine gate_dst (N := 10) rfl ?_); refine box_event ?hg (N := 10) ?hd (cs := #[.bool false, .int .u64 0, .int .u64 0]) (t := 24) ?hr ?_; (case hd => rfl); (case hg => rfl); (case hr => first | (go_simp; done) | (go_simp; rfl)); intro gb428 hg w17 hbox hb; have BK428 := Aside0.mk (hbox); obtain ⟨GW428, nHB⟩ := geA hg hb; have GE428 := GW428; replace HB := nHB; clear nHB; clear hb hbox hg; have hcz18_0 := czZ BK428 0 (.bool false); have hcz18_1 := czZ BK428 1 (.int .u64 0); have hcz18_2 := czZ BK428 2 (.int .u64 0); have hfz18_0 := blk_frozen BK428.out 0; have hfz18_1 := blk_frozen BK428.out 1; have hfz18_2 := blk_frozen BK428.out 2) | ((with_reducible refine gate_callee (f := 21) rfl ?_); refine goesLA_ (some 31) rfl rfl Try.func21 rfl #[.agg #[.bool t424, .int .u64 t425, .int .u64 t426], .int .u64 (IntKind.u64.wrap (a2))] rfl ?_; (with_reducible refine (sawtoothref02_DivS.calls t424 t425 t426 (IntKind.u64.wrap (a2)) t429 t430 t431 t432 t433 _ A9.out).mono ?_); rintro e w19 ⟨rfl, hb⟩; refine ⟨_, rfl, ?_⟩; replace BK428 := Aside0.mk (blk_below (g := gb428) (o := .cells #[.bool t424, .int .u64 t425, .int .u64 t426] 24 (0, 0)) (by (with_reducible repeat first | apply blk_drewN | apply blk_drew | apply blk_alloc); refine blk_put (cs := #[.bool t424, .int .u64 t425, .int .u64 0]) ?_ 2 _ rfl; (with_reducible repeat first | apply blk_drewN | apply blk_drew | apply blk_alloc); refine blk_put (cs := #[.bool t424, .int .u64 0, .int .u64 0]) ?_ 1 _ rfl; (with_reducible repeat first | apply blk_drewN | apply blk_drew | apply blk_alloc); refine blk_put (cs := #[.bool false, .int .u64 0, .int .u64 0]) ?_ 0 _ rfl; (with_reducible repeat first | apply blk_drewN | apply blk_drew | apply blk_alloc); exact BK428.out) hb); replace HB := stA hb; clear hb) | ((with_reducible refine gate_dst (N := 12) rfl ?_); refine box_event ?hg (N := 12) ?hd (cs := #[.bool false, .int .u64 0, .int .u64 0]) (t := 24) ?hr ?_; (case hd => rfl); (case hg => rfl); (case hr => first | (go_simp; done) | (go_simp; rfl)); intro gb434 hg w20 hbox hb; have BK434 := Aside0.mk (hbox); obtain ⟨GW434, nHB⟩ := geA hg hb; have GE434 := GW434; obtain ⟨NB428_434, NB434_428, nBK⟩ := nbA BK428 hg hb; replace BK428 := nBK; clear nBK; replace HB := nHB; clear nHB; clear hb hbox hg; have hnb21 := NB434_428.out; have hnc21 := NB428_434.out; have hcz22_0 := czZ BK434 0 (.bool false); have hcz22_1 := czZ BK434 1 (.int .u64 0); have hcz22_2 := czZ BK434 2 (.int .u64 0); have hfz22_0 := blk_frozen BK434.out 0; have hfz22_1 := blk_frozen BK434.out 1; have hfz22_2 := blk_frozen BK434.out 2) | ((with_reducible refine gate_callee (f := 31) rfl ?_); refine goesLA_ (some 36) rfl rfl Try.func31 rfl #[.agg #[.bool t429, .int .u64 t430, .int .u64 t431]] rfl ?_; (with_reducible refine (sawtoothref02_IntS.calls t429 t430 t431 t435 _ A10.out).mono ?_); rintro e w23 ⟨rfl, hb⟩; refine ⟨_, rfl, ?_⟩; replace BK428 := bfZ BK428 (fun h_ => by (with_reducible repeat first | apply blk_drewN | apply blk_drew | apply blk_alloc | refine farZ ?_ NB428_434 _); exact h_) hb; replace BK434 := Aside0.mk (blk_below (g := gb434) (o := .cells #[.bool t429, .int .u64 t430, .int .u64 t431] 24 (0, 0)) (by (with_reducible repeat first | apply blk_drewN | apply blk_drew | apply blk_alloc); refine blk_put (cs := #[.bool t429, .int .u64 t430, .int .u64 0]) ?_ 2 _ rfl; (with_reducible repeat first | apply blk_drewN | apply blk_drew | apply blk_alloc); refine blk_put (cs := #[.bool t429, .int .u64 0, .int .u64 0]) ?_ 1 _ rfl; (with_reducible repeat first | apply blk_drewN | apply blk_drew | apply blk_alloc); refine blk_put (cs := #[.bool false, .int .u64 0, .int .u64 0]) ?_ 0 _ rfl; (with_reducible repeat first | apply blk_drewN | apply blk_drew | apply blk_alloc); exact BK434.out) hb); replace HB := stA hb; clear hb))
   replace BK428 := Aside0.mk (blk_drew BK428.out); replace BK434 := Aside0.mk (blk_drew BK434.out); replace HB := Aside0.mk (below_drew1 HB.out); refine start_ (n := 5) (S := fun w' => w'.cell? ⟨gb434, 0, none⟩ = some (.bool t429) ∧ w'.cell? ⟨gb434, 1, none⟩ = some (.int .u64 t430) ∧ w'.cell? ⟨gb434, 2, none⟩ = some (.int .u64 t431)) (ds := []) #[N,N,N,N,N] (by kernel_rfl) rfl rfl ⟨(blk_cell BK434.out 0).trans rfl, (blk_cell BK434.out 1).trans rfl, (blk_cell BK434.out 2).trans rfl⟩ (fun hHeld => ?_)
   generalize w23.drew = w24 at BK428 BK434 HB hHeld ⊢
   refine pureA_ (i := 1) (N := some 38) #[N,Y,N,N,N] rfl rfl (by kernel_rfl) ?_
   refine take_ (i := 0) (N := some 37) (v := ?_) (a' := ?_) #[Y,Y,N,N,N] rfl rfl (by kernel_rfl) (fun _ _ _ h => h) (Or.inl ⟨by rfl, ?_⟩) hHeld ?_ ?_; rotate_left
   ·rintro w' ⟨s0, s1, s2⟩; go_simp
    with_reducible rfl
   rotate_left
   ·simp only [Act.put, sA, sB, sC, i64_w, i32_w]
    rfl
   refine one_ (i := 2) (N := some 39) #[Y,Y,Y,N,N] rfl rfl (by kernel_rfl) (by decide) (fun K hK => ?_); refine goesA_ Try.func23 rfl #[.int .i64 t435] (by rfl) rfl rfl ?_
   with_reducible refine (sawtoothref02_OfS.calls t435 t436 t437 t438 _ A11.out).mono ?_
   rintro e w25 ⟨rfl, hb⟩; refine ⟨_, rfl, ?_⟩; replace BK428 := bbZ BK428 hb; replace BK434 := bbZ BK434 hb; replace HB := Aside0.mk (below_step HB.out hb); clear hb; refine hK.out _ _ ⟨(blk_cell BK434.out 0).trans rfl, (blk_cell BK434.out 1).trans rfl, (blk_cell BK434.out 2).trans rfl⟩ (fun hHeld => ?_); clear hK K; refine normA_ (some 39) ?_
   refine one_ (i := 3) (N := some 40) #[Y,Y,Y,Y,N] rfl rfl (by kernel_rfl) (by decide) (fun K hK => ?_); refine goesA_ Try.func29 rfl #[.agg #[.bool t429, .int .u64 t430, .int .u64 t431], .agg #[.bool t436, .int .u64 t437, .int .u64 t438]] (by rfl) rfl rfl ?_
   with_reducible refine (sawtoothref02_CmpS.calls t429 t430 t431 t436 t437 t438 t439 _ A12.out).mono ?_
   rintro e w26 ⟨rfl, hb⟩; refine ⟨_, rfl, ?_⟩; replace BK428 := bbZ BK428 hb; replace BK434 := bbZ BK434 hb; replace HB := Aside0.mk (below_step HB.out hb); clear hb; refine hK.out _ _ ⟨(blk_cell BK434.out 0).trans rfl, (blk_cell BK434.out 1).trans rfl, (blk_cell BK434.out 2).trans rfl⟩ (fun hHeld => ?_); clear hK K; refine normA_ (some 40) ?_
   refine pureA_ (i := 4) (N := some 41) #[Y,Y,Y,Y,Y] rfl rfl (by kernel_rfl) ?_
   refine done_ (by kernel_rfl) ?_
   try go_wp2
   go_ret2
   exact ⟨by first | rfl | (simp [errW_none, errW_some] <;> rfl) | (simp [*, errW_none, errW_some] <;> rfl), by repeat (first | (with_reducible first | exact HB.out | apply below_alloc | apply pw_below_drewN | apply below_drew1 | refine below_set ?_ (Aside0.out (by assumption))) | exact HB.out)⟩
  ·rw [if_neg c13] at H
   have c13b0 : (t439 == 0) = false := beq_eq_false_iff_ne.mpr c13; have c13b1 : (t439 != 0) = true := bne_iff_ne.mpr c13; simp only [Option.some.injEq, Prod.mk.injEq] at H; obtain ⟨rfl, rfl⟩ := H
   go_enter Try.func62, Try.ntmps62
   try go_wp2_with (first | ((with_reducible refine gate_callee (f := 25) rfl ?_); refine goesLA_ (some 21) rfl rfl Try.func25 rfl #[.int .i64 a0, .int .i64 a1] rfl ?_; (with_reducible refine (sawtoothref02_MulS.calls a0 a1 t418 t419 t420 _ A6.out).mono ?_); rintro e w27 ⟨rfl, hb⟩; refine ⟨_, rfl, ?_⟩; replace HB := stA hb; clear hb) | ((with_reducible refine gate_callee (f := 23) rfl ?_); refine goesLA_ (some 23) rfl rfl Try.func23 rfl #[.int .i64 a3] rfl ?_; (with_reducible refine (sawtoothref02_OfS.calls a3 t421 t422 t423 _ A7.out).mono ?_); rintro e w28 ⟨rfl, hb⟩; refine ⟨_, rfl, ?_⟩; replace HB := stA hb; clear hb) | ((with_reducible refine gate_callee (f := 17) rfl ?_); refine goesLA_ (some 24) rfl rfl Try.func17 rfl #[.agg #[.bool t418, .int .u64 t419, .int .u64 t420], .agg #[.bool t421, .int .u64 t422, .int .u64 t423]] rfl ?_; (with_reducible refine (sawtoothref02_AddS.calls t418 t419 t420 t421 t422 t423 t424 t425 t426 t427 _ A8.out).mono ?_); rintro e w29 ⟨rfl, hb⟩; refine ⟨_, rfl, ?_⟩; replace HB := stA hb; clear hb) | ((with_reducible refine gate_dst (N := 10) rfl ?_); refine box_event ?hg (N := 10) ?hd (cs := #[.bool false, .int .u64 0, .int .u64 0]) (t := 24) ?hr ?_; (case hd => rfl); (case hg => rfl); (case hr => first | (go_simp; done) | (go_simp; rfl)); intro gb428 hg w30 hbox hb; have BK428 := Aside0.mk (hbox); obtain ⟨GW428, nHB⟩ := geA hg hb; have GE428 := GW428; replace HB := nHB; clear nHB; clear hb hbox hg; have hcz31_0 := czZ BK428 0 (.bool false); have hcz31_1 := czZ BK428 1 (.int .u64 0); have hcz31_2 := czZ BK428 2 (.int .u64 0); have hfz31_0 := blk_frozen BK428.out 0; have hfz31_1 := blk_frozen BK428.out 1; have hfz31_2 := blk_frozen BK428.out 2) | ((with_reducible refine gate_callee (f := 21) rfl ?_); refine goesLA_ (some 31) rfl rfl Try.func21 rfl #[.agg #[.bool t424, .int .u64 t425, .int .u64 t426], .int .u64 (IntKind.u64.wrap (a2))] rfl ?_; (with_reducible refine (sawtoothref02_DivS.calls t424 t425 t426 (IntKind.u64.wrap (a2)) t429 t430 t431 t432 t433 _ A9.out).mono ?_); rintro e w32 ⟨rfl, hb⟩; refine ⟨_, rfl, ?_⟩; replace BK428 := Aside0.mk (blk_below (g := gb428) (o := .cells #[.bool t424, .int .u64 t425, .int .u64 t426] 24 (0, 0)) (by (with_reducible repeat first | apply blk_drewN | apply blk_drew | apply blk_alloc); refine blk_put (cs := #[.bool t424, .int .u64 t425, .int .u64 0]) ?_ 2 _ rfl; (with_reducible repeat first | apply blk_drewN | apply blk_drew | apply blk_alloc); refine blk_put (cs := #[.bool t424, .int .u64 0, .int .u64 0]) ?_ 1 _ rfl; (with_reducible repeat first | apply blk_drewN | apply blk_drew | apply blk_alloc); refine blk_put (cs := #[.bool false, .int .u64 0, .int .u64 0]) ?_ 0 _ rfl; (with_reducible repeat first | apply blk_drewN | apply blk_drew | apply blk_alloc); exact BK428.out) hb); replace HB := stA hb; clear hb) | ((with_reducible refine gate_dst (N := 12) rfl ?_); refine box_event ?hg (N := 12) ?hd (cs := #[.bool false, .int .u64 0, .int .u64 0]) (t := 24) ?hr ?_; (case hd => rfl); (case hg => rfl); (case hr => first | (go_simp; done) | (go_simp; rfl)); intro gb434 hg w33 hbox hb; have BK434 := Aside0.mk (hbox); obtain ⟨GW434, nHB⟩ := geA hg hb; have GE434 := GW434; obtain ⟨NB428_434, NB434_428, nBK⟩ := nbA BK428 hg hb; replace BK428 := nBK; clear nBK; replace HB := nHB; clear nHB; clear hb hbox hg; have hnb34 := NB434_428.out; have hnc34 := NB428_434.out; have hcz35_0 := czZ BK434 0 (.bool false); have hcz35_1 := czZ BK434 1 (.int .u64 0); have hcz35_2 := czZ BK434 2 (.int .u64 0); have hfz35_0 := blk_frozen BK434.out 0; have hfz35_1 := blk_frozen BK434.out 1; have hfz35_2 := blk_frozen BK434.out 2) | ((with_reducible refine gate_callee (f := 31) rfl ?_); refine goesLA_ (some 36) rfl rfl Try.func31 rfl #[.agg #[.bool t429, .int .u64 t430, .int .u64 t431]] rfl ?_; (with_reducible refine (sawtoothref02_IntS.calls t429 t430 t431 t435 _ A10.out).mono ?_); rintro e w36 ⟨rfl, hb⟩; refine ⟨_, rfl, ?_⟩; replace BK428 := bfZ BK428 (fun h_ => by (with_reducible repeat first | apply blk_drewN | apply blk_drew | apply blk_alloc | refine farZ ?_ NB428_434 _); exact h_) hb; replace BK434 := Aside0.mk (blk_below (g := gb434) (o := .cells #[.bool t429, .int .u64 t430, .int .u64 t431] 24 (0, 0)) (by (with_reducible repeat first | apply blk_drewN | apply blk_drew | apply blk_alloc); refine blk_put (cs := #[.bool t429, .int .u64 t430, .int .u64 0]) ?_ 2 _ rfl; (with_reducible repeat first | apply blk_drewN | apply blk_drew | apply blk_alloc); refine blk_put (cs := #[.bool t429, .int .u64 0, .int .u64 0]) ?_ 1 _ rfl; (with_reducible repeat first | apply blk_drewN | apply blk_drew | apply blk_alloc); refine blk_put (cs := #[.bool false, .int .u64 0, .int .u64 0]) ?_ 0 _ rfl; (with_reducible repeat first | apply blk_drewN | apply blk_drew | apply blk_alloc); exact BK434.out) hb); replace HB := stA hb; clear hb))
   replace BK428 := Aside0.mk (blk_drew BK428.out); replace BK434 := Aside0.mk (blk_drew BK434.out); replace HB := Aside0.mk (below_drew1 HB.out); refine start_ (n := 5) (S := fun w' => w'.cell? ⟨gb434, 0, none⟩ = some (.bool t429) ∧ w'.cell? ⟨gb434, 1, none⟩ = some (.int .u64 t430) ∧ w'.cell? ⟨gb434, 2, none⟩ = some (.int .u64 t431)) (ds := []) #[N,N,N,N,N] (by kernel_rfl) rfl rfl ⟨(blk_cell BK434.out 0).trans rfl, (blk_cell BK434.out 1).trans rfl, (blk_cell BK434.out 2).trans rfl⟩ (fun hHeld => ?_)
   generalize w36.drew = w37 at BK428 BK434 HB hHeld ⊢
   refine pureA_ (i := 1) (N := some 38) #[N,Y,N,N,N] rfl rfl (by kernel_rfl) ?_
   refine take_ (i := 0) (N := some 37) (v := ?_) (a' := ?_) #[Y,Y,N,N,N] rfl rfl (by kernel_rfl) (fun _ _ _ h => h) (Or.inl ⟨by rfl, ?_⟩) hHeld ?_ ?_; rotate_left
   ·rintro w' ⟨s0, s1, s2⟩; go_simp
    with_reducible rfl
   rotate_left
   ·simp only [Act.put, sA, sB, sC, i64_w, i32_w]
    rfl
   refine one_ (i := 2) (N := some 39) #[Y,Y,Y,N,N] rfl rfl (by kernel_rfl) (by decide) (fun K hK => ?_); refine goesA_ Try.func23 rfl #[.int .i64 t435] (by rfl) rfl rfl ?_
   with_reducible refine (sawtoothref02_OfS.calls t435 t436 t437 t438 _ A11.out).mono ?_
   rintro e w38 ⟨rfl, hb⟩; refine ⟨_, rfl, ?_⟩; replace BK428 := bbZ BK428 hb; replace BK434 := bbZ BK434 hb; replace HB := Aside0.mk (below_step HB.out hb); clear hb; refine hK.out _ _ ⟨(blk_cell BK434.out 0).trans rfl, (blk_cell BK434.out 1).trans rfl, (blk_cell BK434.out 2).trans rfl⟩ (fun hHeld => ?_); clear hK K; refine normA_ (some 39) ?_
   refine one_ (i := 3) (N := some 40) #[Y,Y,Y,Y,N] rfl rfl (by kernel_rfl) (by decide) (fun K hK => ?_); refine goesA_ Try.func29 rfl #[.agg #[.bool t429, .int .u64 t430, .int .u64 t431], .agg #[.bool t436, .int .u64 t437, .int .u64 t438]] (by rfl) rfl rfl ?_
   with_reducible refine (sawtoothref02_CmpS.calls t429 t430 t431 t436 t437 t438 t439 _ A12.out).mono ?_
   rintro e w39 ⟨rfl, hb⟩; refine ⟨_, rfl, ?_⟩; replace BK428 := bbZ BK428 hb; replace BK434 := bbZ BK434 hb; replace HB := Aside0.mk (below_step HB.out hb); clear hb; refine hK.out _ _ ⟨(blk_cell BK434.out 0).trans rfl, (blk_cell BK434.out 1).trans rfl, (blk_cell BK434.out 2).trans rfl⟩ (fun hHeld => ?_); clear hK K; refine normA_ (some 40) ?_
   refine pureA_ (i := 4) (N := some 41) #[Y,Y,Y,Y,Y] rfl rfl (by kernel_rfl) ?_
   refine done_ (by kernel_rfl) ?_
   try go_wp2
   go_ret2
   exact ⟨by first | rfl | (simp [errW_none, errW_some] <;> rfl) | (simp [*, errW_none, errW_some] <;> rfl), by repeat (first | (with_reducible first | exact HB.out | apply below_alloc | apply pw_below_drewN | apply below_drew1 | refine below_set ?_ (Aside0.out (by assumption))) | exact HB.out)⟩

/-! ### sawtoothref04_partS: a part of a product, and some more: pure, behind function 62 -/
noncomputable def sawtoothref04_partS.f (a b c d : Int) : Option (Int × Int) := Go.Proofs.Ytkoeehacildioaa.Sp.need (Go.Proofs.Ytkoeehacildioaa.Sp.I a ∧ Go.Proofs.Ytkoeehacildioaa.Sp.I b ∧ Go.Proofs.Ytkoeehacildioaa.Sp.I c ∧ Go.Proofs.Ytkoeehacildioaa.Sp.I d) (if c < 1 then some (0, 20) else Go.Proofs.Ytkoeehacildioaa.Sp.fit ((a * b + d) / c))
section Ref04Part
open Go.Proofs.Ytkoeehacildioaa.Sp
theorem sawtoothref04_partS.eq {a b c d : Int} (h1 : I a) (h2 : I b) (h3 : I c) (h4 : I d) : sawtoothref04_partS.f a b c d = if c < 1 then some (0, 20) else fit ((a * b + d) / c) := need_pos ⟨h1, h2, h3, h4⟩
theorem sawtoothref04_part.main {a b c d : Int} (h1 : I a) (h2 : I b) (h3 : I c) (h4 : I d) : sawtoothref04_part.f a b c d = if c < 1 then some (0, 20) else fit ((a * b + d) / c) := by
 unfold sawtoothref04_part.f sawtoothref02_MulS.f sawtoothref02_OfS.f sawtoothref02_AddS.f sawtoothref02_DivS.f sawtoothref02_IntS.f sawtoothref02_CmpS.f
 by_cases hc : c < 1
 ·rw [if_pos hc, if_pos hc]
 have m := mulI h1 h2
 rw [if_neg hc, if_neg hc, mulF_eq h1 h2, ofF_eq h4]
 simp only [Option.bind_some]
 rw [addF_enc (by omega) (by omega), held_in (by omega), u64w_in (x := c) (by omega)]
 simp only [Option.bind_some]
 have hB : B (a * b + d) := by omega
 rw [divF_enc hB (by omega), quo_pos (by omega)]
 simp only [Option.bind_some]; have hq := div_B hB (show 0 < c by omega)
 generalize (a * b + d) / c = q at *
 rw [intF_enc hq]
 simp only [Option.bind_some]
 rw [ofF_eq (near_I _)]
 simp only [Option.bind_some]
 rw [cmpF_enc hq (I_B (near_I _))]
 simp only [Option.bind_some]
 unfold fit
 by_cases hi : I q
 ·rw [near_in hi, cmpI_eq rfl, if_pos rfl, if_pos hi]
 ·rw [if_neg hi, if_neg]
  unfold cmpI near
  split
  ·omega
  ·split
   ·have := near_I q; unfold near at this; split at * <;> (try split at *) <;> omega
   ·omega
end Ref04Part
theorem sawtoothref04_partS.calls (a b c d r1 r2 : Int) (w : World) (h : sawtoothref04_partS.f a b c d = some (r1, r2)) :
  Calls Try.prog 62 #[.int .i64 a, .int .i64 b, .int .i64 c, .int .i64 d] w fun e w' => e = .returned (.tuple #[.int .i64 r1, .int .i64 r2]) ∧ Below w.heap.size w w' := by
 obtain ⟨⟨h1, h2, h3, h4⟩, h⟩ := Go.Proofs.Ytkoeehacildioaa.Sp.need_some h; exact sawtoothref04_part.calls a b c d r1 r2 w (by rw [sawtoothref04_part.main h1 h2 h3 h4]; exact h)

/-! ### sawtoothref04_Floor: function 34 -/
noncomputable def sawtoothref04_Floor.f (a0 : Int) (a1 : Int) (a2 : Int) : Option (Int × Int) := (sawtoothref04_partS.f a0 a1 a2 0).bind fun bt440 => (some (bt440.1, bt440.2))
set_option maxHeartbeats 8000000 in
set_option maxRecDepth 100000 in
theorem sawtoothref04_Floor.calls (a0 : Int) (a1 : Int) (a2 : Int) (r1 : Int) (r2 : Int) (w : World) (h : sawtoothref04_Floor.f a0 a1 a2 = some (r1, r2)) :
  Calls Try.prog 34 #[.int .i64 a0, .int .i64 a1, .int .i64 a2] w fun e w' => e = .returned (.tuple #[.int .i64 r1, .int .i64 r2]) ∧ Below w.heap.size w w' := by
 have HB := Aside0.mk (Below.refl w.heap.size w); have H : ((sawtoothref04_partS.f a0 a1 a2 0).bind fun bt440 => (some (bt440.1, bt440.2))) = some (r1, r2) := h; clear h; replace H := Option.bind_eq_some_iff.mp H; obtain ⟨⟨t440, t441⟩, A40, H⟩ := H; replace H : (some (t440, t441)) = some (r1, r2) := H; have A4 := Aside0.mk A40; clear A40; simp only [Option.some.injEq, Prod.mk.injEq] at H; obtain ⟨rfl, rfl⟩ := H
 go_enter Try.func34, Try.ntmps34
 go_wp2_with (first | ((with_reducible refine gate_callee (f := 62) rfl ?_); refine goesLA_ (some 11) rfl rfl Try.func62 rfl #[.int .i64 a0, .int .i64 a1, .int .i64 a2, .int .i64 0] rfl ?_; (with_reducible refine (sawtoothref04_partS.calls a0 a1 a2 0 t440 t441 _ A4.out).mono ?_); rintro e w5 ⟨rfl, hb⟩; refine ⟨_, rfl, ?_⟩; replace HB := stA hb; clear hb))
 go_ret2
 exact ⟨by first | rfl | (simp [errW_none, errW_some] <;> rfl) | (simp [*, errW_none, errW_some] <;> rfl), by repeat (first | (with_reducible first | exact HB.out | apply below_alloc | apply pw_below_drewN | apply below_drew1) | exact HB.out)⟩

/-! ### sawtoothref04_FloorS: a part of a product, from below: pure, behind function 34 -/
noncomputable def sawtoothref04_FloorS.f (a b c : Int) : Option (Int × Int) := Go.Proofs.Ytkoeehacildioaa.Sp.need (Go.Proofs.Ytkoeehacildioaa.Sp.I a ∧ Go.Proofs.Ytkoeehacildioaa.Sp.I b ∧ Go.Proofs.Ytkoeehacildioaa.Sp.I c) (Go.Proofs.Ytkoeehacildioaa.Sp.floorQ a b c)
section
open Go.Proofs.Ytkoeehacildioaa.Sp
theorem sawtoothref04_FloorS.eq {a b c : Int} (h1 : I a) (h2 : I b) (h3 : I c) : sawtoothref04_FloorS.f a b c = floorQ a b c := need_pos ⟨h1, h2, h3⟩
theorem sawtoothref04_Floor.main {a b c : Int} (h1 : I a) (h2 : I b) (h3 : I c) : sawtoothref04_Floor.f a b c = floorQ a b c := by
 unfold sawtoothref04_Floor.f
 rw [sawtoothref04_partS.eq h1 h2 h3 (by omega)]
 rw [show ∀ x : Option (Int × Int), (x.bind fun bt => some (bt.1, bt.2)) = x from fun x => by cases x <;> rfl]
 unfold floorQ; rw [Int.add_zero]
end
theorem sawtoothref04_FloorS.calls (a b c r1 r2 : Int) (w : World) (h : sawtoothref04_FloorS.f a b c = some (r1, r2)) :
  Calls Try.prog 34 #[.int .i64 a, .int .i64 b, .int .i64 c] w fun e w' => e = .returned (.tuple #[.int .i64 r1, .int .i64 r2]) ∧ Below w.heap.size w w' := by
 obtain ⟨⟨h1, h2, h3⟩, h⟩ := Go.Proofs.Ytkoeehacildioaa.Sp.need_some h; exact sawtoothref04_Floor.calls a b c r1 r2 w (by rw [sawtoothref04_Floor.main h1 h2 h3]; exact h)

/-! ### sawtoothref04_Ceil: function 36 -/
noncomputable def sawtoothref04_Ceil.f (a0 : Int) (a1 : Int) (a2 : Int) : Option (Int × Int) := (sawtoothref04_partS.f a0 a1 a2 (wrap64 ((mx a2 1) - 1))).bind fun bt442 => (some (bt442.1, bt442.2))
set_option maxHeartbeats 8000000 in
set_option maxRecDepth 100000 in
theorem sawtoothref04_Ceil.calls (a0 : Int) (a1 : Int) (a2 : Int) (r1 : Int) (r2 : Int) (w : World) (h : sawtoothref04_Ceil.f a0 a1 a2 = some (r1, r2)) :
  Calls Try.prog 36 #[.int .i64 a0, .int .i64 a1, .int .i64 a2] w fun e w' => e = .returned (.tuple #[.int .i64 r1, .int .i64 r2]) ∧ Below w.heap.size w w' := by
 have HB := Aside0.mk (Below.refl w.heap.size w); have H : ((sawtoothref04_partS.f a0 a1 a2 (wrap64 ((mx a2 1) - 1))).bind fun bt442 => (some (bt442.1, bt442.2))) = some (r1, r2) := h; clear h
 obtain ⟨ji4, hji4⟩ : ∃ j_ : Int, (mx a2 1) = j_ := ⟨_, rfl⟩
 replace H : ((sawtoothref04_partS.f a0 a1 a2 (wrap64 ((ji4) - 1))).bind fun bt442 => (some (bt442.1, bt442.2))) = some (r1, r2) := by first | (rw [hji4] at H; exact H) | (simp only [hji4] at H ⊢; exact H)
 (try (have hji4l : 1 ≤ ji4 := by (rw [← hji4]; unfold mx; (repeat' split) <;> omega)))
 (try (have hji4m : 0 ≤ ji4 := by omega))
 have hji4_ : (if a2 < 1 then 1 else a2) = ji4 := hji4; replace H := Option.bind_eq_some_iff.mp H; obtain ⟨⟨t442, t443⟩, A50, H⟩ := H; replace H : (some (t442, t443)) = some (r1, r2) := H; have A5 := Aside0.mk A50; clear A50; simp only [Option.some.injEq, Prod.mk.injEq] at H; obtain ⟨rfl, rfl⟩ := H
 go_enter Try.func36, Try.ntmps36
 go_wp2_with (first | ((with_reducible refine gate_callee (f := 62) rfl ?_); refine goesL_ (some 14) rfl rfl Try.func62 (by kernel_rfl) rfl #[.int .i64 a0, .int .i64 a1, .int .i64 a2, .int .i64 (wrap64 ((ji4) - 1))] rfl (by (try simp only [List.map_toArray, List.map_cons, List.map_nil]); first | done | (simp only [hji4]; rfl) | rfl | (simp only [List.length_drop, List.length_take]; rfl)) ?_; (with_reducible refine (sawtoothref04_partS.calls a0 a1 a2 (wrap64 ((ji4) - 1)) t442 t443 _ A5.out).mono ?_); rintro e w6 ⟨rfl, hb⟩; refine ⟨_, rfl, ?_⟩; replace HB := stA hb; clear hb))
 go_ret2
 exact ⟨by first | rfl | (simp [errW_none, errW_some] <;> rfl) | (simp only [← hji4]; first | rfl | (simp [errW_none, errW_some] <;> rfl)) | (simp [*, errW_none, errW_some] <;> rfl), by repeat (first | (with_reducible first | exact HB.out | apply below_alloc | apply pw_below_drewN | apply below_drew1) | exact HB.out)⟩

/-! ### sawtoothref04_CeilS: a part of a product, from above: pure, behind function 36 -/
noncomputable def sawtoothref04_CeilS.f (a b c : Int) : Option (Int × Int) := Go.Proofs.Ytkoeehacildioaa.Sp.need (Go.Proofs.Ytkoeehacildioaa.Sp.I a ∧ Go.Proofs.Ytkoeehacildioaa.Sp.I b ∧ Go.Proofs.Ytkoeehacildioaa.Sp.I c) (Go.Proofs.Ytkoeehacildioaa.Sp.ceilQ a b c)
section
open Go.Proofs.Ytkoeehacildioaa.Sp
theorem sawtoothref04_CeilS.eq {a b c : Int} (h1 : I a) (h2 : I b) (h3 : I c) : sawtoothref04_CeilS.f a b c = ceilQ a b c := need_pos ⟨h1, h2, h3⟩
theorem sawtoothref04_Ceil.main {a b c : Int} (h1 : I a) (h2 : I b) (h3 : I c) : sawtoothref04_Ceil.f a b c = ceilQ a b c := by
 unfold sawtoothref04_Ceil.f
 have e : wrap64 (mx c 1 - 1) = if c < 1 then 0 else c - 1 := by unfold mx wrap64; (repeat' split) <;> omega
 have e2 : I (if c < 1 then 0 else c - 1) := by split <;> omega
 rw [e, sawtoothref04_partS.eq h1 h2 h3 e2]
 rw [show ∀ x : Option (Int × Int), (x.bind fun bt => some (bt.1, bt.2)) = x from fun x => by cases x <;> rfl]
 unfold ceilQ
 by_cases hc : c < 1
 ·rw [if_pos hc, if_pos hc]
 ·rw [if_neg hc, if_neg hc, if_neg hc, ceil_up _ (by omega)]
end
theorem sawtoothref04_CeilS.calls (a b c r1 r2 : Int) (w : World) (h : sawtoothref04_CeilS.f a b c = some (r1, r2)) :
  Calls Try.prog 36 #[.int .i64 a, .int .i64 b, .int .i64 c] w fun e w' => e = .returned (.tuple #[.int .i64 r1, .int .i64 r2]) ∧ Below w.heap.size w w' := by
 obtain ⟨⟨h1, h2, h3⟩, h⟩ := Go.Proofs.Ytkoeehacildioaa.Sp.need_some h; exact sawtoothref04_Ceil.calls a b c r1 r2 w (by rw [sawtoothref04_Ceil.main h1 h2 h3]; exact h)

/-! ### sawtoothref04_Near: function 38 -/
noncomputable def sawtoothref04_Near.f (a0 : Int) (a1 : Int) (a2 : Int) : Option (Int × Int) := (sawtoothref04_partS.f a0 a1 a2 (wrap64 (Int.tdiv a2 2))).bind fun bt444 => (some (bt444.1, bt444.2))
set_option maxHeartbeats 8000000 in
set_option maxRecDepth 100000 in
theorem sawtoothref04_Near.calls (a0 : Int) (a1 : Int) (a2 : Int) (r1 : Int) (r2 : Int) (w : World) (h : sawtoothref04_Near.f a0 a1 a2 = some (r1, r2)) :
  Calls Try.prog 38 #[.int .i64 a0, .int .i64 a1, .int .i64 a2] w fun e w' => e = .returned (.tuple #[.int .i64 r1, .int .i64 r2]) ∧ Below w.heap.size w w' := by
 have HB := Aside0.mk (Below.refl w.heap.size w); have H : ((sawtoothref04_partS.f a0 a1 a2 (wrap64 (Int.tdiv a2 2))).bind fun bt444 => (some (bt444.1, bt444.2))) = some (r1, r2) := h; clear h; replace H := Option.bind_eq_some_iff.mp H; obtain ⟨⟨t444, t445⟩, A40, H⟩ := H; replace H : (some (t444, t445)) = some (r1, r2) := H; have A4 := Aside0.mk A40; clear A40; simp only [Option.some.injEq, Prod.mk.injEq] at H; obtain ⟨rfl, rfl⟩ := H
 go_enter Try.func38, Try.ntmps38
 go_wp2_with (first | ((with_reducible refine gate_callee (f := 62) rfl ?_); refine goesLA_ (some 13) rfl rfl Try.func62 rfl #[.int .i64 a0, .int .i64 a1, .int .i64 a2, .int .i64 (wrap64 (Int.tdiv a2 2))] rfl ?_; (with_reducible refine (sawtoothref04_partS.calls a0 a1 a2 (wrap64 (Int.tdiv a2 2)) t444 t445 _ A4.out).mono ?_); rintro e w5 ⟨rfl, hb⟩; refine ⟨_, rfl, ?_⟩; replace HB := stA hb; clear hb))
 go_ret2
 exact ⟨by first | rfl | (simp [errW_none, errW_some] <;> rfl) | (simp [*, errW_none, errW_some] <;> rfl), by repeat (first | (with_reducible first | exact HB.out | apply below_alloc | apply pw_below_drewN | apply below_drew1) | exact HB.out)⟩

/-! ### sawtoothref04_NearS: a part of a product, the nearest: pure, behind function 38 -/
noncomputable def sawtoothref04_NearS.f (a b c : Int) : Option (Int × Int) := Go.Proofs.Ytkoeehacildioaa.Sp.need (Go.Proofs.Ytkoeehacildioaa.Sp.I a ∧ Go.Proofs.Ytkoeehacildioaa.Sp.I b ∧ Go.Proofs.Ytkoeehacildioaa.Sp.I c) (Go.Proofs.Ytkoeehacildioaa.Sp.nearQ a b c)
section
open Go.Proofs.Ytkoeehacildioaa.Sp
theorem sawtoothref04_NearS.eq {a b c : Int} (h1 : I a) (h2 : I b) (h3 : I c) : sawtoothref04_NearS.f a b c = nearQ a b c := need_pos ⟨h1, h2, h3⟩
theorem sawtoothref04_Near.main {a b c : Int} (h1 : I a) (h2 : I b) (h3 : I c) : sawtoothref04_Near.f a b c = nearQ a b c := by
 unfold sawtoothref04_Near.f
 have e2 : I (Int.tdiv c 2) := by
  have a : (Int.tdiv c 2).natAbs = c.natAbs / 2 := Int.natAbs_tdiv c 2
  omega
 rw [w64 e2, sawtoothref04_partS.eq h1 h2 h3 e2]
 rw [show ∀ x : Option (Int × Int), (x.bind fun bt => some (bt.1, bt.2)) = x from fun x => by cases x <;> rfl]
 unfold nearQ
 by_cases hc : c < 1
 ·rw [if_pos hc, if_pos hc]
 ·rw [if_neg hc, if_neg hc, Int.tdiv_eq_ediv_of_nonneg (by omega)]
end
theorem sawtoothref04_NearS.calls (a b c r1 r2 : Int) (w : World) (h : sawtoothref04_NearS.f a b c = some (r1, r2)) :
  Calls Try.prog 38 #[.int .i64 a, .int .i64 b, .int .i64 c] w fun e w' => e = .returned (.tuple #[.int .i64 r1, .int .i64 r2]) ∧ Below w.heap.size w w' := by
 obtain ⟨⟨h1, h2, h3⟩, h⟩ := Go.Proofs.Ytkoeehacildioaa.Sp.need_some h; exact sawtoothref04_Near.calls a b c r1 r2 w (by rw [sawtoothref04_Near.main h1 h2 h3]; exact h)

/-! ### sawtoothref04_Segs: function 40 -/
noncomputable def sawtoothref04_Segs.f (a0 : Int) (a1 : Int) : Option (Int × Int) := (sawtoothref04_FloorS.f a0 65536 a1).bind fun bt446 => (some (bt446.1, bt446.2))
set_option maxHeartbeats 8000000 in
set_option maxRecDepth 100000 in
theorem sawtoothref04_Segs.calls (a0 : Int) (a1 : Int) (r1 : Int) (r2 : Int) (w : World) (h : sawtoothref04_Segs.f a0 a1 = some (r1, r2)) :
  Calls Try.prog 40 #[.int .i64 a0, .int .i64 a1] w fun e w' => e = .returned (.tuple #[.int .i64 r1, .int .i64 r2]) ∧ Below w.heap.size w w' := by
 have HB := Aside0.mk (Below.refl w.heap.size w); have H : ((sawtoothref04_FloorS.f a0 65536 a1).bind fun bt446 => (some (bt446.1, bt446.2))) = some (r1, r2) := h; clear h; replace H := Option.bind_eq_some_iff.mp H; obtain ⟨⟨t446, t447⟩, A30, H⟩ := H; replace H : (some (t446, t447)) = some (r1, r2) := H; have A3 := Aside0.mk A30; clear A30; simp only [Option.some.injEq, Prod.mk.injEq] at H; obtain ⟨rfl, rfl⟩ := H
 go_enter Try.func40, Try.ntmps40
 go_wp2_with (first | ((with_reducible refine gate_callee (f := 34) rfl ?_); refine goesLA_ (some 8) rfl rfl Try.func34 rfl #[.int .i64 a0, .int .i64 65536, .int .i64 a1] rfl ?_; (with_reducible refine (sawtoothref04_FloorS.calls a0 65536 a1 t446 t447 _ A3.out).mono ?_); rintro e w4 ⟨rfl, hb⟩; refine ⟨_, rfl, ?_⟩; replace HB := stA hb; clear hb))
 go_ret2
 exact ⟨by first | rfl | (simp [errW_none, errW_some] <;> rfl) | (simp [*, errW_none, errW_some] <;> rfl), by repeat (first | (with_reducible first | exact HB.out | apply below_alloc | apply pw_below_drewN | apply below_drew1) | exact HB.out)⟩

/-! ### sawtoothref04_SegsS: windows and bytes: pure, behind function 40 -/
noncomputable def sawtoothref04_SegsS.f (a c : Int) : Option (Int × Int) := Go.Proofs.Ytkoeehacildioaa.Sp.need (Go.Proofs.Ytkoeehacildioaa.Sp.I a ∧ Go.Proofs.Ytkoeehacildioaa.Sp.I c) (Go.Proofs.Ytkoeehacildioaa.Sp.floorQ a 65536 c)
theorem sawtoothref04_SegsS.eq {a c : Int} (h1 : Go.Proofs.Ytkoeehacildioaa.Sp.I a) (h2 : Go.Proofs.Ytkoeehacildioaa.Sp.I c) : sawtoothref04_SegsS.f a c = Go.Proofs.Ytkoeehacildioaa.Sp.floorQ a 65536 c := Go.Proofs.Ytkoeehacildioaa.Sp.need_pos ⟨h1, h2⟩
theorem sawtoothref04_SegsS.calls (a0 a1 r1 r2 : Int) (w : World) (h : sawtoothref04_SegsS.f a0 a1 = some (r1, r2)) :
  Calls Try.prog 40 #[.int .i64 a0, .int .i64 a1] w fun e w' => e = .returned (.tuple #[.int .i64 r1, .int .i64 r2]) ∧ Below w.heap.size w w' := by
 obtain ⟨⟨h1, h2⟩, h⟩ := Go.Proofs.Ytkoeehacildioaa.Sp.need_some h; refine sawtoothref04_Segs.calls a0 a1 r1 r2 w ?_
 unfold sawtoothref04_Segs.f
 rw [sawtoothref04_FloorS.eq h1 (by omega) h2, h]
 rfl

/-! ### sawtoothref04_Bytes: function 42 -/
noncomputable def sawtoothref04_Bytes.f (a0 : Int) (a1 : Int) : Option (Int × Int) := (sawtoothref04_FloorS.f a0 a1 65536).bind fun bt448 => (some (bt448.1, bt448.2))
set_option maxHeartbeats 8000000 in
set_option maxRecDepth 100000 in
theorem sawtoothref04_Bytes.calls (a0 : Int) (a1 : Int) (r1 : Int) (r2 : Int) (w : World) (h : sawtoothref04_Bytes.f a0 a1 = some (r1, r2)) :
  Calls Try.prog 42 #[.int .i64 a0, .int .i64 a1] w fun e w' => e = .returned (.tuple #[.int .i64 r1, .int .i64 r2]) ∧ Below w.heap.size w w' := by
 have HB := Aside0.mk (Below.refl w.heap.size w); have H : ((sawtoothref04_FloorS.f a0 a1 65536).bind fun bt448 => (some (bt448.1, bt448.2))) = some (r1, r2) := h; clear h; replace H := Option.bind_eq_some_iff.mp H; obtain ⟨⟨t448, t449⟩, A30, H⟩ := H; replace H : (some (t448, t449)) = some (r1, r2) := H; have A3 := Aside0.mk A30; clear A30; simp only [Option.some.injEq, Prod.mk.injEq] at H; obtain ⟨rfl, rfl⟩ := H
 go_enter Try.func42, Try.ntmps42
 go_wp2_with (first | ((with_reducible refine gate_callee (f := 34) rfl ?_); refine goesLA_ (some 8) rfl rfl Try.func34 rfl #[.int .i64 a0, .int .i64 a1, .int .i64 65536] rfl ?_; (with_reducible refine (sawtoothref04_FloorS.calls a0 a1 65536 t448 t449 _ A3.out).mono ?_); rintro e w4 ⟨rfl, hb⟩; refine ⟨_, rfl, ?_⟩; replace HB := stA hb; clear hb))
 go_ret2
 exact ⟨by first | rfl | (simp [errW_none, errW_some] <;> rfl) | (simp [*, errW_none, errW_some] <;> rfl), by repeat (first | (with_reducible first | exact HB.out | apply below_alloc | apply pw_below_drewN | apply below_drew1) | exact HB.out)⟩

/-! ### sawtoothref04_BytesS: windows and bytes: pure, behind function 42 -/
noncomputable def sawtoothref04_BytesS.f (a c : Int) : Option (Int × Int) := Go.Proofs.Ytkoeehacildioaa.Sp.need (Go.Proofs.Ytkoeehacildioaa.Sp.I a ∧ Go.Proofs.Ytkoeehacildioaa.Sp.I c) (Go.Proofs.Ytkoeehacildioaa.Sp.floorQ a c 65536)
theorem sawtoothref04_BytesS.eq {a c : Int} (h1 : Go.Proofs.Ytkoeehacildioaa.Sp.I a) (h2 : Go.Proofs.Ytkoeehacildioaa.Sp.I c) : sawtoothref04_BytesS.f a c = Go.Proofs.Ytkoeehacildioaa.Sp.floorQ a c 65536 := Go.Proofs.Ytkoeehacildioaa.Sp.need_pos ⟨h1, h2⟩
theorem sawtoothref04_BytesS.calls (a0 a1 r1 r2 : Int) (w : World) (h : sawtoothref04_BytesS.f a0 a1 = some (r1, r2)) :
  Calls Try.prog 42 #[.int .i64 a0, .int .i64 a1] w fun e w' => e = .returned (.tuple #[.int .i64 r1, .int .i64 r2]) ∧ Below w.heap.size w w' := by
 obtain ⟨⟨h1, h2⟩, h⟩ := Go.Proofs.Ytkoeehacildioaa.Sp.need_some h; refine sawtoothref04_Bytes.calls a0 a1 r1 r2 w ?_
 unfold sawtoothref04_Bytes.f
 rw [sawtoothref04_FloorS.eq h1 h2 (by omega), h]
 rfl

/-! ### sawtoothref04_Whole: function 44 -/
noncomputable def sawtoothref04_Whole.f (a0 : Int) : Option (Int) := (sawtoothref04_FloorS.f a0 1 65536).bind fun bt450 => (some bt450.1)
set_option maxHeartbeats 8000000 in
set_option maxRecDepth 100000 in
theorem sawtoothref04_Whole.calls (a0 : Int) (r : Int) (w : World) (h : sawtoothref04_Whole.f a0 = some r) :
  Calls Try.prog 44 #[.int .i64 a0] w fun e w' => e = .returned (.int .i64 r) ∧ Below w.heap.size w w' := by
 have HB := Aside0.mk (Below.refl w.heap.size w); have H : ((sawtoothref04_FloorS.f a0 1 65536).bind fun bt450 => (some bt450.1)) = some r := h; clear h; replace H := Option.bind_eq_some_iff.mp H; obtain ⟨⟨t450, t451⟩, A20, H⟩ := H; replace H : (some t450) = some r := H; have A2 := Aside0.mk A20; clear A20; obtain rfl := Option.some.inj H
 go_enter Try.func44, Try.ntmps44
 go_wp2_with (first | ((with_reducible refine gate_callee (f := 34) rfl ?_); refine goesLA_ (some 7) rfl rfl Try.func34 rfl #[.int .i64 a0, .int .i64 1, .int .i64 65536] rfl ?_; (with_reducible refine (sawtoothref04_FloorS.calls a0 1 65536 t450 t451 _ A2.out).mono ?_); rintro e w3 ⟨rfl, hb⟩; refine ⟨_, rfl, ?_⟩; replace HB := stA hb; clear hb))
 go_ret
 exact ⟨by first | rfl | (simp [errW_none, errW_some] <;> rfl) | (simp [*, errW_none, errW_some] <;> rfl), by repeat (first | (with_reducible first | exact HB.out | apply below_alloc | apply pw_below_drewN | apply below_drew1) | exact HB.out)⟩

/-! ### sawtoothref04_WholeS: whole segments: pure, behind function 44 -/
noncomputable def sawtoothref04_WholeS.f (a : Int) : Option Int := Go.Proofs.Ytkoeehacildioaa.Sp.need (Go.Proofs.Ytkoeehacildioaa.Sp.I a) (some (a / 65536))
theorem sawtoothref04_WholeS.eq {a : Int} (h1 : Go.Proofs.Ytkoeehacildioaa.Sp.I a) : sawtoothref04_WholeS.f a = some (a / 65536) := Go.Proofs.Ytkoeehacildioaa.Sp.need_pos h1
theorem sawtoothref04_WholeS.calls (a0 r : Int) (w : World) (h : sawtoothref04_WholeS.f a0 = some r) :
  Calls Try.prog 44 #[.int .i64 a0] w fun e w' => e = .returned (.int .i64 r) ∧ Below w.heap.size w w' := by
 obtain ⟨h1, h⟩ := Go.Proofs.Ytkoeehacildioaa.Sp.need_some h; refine sawtoothref04_Whole.calls a0 r w ?_
 unfold sawtoothref04_Whole.f
 rw [sawtoothref04_FloorS.eq h1 (by omega) (by omega), Go.Proofs.Ytkoeehacildioaa.Sp.floorQ_in (by omega) (by omega), Int.mul_one]
 exact h

end Go.Proofs.Ytkoeehacildioaa.Px
