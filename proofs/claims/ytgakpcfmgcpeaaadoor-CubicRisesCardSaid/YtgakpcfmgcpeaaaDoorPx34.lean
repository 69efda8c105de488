/- Printed by px.py, over the kit's print. Conditions: none beside the theorems' own. -/
import Derived.Test.YtgakpcfmgcpeaaaDoorPx0
import Derived.Test.YtgakpcfmgcpeaaaDoorPx30
import Derived.Test.YtgakpcfmgcpeaaaDoorPx33
import Derived.Test.YtgakpcfmgcpeaaaDoorSpec
namespace Go.Proofs.YtgakpcfmgcpeaaaDoor.Px
open Go.RowKit Go.Proofs.YtgakpcfmgcpeaaaDoorW.PrintWords Go.Proofs.YtgakpcfmgcpeaaaDoorW.PrintLast Go.Proofs.YtgakpcfmgcpeaaaDoorW.PrintMore
attribute [local go_sem] max2_int min2_int max_two min_two max_three min_three max_four min_four
set_option linter.unusedVariables false
set_option linter.unusedSimpArgs false

/-! ### sawtoothref02_below: function 48 -/
noncomputable def sawtoothref02_below.f (a0_0 : Bool) (a0_1 : Int) (a0_2 : Int) : Option (Bool) := if a0_0 = true then (if a0_1 > 0 then (some true) else (some (decide (a0_2 > 0)))) else (some false)
set_option maxHeartbeats 8000000 in
set_option maxRecDepth 100000 in
theorem sawtoothref02_below.calls (a0_0 : Bool) (a0_1 : Int) (a0_2 : Int) (r : Bool) (w : World) (h : sawtoothref02_below.f a0_0 a0_1 a0_2 = some r) :
  Calls Tryd.prog 48 #[.agg #[.bool a0_0, .int .u64 a0_1, .int .u64 a0_2]] w fun e w' => e = .returned (.bool r) ∧ Below w.heap.size w w' := by
 have hu33 := Tryd.underlying33; have HB := Aside0.mk (Below.refl w.heap.size w); have H : (if a0_0 = true then (if a0_1 > 0 then (some true) else (some (decide (a0_2 > 0)))) else (some false)) = some r := h; clear h
 by_cases c2 : a0_0 = true
 ·subst c2
  have H1 : (if a0_1 > 0 then (some true) else (some (decide (a0_2 > 0)))) = some r := by rw [if_pos rfl] at H; exact H
  clear H; have H := H1; clear H1
  by_cases c3 : a0_1 > 0
  ·rw [if_pos c3] at H
   have c3b0 : decide (0 < a0_1) = true := decide_eq_true c3; clear c3; obtain rfl := Option.some.inj H
   go_enter Tryd.func48, Tryd.ntmps48
   go_wp2_with (first | ((with_reducible refine gate_dst (N := 1) rfl ?_); refine box_event ?hg (N := 1) ?hd (cs := #[.bool true, .int .u64 a0_1, .int .u64 a0_2]) (t := 33) ?hr ?_; (case hd => rfl); (case hg => rfl); (case hr => first | (go_simp; done) | (go_simp; rfl)); intro gb421 hg w4 hbox hb; have BK421 := Aside0.mk (hbox); obtain ⟨GW421, nHB⟩ := geA hg hb; have GE421 := GW421; replace HB := nHB; clear nHB; clear hb hbox hg; have hcz5_0 := czZ BK421 0 (.bool true); have hcz5_1 := czZ BK421 1 (.int .u64 a0_1); have hcz5_2 := czZ BK421 2 (.int .u64 a0_2); have hfz5_0 := blk_frozen BK421.out 0; have hfz5_1 := blk_frozen BK421.out 1; have hfz5_2 := blk_frozen BK421.out 2))
   go_ret
   exact ⟨by first | rfl | (simp [errW_none, errW_some] <;> rfl) | (simp [*, errW_none, errW_some] <;> rfl), by repeat (first | (with_reducible first | exact HB.out | apply below_alloc | apply pw_below_drewN | apply below_drew1 | refine below_set ?_ GE421.out) | exact HB.out)⟩
  ·rw [if_neg c3] at H
   have c3b0 : decide (0 < a0_1) = false := decide_eq_false c3; clear c3; obtain rfl := Option.some.inj H
   go_enter Tryd.func48, Tryd.ntmps48
   go_wp2_with (first | ((with_reducible refine gate_dst (N := 1) rfl ?_); refine box_event ?hg (N := 1) ?hd (cs := #[.bool true, .int .u64 a0_1, .int .u64 a0_2]) (t := 33) ?hr ?_; (case hd => rfl); (case hg => rfl); (case hr => first | (go_simp; done) | (go_simp; rfl)); intro gb421 hg w6 hbox hb; have BK421 := Aside0.mk (hbox); obtain ⟨GW421, nHB⟩ := geA hg hb; have GE421 := GW421; replace HB := nHB; clear nHB; clear hb hbox hg; have hcz7_0 := czZ BK421 0 (.bool true); have hcz7_1 := czZ BK421 1 (.int .u64 a0_1); have hcz7_2 := czZ BK421 2 (.int .u64 a0_2); have hfz7_0 := blk_frozen BK421.out 0; have hfz7_1 := blk_frozen BK421.out 1; have hfz7_2 := blk_frozen BK421.out 2))
   go_ret
   exact ⟨by first | rfl | (simp [errW_none, errW_some] <;> rfl) | (simp [*, errW_none, errW_some] <;> rfl), by repeat (first | (with_reducible first | exact HB.out | apply below_alloc | apply pw_below_drewN | apply below_drew1 | refine below_set ?_ GE421.out) | exact HB.out)⟩
 ·replace c2 := Bool.eq_false_iff.mpr c2
  subst c2
  have H1 : (some false) = some r := by rw [if_neg (show ¬ (false = true) by decide)] at H; exact H
  clear H; have H := H1; clear H1; obtain rfl := Option.some.inj H
  go_enter Tryd.func48, Tryd.ntmps48
  go_wp2_with (first | ((with_reducible refine gate_dst (N := 1) rfl ?_); refine box_event ?hg (N := 1) ?hd (cs := #[.bool false, .int .u64 a0_1, .int .u64 a0_2]) (t := 33) ?hr ?_; (case hd => rfl); (case hg => rfl); (case hr => first | (go_simp; done) | (go_simp; rfl)); intro gb421 hg w8 hbox hb; have BK421 := Aside0.mk (hbox); obtain ⟨GW421, nHB⟩ := geA hg hb; have GE421 := GW421; replace HB := nHB; clear nHB; clear hb hbox hg; have hcz9_0 := czZ BK421 0 (.bool false); have hcz9_1 := czZ BK421 1 (.int .u64 a0_1); have hcz9_2 := czZ BK421 2 (.int .u64 a0_2); have hfz9_0 := blk_frozen BK421.out 0; have hfz9_1 := blk_frozen BK421.out 1; have hfz9_2 := blk_frozen BK421.out 2))
  go_ret
  exact ⟨by first | rfl | (simp [errW_none, errW_some] <;> rfl) | (simp [*, errW_none, errW_some] <;> rfl), by repeat (first | (with_reducible first | exact HB.out | apply below_alloc | apply pw_below_drewN | apply below_drew1 | refine below_set ?_ GE421.out) | exact HB.out)⟩

/-! ### sawtoothref02_belowS: is it below 0: pure, behind function 48 -/
noncomputable def sawtoothref02_belowS.f (n : Bool) (h l : Int) : Option Bool := Sp.need (Sp.U h ∧ Sp.U l) (some (decide (Sp.val n h l < 0)))
section Ref02Below
open Go.Proofs.YtgakpcfmgcpeaaaDoor.Sp
theorem sawtoothref02_belowS.eq {n : Bool} {h l : Int} (h1 : U h) (h2 : U l) : sawtoothref02_belowS.f n h l = some (decide (val n h l < 0)) := need_pos ⟨h1, h2⟩
theorem sawtoothref02_below.main {n : Bool} {h l : Int} (h1 : U h) (h2 : U l) : sawtoothref02_below.f n h l = some (decide (val n h l < 0)) := by
 unfold sawtoothref02_below.f val
 cases n
 ·simp only [Bool.false_eq_true, if_false]; rw [decide_eq_false]; omega
 ·simp only [if_true]
  by_cases hh : h > 0
  ·rw [if_pos hh, decide_eq_true]; omega
  ·rw [if_neg hh]; congr 1; rw [decide_eq_decide]; omega
end Ref02Below
theorem sawtoothref02_belowS.calls (a0_0 : Bool) (a0_1 a0_2 : Int) (r : Bool) (w : World) (h : sawtoothref02_belowS.f a0_0 a0_1 a0_2 = some r) :
  Calls Tryd.prog 48 #[.agg #[.bool a0_0, .int .u64 a0_1, .int .u64 a0_2]] w fun e w' => e = .returned (.bool r) ∧ Below w.heap.size w w' := by
 obtain ⟨hc, h⟩ := Sp.need_some h; exact sawtoothref02_below.calls a0_0 a0_1 a0_2 r w (by rw [sawtoothref02_below.main hc.1 hc.2]; exact h)

/-! ### sawtoothref02_Int: function 38 -/
noncomputable def sawtoothref02_Int.j0 : Nat → Bool → Bool → Int → Int → Option (Int)
 | 0, _, _, _, _ => none
 | k + 1, x10, x423000, x423001, x423002 => if x10 = true then ((sawtoothref02_belowS.f x423000 x423001 x423002).bind fun t423 => (if t423 = true then (some (-9223372036854775808)) else (some 9223372036854775807))) else ((sawtoothref02_belowS.f x423000 x423001 x423002).bind fun t424 => (if t424 = true then (some (wrap64 (-(wrap64 (x423002))))) else (some (wrap64 (x423002)))))
noncomputable def sawtoothref02_Int.f (k : Nat) (a0_0 : Bool) (a0_1 : Int) (a0_2 : Int) : Option (Int) := if a0_1 > 0 then (sawtoothref02_Int.j0 k true a0_0 a0_1 a0_2) else (sawtoothref02_Int.j0 k (decide (a0_2 ≥ 9223372036854775808)) a0_0 a0_1 a0_2)
set_option maxHeartbeats 8000000 in
set_option maxRecDepth 100000 in
theorem sawtoothref02_Int.calls (k : Nat) (a0_0 : Bool) (a0_1 : Int) (a0_2 : Int) (r : Int) (w : World) (h : sawtoothref02_Int.f k a0_0 a0_1 a0_2 = some r) :
  Calls Tryd.prog 38 #[.agg #[.bool a0_0, .int .u64 a0_1, .int .u64 a0_2]] w fun e w' => e = .returned (.int .i64 r) ∧ Below w.heap.size w w' := by
 have hu33 := Tryd.underlying33; have HB := Aside0.mk (Below.refl w.heap.size w); have H : (if a0_1 > 0 then (sawtoothref02_Int.j0 k true a0_0 a0_1 a0_2) else (sawtoothref02_Int.j0 k (decide (a0_2 ≥ 9223372036854775808)) a0_0 a0_1 a0_2)) = some r := h; clear h; have HC2 := Aside0.mk H; clear H
 go_enter Tryd.func38, Tryd.ntmps38
 go_upto_region 1 with (first | ((with_reducible refine gate_dst (N := 1) rfl ?_); refine box_event ?hg (N := 1) ?hd (cs := #[.bool a0_0, .int .u64 a0_1, .int .u64 a0_2]) (t := 33) ?hr ?_; (case hd => rfl); (case hg => rfl); (case hr => first | (go_simp; done) | (go_simp; rfl)); intro gb422 hg w3 hbox hb; have BK422 := Aside0.mk (hbox); obtain ⟨GW422, nHB⟩ := geA hg hb; have GE422 := GW422; replace HB := nHB; clear nHB; clear hb hbox hg))
 (try simp only [Act.put, sA, sB, sC])
 go_cut [10] (fun v10 wc => ∃ (kq : Nat) (x10_1 : Bool), v10 = .bool x10_1 ∧ Aside0 (sawtoothref02_Int.j0 kq x10_1 a0_0 a0_1 a0_2 = some r) ∧ Aside0 (kq ≤ k) ∧ Aside0 (wc.heap[gb422]? = some (.cells #[.bool a0_0, .int .u64 a0_1, .int .u64 a0_2] 33 (0, 0))) ∧ Aside0 (Below w.heap.size w wc))
 case first =>
  have H := HC2.out; clear HC2
  by_cases c4 : a0_1 > 0
  ·rw [if_pos c4] at H
   have c4b0 : decide (0 < a0_1) = true := decide_eq_true c4; clear c4
   (first | rw [c4b0] | (simp only [i64_w, i32_w]; rw [c4b0]) | skip)
   have H' := Aside0.mk H; clear H; have hcz5_0 := czZ BK422 0 (.bool a0_0); have hcz5_1 := czZ BK422 1 (.int .u64 a0_1); have hcz5_2 := czZ BK422 2 (.int .u64 a0_2); have hfz5_0 := blk_frozen BK422.out 0; have hfz5_1 := blk_frozen BK422.out 1; have hfz5_2 := blk_frozen BK422.out 2
   go_wp2
   go_meet
   case rel => exact ⟨_, (true), (by first | rfl | (simp; done) | (simp [*]; done)), H', ⟨by first | omega | exact Nat.le_refl _⟩, ⟨by (with_reducible repeat first | apply blk_drewN | apply blk_drew | apply blk_alloc); exact BK422.out⟩, ⟨by repeat (first | (with_reducible first | exact HB.out | apply below_alloc | apply pw_below_drewN | apply below_drew1 | refine below_set ?_ GE422.out) | exact HB.out)⟩⟩
  ·rw [if_neg c4] at H
   have c4b0 : decide (0 < a0_1) = false := decide_eq_false c4; clear c4
   (first | rw [c4b0] | (simp only [i64_w, i32_w]; rw [c4b0]) | skip)
   have H' := Aside0.mk H; clear H; have hcz6_0 := czZ BK422 0 (.bool a0_0); have hcz6_1 := czZ BK422 1 (.int .u64 a0_1); have hcz6_2 := czZ BK422 2 (.int .u64 a0_2); have hfz6_0 := blk_frozen BK422.out 0; have hfz6_1 := blk_frozen BK422.out 1; have hfz6_2 := blk_frozen BK422.out 2
   go_wp2
   go_meet
   case rel => exact ⟨_, (decide (a0_2 ≥ 9223372036854775808)), (by first | rfl | (simp; done) | (simp [*]; done)), H', ⟨by first | omega | exact Nat.le_refl _⟩, ⟨by (with_reducible repeat first | apply blk_drewN | apply blk_drew | apply blk_alloc); exact BK422.out⟩, ⟨by repeat (first | (with_reducible first | exact HB.out | apply below_alloc | apply pw_below_drewN | apply below_drew1 | refine below_set ?_ GE422.out) | exact HB.out)⟩⟩
 case rest =>
  clear HC2
  try clear p2
  try clear c3
  try clear c4
  try clear c4b0
  try clear hcz5_0
  try clear hcz5_1
  try clear hcz5_2
  try clear hcz6_0
  try clear hcz6_1
  try clear hcz6_2
  try clear hfz5_0
  try clear hfz5_1
  try clear hfz5_2
  try clear hfz6_0
  try clear hfz6_1
  try clear hfz6_2
  obtain ⟨kq, x10_1, rfl, HA, HJ1, BK422, HB⟩ := hcut
  cases kq with
  | zero => exact absurd HA.out (by simp [sawtoothref02_Int.j0])
  | succ kj1 =>
   have H := HA.out; clear HA; simp only [sawtoothref02_Int.j0] at H
   by_cases c7 : x10_1 = true
   ·subst c7
    have H1 : ((sawtoothref02_belowS.f a0_0 a0_1 a0_2).bind fun t423 => (if t423 = true then (some (-9223372036854775808)) else (some 9223372036854775807))) = some r := by rw [if_pos rfl] at H; exact H
    clear H; have H := H1; clear H1; replace H := Option.bind_eq_some_iff.mp H; obtain ⟨t423, A80, H⟩ := H; replace H : (if t423 = true then (some (-9223372036854775808)) else (some 9223372036854775807)) = some r := H; have A8 := Aside0.mk A80; clear A80
    by_cases c9 : t423 = true
    ·subst c9
     have H1 : (some (-9223372036854775808)) = some r := by rw [if_pos rfl] at H; exact H
     clear H; have H := H1; clear H1; obtain rfl := Option.some.inj H; have hcz10_0 : wc.cell? ⟨gb422, 0, none⟩ = some (.bool a0_0) := (blk_cell BK422.out 0).trans rfl; have hcz10_1 : wc.cell? ⟨gb422, 1, none⟩ = some (.int .u64 a0_1) := (blk_cell BK422.out 1).trans rfl; have hcz10_2 : wc.cell? ⟨gb422, 2, none⟩ = some (.int .u64 a0_2) := (blk_cell BK422.out 2).trans rfl; have hfz10_0 := blk_frozen BK422.out 0; have hfz10_1 := blk_frozen BK422.out 1; have hfz10_2 := blk_frozen BK422.out 2
     go_wp2_with (first | ((with_reducible refine gate_callee (f := 48) rfl ?_); refine goesLA_ (some 12) rfl rfl Tryd.func48 rfl #[.agg #[.bool a0_0, .int .u64 a0_1, .int .u64 a0_2]] rfl ?_; (with_reducible refine (sawtoothref02_belowS.calls a0_0 a0_1 a0_2 true _ A8.out).mono ?_); rintro e w11 ⟨rfl, hb⟩; refine ⟨_, rfl, ?_⟩; replace BK422 := bdZ BK422 hb; replace HB := stA hb; clear hb))
     go_ret
     exact ⟨by first | rfl | (simp [errW_none, errW_some] <;> rfl) | (simp [*, errW_none, errW_some] <;> rfl), by repeat (first | (with_reducible first | exact HB.out | apply below_alloc | apply pw_below_drewN | apply below_drew1 | refine below_set ?_ GE422.out) | exact HB.out)⟩
    ·replace c9 := Bool.eq_false_iff.mpr c9
     subst c9
     have H1 : (some 9223372036854775807) = some r := by rw [if_neg (show ¬ (false = true) by decide)] at H; exact H
     clear H; have H := H1; clear H1; obtain rfl := Option.some.inj H; have hcz12_0 : wc.cell? ⟨gb422, 0, none⟩ = some (.bool a0_0) := (blk_cell BK422.out 0).trans rfl; have hcz12_1 : wc.cell? ⟨gb422, 1, none⟩ = some (.int .u64 a0_1) := (blk_cell BK422.out 1).trans rfl; have hcz12_2 : wc.cell? ⟨gb422, 2, none⟩ = some (.int .u64 a0_2) := (blk_cell BK422.out 2).trans rfl; have hfz12_0 := blk_frozen BK422.out 0; have hfz12_1 := blk_frozen BK422.out 1; have hfz12_2 := blk_frozen BK422.out 2
     go_wp2_with (first | ((with_reducible refine gate_callee (f := 48) rfl ?_); refine goesLA_ (some 12) rfl rfl Tryd.func48 rfl #[.agg #[.bool a0_0, .int .u64 a0_1, .int .u64 a0_2]] rfl ?_; (with_reducible refine (sawtoothref02_belowS.calls a0_0 a0_1 a0_2 false _ A8.out).mono ?_); rintro e w13 ⟨rfl, hb⟩; refine ⟨_, rfl, ?_⟩; replace BK422 := bdZ BK422 hb; replace HB := stA hb; clear hb))
     go_ret
     exact ⟨by first | rfl | (simp [errW_none, errW_some] <;> rfl) | (simp [*, errW_none, errW_some] <;> rfl), by repeat (first | (with_reducible first | exact HB.out | apply below_alloc | apply pw_below_drewN | apply below_drew1 | refine below_set ?_ GE422.out) | exact HB.out)⟩
   ·replace c7 := Bool.eq_false_iff.mpr c7
    subst c7
    have H1 : ((sawtoothref02_belowS.f a0_0 a0_1 a0_2).bind fun t424 => (if t424 = true then (some (wrap64 (-(wrap64 (a0_2))))) else (some (wrap64 (a0_2))))) = some r := by rw [if_neg (show ¬ (false = true) by decide)] at H; exact H
    clear H; have H := H1; clear H1; replace H := Option.bind_eq_some_iff.mp H; obtain ⟨t424, A140, H⟩ := H; replace H : (if t424 = true then (some (wrap64 (-(wrap64 (a0_2))))) else (some (wrap64 (a0_2)))) = some r := H; have A14 := Aside0.mk A140; clear A140
    by_cases c15 : t424 = true
    ·subst c15
     have H1 : (some (wrap64 (-(wrap64 (a0_2))))) = some r := by rw [if_pos rfl] at H; exact H
     clear H; have H := H1; clear H1; obtain rfl := Option.some.inj H; have hcz16_0 : wc.cell? ⟨gb422, 0, none⟩ = some (.bool a0_0) := (blk_cell BK422.out 0).trans rfl; have hcz16_1 : wc.cell? ⟨gb422, 1, none⟩ = some (.int .u64 a0_1) := (blk_cell BK422.out 1).trans rfl; have hcz16_2 : wc.cell? ⟨gb422, 2, none⟩ = some (.int .u64 a0_2) := (blk_cell BK422.out 2).trans rfl; have hfz16_0 := blk_frozen BK422.out 0; have hfz16_1 := blk_frozen BK422.out 1; have hfz16_2 := blk_frozen BK422.out 2
     go_wp2_with (first | ((with_reducible refine gate_callee (f := 48) rfl ?_); refine goesLA_ (some 14) rfl rfl Tryd.func48 rfl #[.agg #[.bool a0_0, .int .u64 a0_1, .int .u64 a0_2]] rfl ?_; (with_reducible refine (sawtoothref02_belowS.calls a0_0 a0_1 a0_2 true _ A14.out).mono ?_); rintro e w17 ⟨rfl, hb⟩; refine ⟨_, rfl, ?_⟩; replace BK422 := bdZ BK422 hb; replace HB := stA hb; clear hb; have hcz18_0 := czZ BK422 0 (.bool a0_0); have hcz18_1 := czZ BK422 1 (.int .u64 a0_1); have hcz18_2 := czZ BK422 2 (.int .u64 a0_2); have hfz18_0 := blk_frozen BK422.out 0; have hfz18_1 := blk_frozen BK422.out 1; have hfz18_2 := blk_frozen BK422.out 2))
     go_ret
     exact ⟨by first | rfl | (simp [errW_none, errW_some] <;> rfl) | (simp [*, errW_none, errW_some] <;> rfl), by repeat (first | (with_reducible first | exact HB.out | apply below_alloc | apply pw_below_drewN | apply below_drew1 | refine below_set ?_ GE422.out) | exact HB.out)⟩
    ·replace c15 := Bool.eq_false_iff.mpr c15
     subst c15
     have H1 : (some (wrap64 (a0_2))) = some r := by rw [if_neg (show ¬ (false = true) by decide)] at H; exact H
     clear H; have H := H1; clear H1; obtain rfl := Option.some.inj H; have hcz19_0 : wc.cell? ⟨gb422, 0, none⟩ = some (.bool a0_0) := (blk_cell BK422.out 0).trans rfl; have hcz19_1 : wc.cell? ⟨gb422, 1, none⟩ = some (.int .u64 a0_1) := (blk_cell BK422.out 1).trans rfl; have hcz19_2 : wc.cell? ⟨gb422, 2, none⟩ = some (.int .u64 a0_2) := (blk_cell BK422.out 2).trans rfl; have hfz19_0 := blk_frozen BK422.out 0; have hfz19_1 := blk_frozen BK422.out 1; have hfz19_2 := blk_frozen BK422.out 2
     go_wp2_with (first | ((with_reducible refine gate_callee (f := 48) rfl ?_); refine goesLA_ (some 14) rfl rfl Tryd.func48 rfl #[.agg #[.bool a0_0, .int .u64 a0_1, .int .u64 a0_2]] rfl ?_; (with_reducible refine (sawtoothref02_belowS.calls a0_0 a0_1 a0_2 false _ A14.out).mono ?_); rintro e w20 ⟨rfl, hb⟩; refine ⟨_, rfl, ?_⟩; replace BK422 := bdZ BK422 hb; replace HB := stA hb; clear hb; have hcz21_0 := czZ BK422 0 (.bool a0_0); have hcz21_1 := czZ BK422 1 (.int .u64 a0_1); have hcz21_2 := czZ BK422 2 (.int .u64 a0_2); have hfz21_0 := blk_frozen BK422.out 0; have hfz21_1 := blk_frozen BK422.out 1; have hfz21_2 := blk_frozen BK422.out 2))
     go_ret
     exact ⟨by first | rfl | (simp [errW_none, errW_some] <;> rfl) | (simp [*, errW_none, errW_some] <;> rfl), by repeat (first | (with_reducible first | exact HB.out | apply below_alloc | apply pw_below_drewN | apply below_drew1 | refine below_set ?_ GE422.out) | exact HB.out)⟩

/-! ### sawtoothref02_IntS: the nearest int: pure, behind function 38 -/
noncomputable def sawtoothref02_IntS.f (n : Bool) (h l : Int) : Option Int := Sp.intF n h l
section Ref02Int
open Go.Proofs.YtgakpcfmgcpeaaaDoor.Sp
theorem sawtoothref02_Int.main {n : Bool} {h l : Int} (h1 : U h) (h2 : U l) : sawtoothref02_Int.f 1 n h l = some (near (val n h l)) := by
 unfold sawtoothref02_Int.f
 have e : (if h > 0 then sawtoothref02_Int.j0 1 true n h l else sawtoothref02_Int.j0 1 (decide (l ≥ 9223372036854775808)) n h l) = sawtoothref02_Int.j0 1 (decide (h > 0 ∨ l ≥ 9223372036854775808)) n h l := by
  by_cases hh : h > 0
  ·rw [if_pos hh, decide_eq_true (Or.inl hh)]
  ·rw [if_neg hh]; congr 1; rw [decide_eq_decide]; omega
 rw [e]
 simp only [sawtoothref02_Int.j0, sawtoothref02_belowS.eq h1 h2, Option.bind_some]; have hw : wrap64 l = wrap64 l := rfl
 by_cases hb : h > 0 ∨ l ≥ 9223372036854775808
 ·rw [decide_eq_true hb, if_pos rfl]
  by_cases hn : val n h l < 0
  ·rw [decide_eq_true hn, if_pos rfl]
   unfold near val at *
   cases n <;> simp at hn ⊢ <;> omega
  ·rw [decide_eq_false hn, if_neg (by simp)]
   unfold near val at *
   cases n <;> simp at hn ⊢ <;> omega
 ·rw [decide_eq_false hb, if_neg (by simp), w64 (x := l) (by omega), w64 (x := -l) (by omega)]
  have hh : h = 0 := by omega
  subst hh
  by_cases hn : val n 0 l < 0
  ·rw [decide_eq_true hn, if_pos rfl, near_in]
   ·unfold val at *; cases n <;> simp at hn ⊢; omega
   ·unfold val; cases n <;> simp <;> omega
  ·rw [decide_eq_false hn, if_neg (by simp), near_in]
   ·unfold val at *; cases n <;> simp at hn ⊢; omega
   ·unfold val; cases n <;> simp <;> omega
end Ref02Int
theorem sawtoothref02_IntS.calls (a0_0 : Bool) (a0_1 a0_2 r : Int) (w : World) (h : sawtoothref02_IntS.f a0_0 a0_1 a0_2 = some r) :
  Calls Tryd.prog 38 #[.agg #[.bool a0_0, .int .u64 a0_1, .int .u64 a0_2]] w fun e w' => e = .returned (.int .i64 r) ∧ Below w.heap.size w w' := by
 obtain ⟨hc, h⟩ := Sp.need_some h; exact sawtoothref02_Int.calls 1 a0_0 a0_1 a0_2 r w (by rw [sawtoothref02_Int.main hc.1 hc.2]; exact h)

/-! ### sawtoothref12_Rise: function 14 -/
noncomputable def sawtoothref12_Rise.f (a0 : Int) : Option (Int) := (sawtoothref01_ClampS.f a0 (-2147483648) 2147483648).bind fun t425 => ((sawtoothref12_CubedS.f t425).bind fun bt426 => ((sawtoothref02_DivS.f bt426.1 bt426.2.1 bt426.2.2 10000000000000000000).bind fun bt429 => ((sawtoothref02_IntS.f bt429.1 bt429.2.1 bt429.2.2.1).bind fun t435 => (some t435))))
set_option maxHeartbeats 8000000 in
set_option maxRecDepth 100000 in
theorem sawtoothref12_Rise.calls (a0 : Int) (r : Int) (w : World) (h : sawtoothref12_Rise.f a0 = some r) :
  Calls Tryd.prog 14 #[.int .i64 a0] w fun e w' => e = .returned (.int .i64 r) ∧ Below w.heap.size w w' := by
 have hu33 := Tryd.underlying33; have HB := Aside0.mk (Below.refl w.heap.size w); have H : ((sawtoothref01_ClampS.f a0 (-2147483648) 2147483648).bind fun t425 => ((sawtoothref12_CubedS.f t425).bind fun bt426 => ((sawtoothref02_DivS.f bt426.1 bt426.2.1 bt426.2.2 10000000000000000000).bind fun bt429 => ((sawtoothref02_IntS.f bt429.1 bt429.2.1 bt429.2.2.1).bind fun t435 => (some t435))))) = some r := h; clear h; replace H := Option.bind_eq_some_iff.mp H; obtain ⟨t425, A20, H⟩ := H; (try dsimp only at H); have A2 := Aside0.mk A20; clear A20; replace H := Option.bind_eq_some_iff.mp H; obtain ⟨⟨t426, t427, t428⟩, A30, H⟩ := H; replace H : ((sawtoothref02_DivS.f t426 t427 t428 10000000000000000000).bind fun bt429 => ((sawtoothref02_IntS.f bt429.1 bt429.2.1 bt429.2.2.1).bind fun t435 => (some t435))) = some r := H; have A3 := Aside0.mk A30; clear A30; replace H := Option.bind_eq_some_iff.mp H; obtain ⟨⟨t429, t430, t431, t432, t433⟩, A40, H⟩ := H; replace H : ((sawtoothref02_IntS.f t429 t430 t431).bind fun t435 => (some t435)) = some r := H; have A4 := Aside0.mk A40; clear A40; replace H := Option.bind_eq_some_iff.mp H; obtain ⟨t435, A50, H⟩ := H; replace H : (some t435) = some r := H; have A5 := Aside0.mk A50; clear A50; obtain rfl := Option.some.inj H
 go_enter Tryd.func14, Tryd.ntmps14
 go_wp2_with (first | ((with_reducible refine gate_callee (f := 36) rfl ?_); refine goesLA_ (some 8) rfl rfl Tryd.func36 rfl #[.int .i64 a0, .int .i64 (-2147483648), .int .i64 2147483648] rfl ?_; (with_reducible refine (sawtoothref01_ClampS.calls a0 (-2147483648) 2147483648 t425 _ A2.out).mono ?_); rintro e w6 ⟨rfl, hb⟩; refine ⟨_, rfl, ?_⟩; replace HB := stA hb; clear hb) | ((with_reducible refine gate_callee (f := 19) rfl ?_); refine goesLA_ (some 11) rfl rfl Tryd.func19 rfl #[.int .i64 t425] rfl ?_; (with_reducible refine (sawtoothref12_CubedS.calls t425 t426 t427 t428 _ A3.out).mono ?_); rintro e w7 ⟨rfl, hb⟩; refine ⟨_, rfl, ?_⟩; replace HB := stA hb; clear hb) | ((with_reducible refine gate_callee (f := 37) rfl ?_); refine goesLA_ (some 12) rfl rfl Tryd.func37 rfl #[.agg #[.bool t426, .int .u64 t427, .int .u64 t428], .int .u64 10000000000000000000] rfl ?_; (with_reducible refine (sawtoothref02_DivS.calls t426 t427 t428 10000000000000000000 t429 t430 t431 t432 t433 _ A4.out).mono ?_); rintro e w8 ⟨rfl, hb⟩; refine ⟨_, rfl, ?_⟩; replace HB := stA hb; clear hb) | ((with_reducible refine gate_dst (N := 4) rfl ?_); refine box_event ?hg (N := 4) ?hd (cs := #[.bool false, .int .u64 0, .int .u64 0]) (t := 33) ?hr ?_; (case hd => rfl); (case hg => rfl); (case hr => first | (go_simp; done) | (go_simp; rfl)); intro gb434 hg w9 hbox hb; have BK434 := Aside0.mk (hbox); obtain ⟨GW434, nHB⟩ := geA hg hb; have GE434 := GW434; replace HB := nHB; clear nHB; clear hb hbox hg; have hcz10_0 := czZ BK434 0 (.bool false); have hcz10_1 := czZ BK434 1 (.int .u64 0); have hcz10_2 := czZ BK434 2 (.int .u64 0); have hfz10_0 := blk_frozen BK434.out 0; have hfz10_1 := blk_frozen BK434.out 1; have hfz10_2 := blk_frozen BK434.out 2) | ((with_reducible refine gate_callee (f := 38) rfl ?_); refine goesLA_ (some 17) rfl rfl Tryd.func38 rfl #[.agg #[.bool t429, .int .u64 t430, .int .u64 t431]] rfl ?_; (with_reducible refine (sawtoothref02_IntS.calls t429 t430 t431 t435 _ A5.out).mono ?_); rintro e w11 ⟨rfl, hb⟩; refine ⟨_, rfl, ?_⟩; replace BK434 := Aside0.mk (blk_below (g := gb434) (o := .cells #[.bool t429, .int .u64 t430, .int .u64 t431] 33 (0, 0)) (by (with_reducible repeat first | apply blk_drewN | apply blk_drew | apply blk_alloc); refine blk_put (cs := #[.bool t429, .int .u64 t430, .int .u64 0]) ?_ 2 _ rfl; (with_reducible repeat first | apply blk_drewN | apply blk_drew | apply blk_alloc); refine blk_put (cs := #[.bool t429, .int .u64 0, .int .u64 0]) ?_ 1 _ rfl; (with_reducible repeat first | apply blk_drewN | apply blk_drew | apply blk_alloc); refine blk_put (cs := #[.bool false, .int .u64 0, .int .u64 0]) ?_ 0 _ rfl; (with_reducible repeat first | apply blk_drewN | apply blk_drew | apply blk_alloc); exact BK434.out) hb); replace HB := stA hb; clear hb))
 go_ret
 exact ⟨by first | rfl | (simp [errW_none, errW_some] <;> rfl) | (simp [*, errW_none, errW_some] <;> rfl), by repeat (first | (with_reducible first | exact HB.out | apply below_alloc | apply pw_below_drewN | apply below_drew1 | refine below_set ?_ GE434.out) | exact HB.out)⟩

/-! ### sawtoothref12_RiseS: pure, behind function 14 -/
section
open Go.Proofs.YtgakpcfmgcpeaaaDoor.Sp
noncomputable def sawtoothref12_RiseS.f (d : Int) : Option (Int) := need ((I d)) (some (riseQ d))
theorem sawtoothref12_RiseS.eq {d : Int} (h1 : I d) : sawtoothref12_RiseS.f d = some (riseQ d) := need_pos h1
theorem sawtoothref12_Rise.main {d : Int} (h1 : I d) : sawtoothref12_Rise.f d = some (riseQ d) := by
 unfold sawtoothref12_Rise.f sawtoothref02_DivS.f sawtoothref02_IntS.f
 rw [sawtoothref01_ClampS.eq]
 simp only [Option.bind_some]; have b := c31_bd d; have cb := c31_cube d; have rb := riseQ_bd d; have e0 : riseQ d = c31 d * c31 d * c31 d * 262144 / 10000000000000000000 := rfl
 rw [show clamp d (-2147483648) 2147483648 = c31 d from rfl, sawtoothref12_CubedS.eq b]
 simp only [Option.bind_some]
 rw [divF_enc (by omega) (by omega), quo_pos (by omega)]
 simp only [Option.bind_some]
 rw [← e0, intF_enc (by omega), near_in (by omega)]
 rfl
end
theorem sawtoothref12_RiseS.calls (a0 : Int) (r : Int) (w : World) (h : sawtoothref12_RiseS.f a0 = some r) :
  Calls Tryd.prog 14 #[.int .i64 a0] w fun e w' => e = .returned (.int .i64 r) ∧ Below w.heap.size w w' := by
 obtain ⟨hc, h⟩ := Sp.need_some h; have h1 := hc; exact sawtoothref12_Rise.calls a0 r w (by rw [sawtoothref12_Rise.main h1]; exact h)

/-! ### sawtoothref11_window: function 53 -/
noncomputable def sawtoothref11_window.f (a0 : Int) : Option (Bool) := if a0 ≥ 0 then (some (decide (a0 ≤ 68719476736))) else (some false)
set_option maxHeartbeats 8000000 in
set_option maxRecDepth 100000 in
theorem sawtoothref11_window.calls (a0 : Int) (r : Bool) (w : World) (h : sawtoothref11_window.f a0 = some r) :
  Calls Tryd.prog 53 #[.int .i64 a0] w fun e w' => e = .returned (.bool r) ∧ Drawn0 w w' := by
 have H : (if a0 ≥ 0 then (some (decide (a0 ≤ 68719476736))) else (some false)) = some r := h; clear h
 by_cases c2 : a0 ≥ 0
 ·rw [if_pos c2] at H
  have c2b0 : decide (0 ≤ a0) = true := decide_eq_true c2; clear c2; obtain rfl := Option.some.inj H
  go_enter Tryd.func53, Tryd.ntmps53
  go_wp2
  go_ret
  exact ⟨by first | rfl | (simp; done) | (simp [*]; done), by repeat (first | exact Drawn0.refl _ | apply Drawn0.step)⟩
 ·rw [if_neg c2] at H
  have c2b0 : decide (0 ≤ a0) = false := decide_eq_false c2; clear c2; obtain rfl := Option.some.inj H
  go_enter Tryd.func53, Tryd.ntmps53
  go_wp2
  go_ret
  exact ⟨by first | rfl | (simp; done) | (simp [*]; done), by repeat (first | exact Drawn0.refl _ | apply Drawn0.step)⟩

end Go.Proofs.YtgakpcfmgcpeaaaDoor.Px
