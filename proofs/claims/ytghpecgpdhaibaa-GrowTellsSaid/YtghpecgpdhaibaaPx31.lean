/- Printed by a program of this session (wip/tool/px.py), over the kit's print: for each Go function a Lean function, and the proof that the machine's call answers as that function says. Conditions: none beside what the theorems state. -/
import Derived.Test.YtghpecgpdhaibaaPx0
import Derived.Test.YtghpecgpdhaibaaPx24
import Derived.Test.YtghpecgpdhaibaaPx27
import Derived.Test.YtghpecgpdhaibaaPx30
import Derived.Test.YtghpecgpdhaibaaSpec
namespace Go.Proofs.Ytghpecgpdhaibaa.Px
open Go.RowKit Go.Proofs.YtghpecgpdhaibaaW.PrintWords Go.Proofs.YtghpecgpdhaibaaW.PrintLast Go.Proofs.YtghpecgpdhaibaaW.PrintMore
attribute [local go_sem] max2_int min2_int max_two min_two max_three min_three max_four min_four   -- for this text's walks alone
set_option linter.unusedVariables false
set_option linter.unusedSimpArgs false

/-! ### sawtoothref02_below: function 49 -/
noncomputable def sawtoothref02_below.f (a0_0 : Bool) (a0_1 : Int) (a0_2 : Int) : Option (Bool) := if a0_0 = true then (if a0_1 > 0 then (some true) else (some (decide (a0_2 > 0)))) else (some false)
set_option maxHeartbeats 8000000 in
set_option maxRecDepth 100000 in
theorem sawtoothref02_below.calls (a0_0 : Bool) (a0_1 : Int) (a0_2 : Int) (r : Bool) (w : World) (h : sawtoothref02_below.f a0_0 a0_1 a0_2 = some r) :
  Calls Try.prog 49 #[.agg #[.bool a0_0, .int .u64 a0_1, .int .u64 a0_2]] w fun e w' => e = .returned (.bool r) ∧ Below w.heap.size w w' := by
 have hu35 := Try.underlying35; have HB := Aside0.mk (Below.refl w.heap.size w); have H : (if a0_0 = true then (if a0_1 > 0 then (some true) else (some (decide (a0_2 > 0)))) else (some false)) = some r := h; clear h
 by_cases c2 : a0_0 = true
 ·subst c2
  have H1 : (if a0_1 > 0 then (some true) else (some (decide (a0_2 > 0)))) = some r := by rw [if_pos rfl] at H; exact H
  clear H; have H := H1; clear H1
  by_cases c3 : a0_1 > 0
  ·rw [if_pos c3] at H
   have c3b0 : decide (0 < a0_1) = true := decide_eq_true c3; clear c3; obtain rfl := Option.some.inj H
   go_enter Try.func49, Try.ntmps49
   go_wp2_with (first | ((with_reducible refine gate_dst (N := 1) rfl ?_); refine box_event ?hg (N := 1) ?hd (cs := #[.bool true, .int .u64 a0_1, .int .u64 a0_2]) (t := 35) ?hr ?_; (case hd => rfl); (case hg => rfl); (case hr => first | (go_simp; done) | (go_simp; rfl)); intro gb357 hg w4 hbox hb; have BK357 := Aside0.mk (hbox); obtain ⟨GW357, nHB⟩ := geA hg hb; have GE357 := GW357; replace HB := nHB; clear nHB; clear hb hbox hg; have hcz5_0 := czZ BK357 0 (.bool true); have hcz5_1 := czZ BK357 1 (.int .u64 a0_1); have hcz5_2 := czZ BK357 2 (.int .u64 a0_2); have hfz5_0 := blk_frozen BK357.out 0; have hfz5_1 := blk_frozen BK357.out 1; have hfz5_2 := blk_frozen BK357.out 2))
   go_ret
   exact ⟨by first | rfl | (simp [errW_none, errW_some] <;> rfl) | (simp [*, errW_none, errW_some] <;> rfl), by repeat (first | (with_reducible first | exact HB.out | apply below_alloc | apply pw_below_drewN | apply below_drew1 | refine below_set ?_ GE357.out) | exact HB.out)⟩
  ·rw [if_neg c3] at H
   have c3b0 : decide (0 < a0_1) = false := decide_eq_false c3; clear c3; obtain rfl := Option.some.inj H
   go_enter Try.func49, Try.ntmps49
   go_wp2_with (first | ((with_reducible refine gate_dst (N := 1) rfl ?_); refine box_event ?hg (N := 1) ?hd (cs := #[.bool true, .int .u64 a0_1, .int .u64 a0_2]) (t := 35) ?hr ?_; (case hd => rfl); (case hg => rfl); (case hr => first | (go_simp; done) | (go_simp; rfl)); intro gb357 hg w6 hbox hb; have BK357 := Aside0.mk (hbox); obtain ⟨GW357, nHB⟩ := geA hg hb; have GE357 := GW357; replace HB := nHB; clear nHB; clear hb hbox hg; have hcz7_0 := czZ BK357 0 (.bool true); have hcz7_1 := czZ BK357 1 (.int .u64 a0_1); have hcz7_2 := czZ BK357 2 (.int .u64 a0_2); have hfz7_0 := blk_frozen BK357.out 0; have hfz7_1 := blk_frozen BK357.out 1; have hfz7_2 := blk_frozen BK357.out 2))
   go_ret
   exact ⟨by first | rfl | (simp [errW_none, errW_some] <;> rfl) | (simp [*, errW_none, errW_some] <;> rfl), by repeat (first | (with_reducible first | exact HB.out | apply below_alloc | apply pw_below_drewN | apply below_drew1 | refine below_set ?_ GE357.out) | exact HB.out)⟩
 ·replace c2 := Bool.eq_false_iff.mpr c2
  subst c2
  have H1 : (some false) = some r := by rw [if_neg (show ¬ (false = true) by decide)] at H; exact H
  clear H; have H := H1; clear H1; obtain rfl := Option.some.inj H
  go_enter Try.func49, Try.ntmps49
  go_wp2_with (first | ((with_reducible refine gate_dst (N := 1) rfl ?_); refine box_event ?hg (N := 1) ?hd (cs := #[.bool false, .int .u64 a0_1, .int .u64 a0_2]) (t := 35) ?hr ?_; (case hd => rfl); (case hg => rfl); (case hr => first | (go_simp; done) | (go_simp; rfl)); intro gb357 hg w8 hbox hb; have BK357 := Aside0.mk (hbox); obtain ⟨GW357, nHB⟩ := geA hg hb; have GE357 := GW357; replace HB := nHB; clear nHB; clear hb hbox hg; have hcz9_0 := czZ BK357 0 (.bool false); have hcz9_1 := czZ BK357 1 (.int .u64 a0_1); have hcz9_2 := czZ BK357 2 (.int .u64 a0_2); have hfz9_0 := blk_frozen BK357.out 0; have hfz9_1 := blk_frozen BK357.out 1; have hfz9_2 := blk_frozen BK357.out 2))
  go_ret
  exact ⟨by first | rfl | (simp [errW_none, errW_some] <;> rfl) | (simp [*, errW_none, errW_some] <;> rfl), by repeat (first | (with_reducible first | exact HB.out | apply below_alloc | apply pw_below_drewN | apply below_drew1 | refine below_set ?_ GE357.out) | exact HB.out)⟩

/-! ### sawtoothref02_belowS: is it below 0: pure, behind function 49 -/
noncomputable def sawtoothref02_belowS.f (n : Bool) (h l : Int) : Option Bool := Go.Proofs.Ytghpecgpdhaibaa.Sp.need (Go.Proofs.Ytghpecgpdhaibaa.Sp.U h ∧ Go.Proofs.Ytghpecgpdhaibaa.Sp.U l) (some (decide (Go.Proofs.Ytghpecgpdhaibaa.Sp.val n h l < 0)))
section Ref02Below
open Go.Proofs.Ytghpecgpdhaibaa.Sp
theorem sawtoothref02_belowS.eq {n : Bool} {h l : Int} (h1 : U h) (h2 : U l) : sawtoothref02_belowS.f n h l = some (decide (val n h l < 0)) := need_pos ⟨h1, h2⟩
theorem sawtoothref02_below.main {n : Bool} {h l : Int} (h1 : U h) (h2 : U l) : sawtoothref02_below.f n h l = some (decide (val n h l < 0)) := by
 unfold sawtoothref02_below.f val
 cases n
 ·simp only [Bool.false_eq_true, if_false]; rw [decide_eq_false]; omega
 ·simp only [if_true]
  by_cases hh : h > 0
  ·rw [if_pos hh, decide_eq_true]; omega
  ·rw [if_neg hh]; congr 1; rw [decide_eq_decide]; omega
end Ref02Below
theorem sawtoothref02_belowS.calls (a0_0 : Bool) (a0_1 a0_2 : Int) (r : Bool) (w : World) (h : sawtoothref02_belowS.f a0_0 a0_1 a0_2 = some r) :
  Calls Try.prog 49 #[.agg #[.bool a0_0, .int .u64 a0_1, .int .u64 a0_2]] w fun e w' => e = .returned (.bool r) ∧ Below w.heap.size w w' := by
 obtain ⟨hc, h⟩ := Go.Proofs.Ytghpecgpdhaibaa.Sp.need_some h; exact sawtoothref02_below.calls a0_0 a0_1 a0_2 r w (by rw [sawtoothref02_below.main hc.1 hc.2]; exact h)

/-! ### sawtoothref02_Int: function 41 -/
noncomputable def sawtoothref02_Int.j0 : Nat → Bool → Bool → Int → Int → Option (Int)
 | 0, _, _, _, _ => none
 | k + 1, x10, x359000, x359001, x359002 => if x10 = true then ((sawtoothref02_belowS.f x359000 x359001 x359002).bind fun t359 => (if t359 = true then (some (-9223372036854775808)) else (some 9223372036854775807))) else ((sawtoothref02_belowS.f x359000 x359001 x359002).bind fun t360 => (if t360 = true then (some (wrap64 (-(wrap64 (x359002))))) else (some (wrap64 (x359002)))))
noncomputable def sawtoothref02_Int.f (k : Nat) (a0_0 : Bool) (a0_1 : Int) (a0_2 : Int) : Option (Int) := if a0_1 > 0 then (sawtoothref02_Int.j0 k true a0_0 a0_1 a0_2) else (sawtoothref02_Int.j0 k (decide (a0_2 ≥ 9223372036854775808)) a0_0 a0_1 a0_2)
theorem sawtoothref02_Int.mono_l : ∀ k, (∀ y0 y1 y2 y3, LeO (sawtoothref02_Int.j0 k y0 y1 y2 y3) (sawtoothref02_Int.j0 (k + 1) y0 y1 y2 y3))
 | 0 => fun _ _ _ _ r h => by simp [sawtoothref02_Int.j0] at h
 | k + 1 => by
  have ih0 := sawtoothref02_Int.mono_l k
  ·intro y0 y1 y2 y3
   unfold sawtoothref02_Int.j0
   repeat' first
   | (with_reducible exact ih0 _ _ _ _)
   | (with_reducible exact LeO.refl _)
   | (with_reducible exact LeO.none _)
   | (with_reducible refine LeO.ite ?_ ?_)
   | (with_reducible refine LeO.bind ?_ (fun _ => ?_))
   | exact ih0 _ _ _ _
   | exact LeO.none _
   | refine LeO.ite ?_ ?_
   | refine LeO.bind ?_ (fun _ => ?_)
theorem sawtoothref02_Int.mono : ∀ a0 a1 a2 k, LeO (sawtoothref02_Int.f k a0 a1 a2) (sawtoothref02_Int.f (k + 1) a0 a1 a2) := by
 intro a0 a1 a2 k; have ih0 := sawtoothref02_Int.mono_l k
 unfold sawtoothref02_Int.f
 repeat' first
   | (with_reducible exact ih0 _ _ _ _)
   | (with_reducible exact LeO.refl _)
   | (with_reducible exact LeO.none _)
   | (with_reducible refine LeO.ite ?_ ?_)
   | (with_reducible refine LeO.bind ?_ (fun _ => ?_))
   | exact ih0 _ _ _ _
   | exact LeO.none _
   | refine LeO.ite ?_ ?_
   | refine LeO.bind ?_ (fun _ => ?_)
set_option maxHeartbeats 8000000 in
set_option maxRecDepth 100000 in
theorem sawtoothref02_Int.calls (k : Nat) (a0_0 : Bool) (a0_1 : Int) (a0_2 : Int) (r : Int) (w : World) (h : sawtoothref02_Int.f k a0_0 a0_1 a0_2 = some r) :
  Calls Try.prog 41 #[.agg #[.bool a0_0, .int .u64 a0_1, .int .u64 a0_2]] w fun e w' => e = .returned (.int .i64 r) ∧ Below w.heap.size w w' := by
 have hu35 := Try.underlying35; have HB := Aside0.mk (Below.refl w.heap.size w); have H : (if a0_1 > 0 then (sawtoothref02_Int.j0 k true a0_0 a0_1 a0_2) else (sawtoothref02_Int.j0 k (decide (a0_2 ≥ 9223372036854775808)) a0_0 a0_1 a0_2)) = some r := h; clear h; have HC2 := Aside0.mk H; clear H
 go_enter Try.func41, Try.ntmps41
 go_upto_region 1 with (first | ((with_reducible refine gate_dst (N := 1) rfl ?_); refine box_event ?hg (N := 1) ?hd (cs := #[.bool a0_0, .int .u64 a0_1, .int .u64 a0_2]) (t := 35) ?hr ?_; (case hd => rfl); (case hg => rfl); (case hr => first | (go_simp; done) | (go_simp; rfl)); intro gb358 hg w3 hbox hb; have BK358 := Aside0.mk (hbox); obtain ⟨GW358, nHB⟩ := geA hg hb; have GE358 := GW358; replace HB := nHB; clear nHB; clear hb hbox hg))
 (try simp only [Act.put, sA, sB, sC])
 go_cut [10] (fun v10 wc => ∃ (kq : Nat) (x10_1 : Bool), v10 = .bool x10_1 ∧ Aside0 (sawtoothref02_Int.j0 kq x10_1 a0_0 a0_1 a0_2 = some r) ∧ Aside0 (kq ≤ k) ∧ Aside0 (wc.heap[gb358]? = some (.cells #[.bool a0_0, .int .u64 a0_1, .int .u64 a0_2] 35 (0, 0))) ∧ Aside0 (Below w.heap.size w wc))
 case first =>
  have H := HC2.out; clear HC2
  by_cases c4 : a0_1 > 0
  ·rw [if_pos c4] at H
   have c4b0 : decide (0 < a0_1) = true := decide_eq_true c4; clear c4
   (first | rw [c4b0] | (simp only [i64_w, i32_w]; rw [c4b0]) | skip)
   have H' := Aside0.mk H; clear H; have hcz5_0 := czZ BK358 0 (.bool a0_0); have hcz5_1 := czZ BK358 1 (.int .u64 a0_1); have hcz5_2 := czZ BK358 2 (.int .u64 a0_2); have hfz5_0 := blk_frozen BK358.out 0; have hfz5_1 := blk_frozen BK358.out 1; have hfz5_2 := blk_frozen BK358.out 2
   go_wp2
   go_meet
   case rel => exact ⟨_, (true), (by first | rfl | (simp; done) | (simp [*]; done)), H', ⟨by first | omega | exact Nat.le_refl _⟩, ⟨by (with_reducible repeat first | apply blk_drewN | apply blk_drew | apply blk_alloc); exact BK358.out⟩, ⟨by repeat (first | (with_reducible first | exact HB.out | apply below_alloc | apply pw_below_drewN | apply below_drew1 | refine below_set ?_ GE358.out) | exact HB.out)⟩⟩
  ·rw [if_neg c4] at H
   have c4b0 : decide (0 < a0_1) = false := decide_eq_false c4; clear c4
   (first | rw [c4b0] | (simp only [i64_w, i32_w]; rw [c4b0]) | skip)
   have H' := Aside0.mk H; clear H; have hcz6_0 := czZ BK358 0 (.bool a0_0); have hcz6_1 := czZ BK358 1 (.int .u64 a0_1); have hcz6_2 := czZ BK358 2 (.int .u64 a0_2); have hfz6_0 := blk_frozen BK358.out 0; have hfz6_1 := blk_frozen BK358.out 1; have hfz6_2 := blk_frozen BK358.out 2
   go_wp2
   go_meet
   case rel => exact ⟨_, (decide (a0_2 ≥ 9223372036854775808)), (by first | rfl | (simp; done) | (simp [*]; done)), H', ⟨by first | omega | exact Nat.le_refl _⟩, ⟨by (with_reducible repeat first | apply blk_drewN | apply blk_drew | apply blk_alloc); exact BK358.out⟩, ⟨by repeat (first | (with_reducible first | exact HB.out | apply below_alloc | apply pw_below_drewN | apply below_drew1 | refine below_set ?_ GE358.out) | exact HB.out)⟩⟩
 case rest =>
  clear HC2
  try clear p2
  try clear c4
  try clear c4b0
  try clear hcz5_0
  try clear hcz5_1
  try clear hcz5_2
  try clear hcz6_0
  try clear hcz6_1
  try clear hcz6_2
  try clear hfz5_0
  try clear hfz5_1
  try clear hfz5_2
  try clear hfz6_0
  try clear hfz6_1
  try clear hfz6_2
  obtain ⟨kq, x10_1, rfl, HA, HJ1, BK358, HB⟩ := hcut
  cases kq with
  | zero => exact absurd HA.out (by simp [sawtoothref02_Int.j0])
  | succ kj1 =>
   have H := HA.out; clear HA; simp only [sawtoothref02_Int.j0] at H
   by_cases c7 : x10_1 = true
   ·subst c7
    have H1 : ((sawtoothref02_belowS.f a0_0 a0_1 a0_2).bind fun t359 => (if t359 = true then (some (-9223372036854775808)) else (some 9223372036854775807))) = some r := by rw [if_pos rfl] at H; exact H
    clear H; have H := H1; clear H1; replace H := Option.bind_eq_some_iff.mp H; obtain ⟨t359, A80, H⟩ := H; replace H : (if t359 = true then (some (-9223372036854775808)) else (some 9223372036854775807)) = some r := H; have A8 := Aside0.mk A80; clear A80
    by_cases c9 : t359 = true
    ·subst c9
     have H1 : (some (-9223372036854775808)) = some r := by rw [if_pos rfl] at H; exact H
     clear H; have H := H1; clear H1; obtain rfl := Option.some.inj H; have hcz10_0 : wc.cell? ⟨gb358, 0, none⟩ = some (.bool a0_0) := (blk_cell BK358.out 0).trans rfl; have hcz10_1 : wc.cell? ⟨gb358, 1, none⟩ = some (.int .u64 a0_1) := (blk_cell BK358.out 1).trans rfl; have hcz10_2 : wc.cell? ⟨gb358, 2, none⟩ = some (.int .u64 a0_2) := (blk_cell BK358.out 2).trans rfl; have hfz10_0 := blk_frozen BK358.out 0; have hfz10_1 := blk_frozen BK358.out 1; have hfz10_2 := blk_frozen BK358.out 2
     go_wp2_with (first | ((with_reducible refine gate_callee (f := 49) rfl ?_); refine goesLA_ (some 12) rfl rfl Try.func49 rfl #[.agg #[.bool a0_0, .int .u64 a0_1, .int .u64 a0_2]] rfl ?_; (with_reducible refine (sawtoothref02_belowS.calls a0_0 a0_1 a0_2 true _ A8.out).mono ?_); rintro e w11 ⟨rfl, hb⟩; refine ⟨_, rfl, ?_⟩; replace BK358 := bdZ BK358 hb; replace HB := stA hb; clear hb))
     go_ret
     exact ⟨by first | rfl | (simp [errW_none, errW_some] <;> rfl) | (simp [*, errW_none, errW_some] <;> rfl), by repeat (first | (with_reducible first | exact HB.out | apply below_alloc | apply pw_below_drewN | apply below_drew1 | refine below_set ?_ GE358.out) | exact HB.out)⟩
    ·replace c9 := Bool.eq_false_iff.mpr c9
     subst c9
     have H1 : (some 9223372036854775807) = some r := by rw [if_neg (show ¬ (false = true) by decide)] at H; exact H
     clear H; have H := H1; clear H1; obtain rfl := Option.some.inj H; have hcz12_0 : wc.cell? ⟨gb358, 0, none⟩ = some (.bool a0_0) := (blk_cell BK358.out 0).trans rfl; have hcz12_1 : wc.cell? ⟨gb358, 1, none⟩ = some (.int .u64 a0_1) := (blk_cell BK358.out 1).trans rfl; have hcz12_2 : wc.cell? ⟨gb358, 2, none⟩ = some (.int .u64 a0_2) := (blk_cell BK358.out 2).trans rfl; have hfz12_0 := blk_frozen BK358.out 0; have hfz12_1 := blk_frozen BK358.out 1; have hfz12_2 := blk_frozen BK358.out 2
     go_wp2_with (first | ((with_reducible refine gate_callee (f := 49) rfl ?_); refine goesLA_ (some 12) rfl rfl Try.func49 rfl #[.agg #[.bool a0_0, .int .u64 a0_1, .int .u64 a0_2]] rfl ?_; (with_reducible refine (sawtoothref02_belowS.calls a0_0 a0_1 a0_2 false _ A8.out).mono ?_); rintro e w13 ⟨rfl, hb⟩; refine ⟨_, rfl, ?_⟩; replace BK358 := bdZ BK358 hb; replace HB := stA hb; clear hb))
     go_ret
     exact ⟨by first | rfl | (simp [errW_none, errW_some] <;> rfl) | (simp [*, errW_none, errW_some] <;> rfl), by repeat (first | (with_reducible first | exact HB.out | apply below_alloc | apply pw_below_drewN | apply below_drew1 | refine below_set ?_ GE358.out) | exact HB.out)⟩
   ·replace c7 := Bool.eq_false_iff.mpr c7
    subst c7
    have H1 : ((sawtoothref02_belowS.f a0_0 a0_1 a0_2).bind fun t360 => (if t360 = true then (some (wrap64 (-(wrap64 (a0_2))))) else (some (wrap64 (a0_2))))) = some r := by rw [if_neg (show ¬ (false = true) by decide)] at H; exact H
    clear H; have H := H1; clear H1; replace H := Option.bind_eq_some_iff.mp H; obtain ⟨t360, A140, H⟩ := H; replace H : (if t360 = true then (some (wrap64 (-(wrap64 (a0_2))))) else (some (wrap64 (a0_2)))) = some r := H; have A14 := Aside0.mk A140; clear A140
    by_cases c15 : t360 = true
    ·subst c15
     have H1 : (some (wrap64 (-(wrap64 (a0_2))))) = some r := by rw [if_pos rfl] at H; exact H
     clear H; have H := H1; clear H1; obtain rfl := Option.some.inj H; have hcz16_0 : wc.cell? ⟨gb358, 0, none⟩ = some (.bool a0_0) := (blk_cell BK358.out 0).trans rfl; have hcz16_1 : wc.cell? ⟨gb358, 1, none⟩ = some (.int .u64 a0_1) := (blk_cell BK358.out 1).trans rfl; have hcz16_2 : wc.cell? ⟨gb358, 2, none⟩ = some (.int .u64 a0_2) := (blk_cell BK358.out 2).trans rfl; have hfz16_0 := blk_frozen BK358.out 0; have hfz16_1 := blk_frozen BK358.out 1; have hfz16_2 := blk_frozen BK358.out 2
     go_wp2_with (first | ((with_reducible refine gate_callee (f := 49) rfl ?_); refine goesLA_ (some 14) rfl rfl Try.func49 rfl #[.agg #[.bool a0_0, .int .u64 a0_1, .int .u64 a0_2]] rfl ?_; (with_reducible refine (sawtoothref02_belowS.calls a0_0 a0_1 a0_2 true _ A14.out).mono ?_); rintro e w17 ⟨rfl, hb⟩; refine ⟨_, rfl, ?_⟩; replace BK358 := bdZ BK358 hb; replace HB := stA hb; clear hb; have hcz18_0 := czZ BK358 0 (.bool a0_0); have hcz18_1 := czZ BK358 1 (.int .u64 a0_1); have hcz18_2 := czZ BK358 2 (.int .u64 a0_2); have hfz18_0 := blk_frozen BK358.out 0; have hfz18_1 := blk_frozen BK358.out 1; have hfz18_2 := blk_frozen BK358.out 2))
     go_ret
     exact ⟨by first | rfl | (simp [errW_none, errW_some] <;> rfl) | (simp [*, errW_none, errW_some] <;> rfl), by repeat (first | (with_reducible first | exact HB.out | apply below_alloc | apply pw_below_drewN | apply below_drew1 | refine below_set ?_ GE358.out) | exact HB.out)⟩
    ·replace c15 := Bool.eq_false_iff.mpr c15
     subst c15
     have H1 : (some (wrap64 (a0_2))) = some r := by rw [if_neg (show ¬ (false = true) by decide)] at H; exact H
     clear H; have H := H1; clear H1; obtain rfl := Option.some.inj H; have hcz19_0 : wc.cell? ⟨gb358, 0, none⟩ = some (.bool a0_0) := (blk_cell BK358.out 0).trans rfl; have hcz19_1 : wc.cell? ⟨gb358, 1, none⟩ = some (.int .u64 a0_1) := (blk_cell BK358.out 1).trans rfl; have hcz19_2 : wc.cell? ⟨gb358, 2, none⟩ = some (.int .u64 a0_2) := (blk_cell BK358.out 2).trans rfl; have hfz19_0 := blk_frozen BK358.out 0; have hfz19_1 := blk_frozen BK358.out 1; have hfz19_2 := blk_frozen BK358.out 2
     go_wp2_with (first | ((with_reducible refine gate_callee (f := 49) rfl ?_); refine goesLA_ (some 14) rfl rfl Try.func49 rfl #[.agg #[.bool a0_0, .int .u64 a0_1, .int .u64 a0_2]] rfl ?_; (with_reducible refine (sawtoothref02_belowS.calls a0_0 a0_1 a0_2 false _ A14.out).mono ?_); rintro e w20 ⟨rfl, hb⟩; refine ⟨_, rfl, ?_⟩; replace BK358 := bdZ BK358 hb; replace HB := stA hb; clear hb; have hcz21_0 := czZ BK358 0 (.bool a0_0); have hcz21_1 := czZ BK358 1 (.int .u64 a0_1); have hcz21_2 := czZ BK358 2 (.int .u64 a0_2); have hfz21_0 := blk_frozen BK358.out 0; have hfz21_1 := blk_frozen BK358.out 1; have hfz21_2 := blk_frozen BK358.out 2))
     go_ret
     exact ⟨by first | rfl | (simp [errW_none, errW_some] <;> rfl) | (simp [*, errW_none, errW_some] <;> rfl), by repeat (first | (with_reducible first | exact HB.out | apply below_alloc | apply pw_below_drewN | apply below_drew1 | refine below_set ?_ GE358.out) | exact HB.out)⟩

/-! ### sawtoothref02_IntS: the nearest int: pure, behind function 41 -/
noncomputable def sawtoothref02_IntS.f (n : Bool) (h l : Int) : Option Int := Go.Proofs.Ytghpecgpdhaibaa.Sp.intF n h l
section Ref02Int
open Go.Proofs.Ytghpecgpdhaibaa.Sp
theorem sawtoothref02_Int.main {n : Bool} {h l : Int} (h1 : U h) (h2 : U l) : sawtoothref02_Int.f 1 n h l = some (near (val n h l)) := by
 unfold sawtoothref02_Int.f
 have e : (if h > 0 then sawtoothref02_Int.j0 1 true n h l else sawtoothref02_Int.j0 1 (decide (l ≥ 9223372036854775808)) n h l) = sawtoothref02_Int.j0 1 (decide (h > 0 ∨ l ≥ 9223372036854775808)) n h l := by
  by_cases hh : h > 0
  ·rw [if_pos hh, decide_eq_true (Or.inl hh)]
  ·rw [if_neg hh]; congr 1; rw [decide_eq_decide]; omega
 rw [e]
 simp only [sawtoothref02_Int.j0, sawtoothref02_belowS.eq h1 h2, Option.bind_some]; have hw : wrap64 l = wrap64 l := rfl
 by_cases hb : h > 0 ∨ l ≥ 9223372036854775808
 ·rw [decide_eq_true hb, if_pos rfl]
  by_cases hn : val n h l < 0
  ·rw [decide_eq_true hn, if_pos rfl]
   unfold near val at *
   cases n <;> simp at hn ⊢ <;> omega
  ·rw [decide_eq_false hn, if_neg (by simp)]
   unfold near val at *
   cases n <;> simp at hn ⊢ <;> omega
 ·rw [decide_eq_false hb, if_neg (by simp), w64 (x := l) (by omega), w64 (x := -l) (by omega)]
  have hh : h = 0 := by omega
  subst hh
  by_cases hn : val n 0 l < 0
  ·rw [decide_eq_true hn, if_pos rfl, near_in]
   ·unfold val at *; cases n <;> simp at hn ⊢; omega
   ·unfold val; cases n <;> simp <;> omega
  ·rw [decide_eq_false hn, if_neg (by simp), near_in]
   ·unfold val at *; cases n <;> simp at hn ⊢; omega
   ·unfold val; cases n <;> simp <;> omega
end Ref02Int
theorem sawtoothref02_IntS.calls (a0_0 : Bool) (a0_1 a0_2 r : Int) (w : World) (h : sawtoothref02_IntS.f a0_0 a0_1 a0_2 = some r) :
  Calls Try.prog 41 #[.agg #[.bool a0_0, .int .u64 a0_1, .int .u64 a0_2]] w fun e w' => e = .returned (.int .i64 r) ∧ Below w.heap.size w w' := by
 obtain ⟨hc, h⟩ := Go.Proofs.Ytghpecgpdhaibaa.Sp.need_some h; exact sawtoothref02_Int.calls 1 a0_0 a0_1 a0_2 r w (by rw [sawtoothref02_Int.main hc.1 hc.2]; exact h)

/-! ### sawtoothref01_Plus: function 70 -/
noncomputable def sawtoothref01_Plus.f (a0 : Int) (a1 : Int) : Option (Int × Int) := if a1 > 0 then (if a0 > (wrap64 (9223372036854775807 - a1)) then (some (0, 10)) else (if a1 < 0 then (if a0 < (wrap64 ((-9223372036854775808) - a1)) then (some (0, 10)) else (some (wrap64 (a0 + a1), 0))) else (some (wrap64 (a0 + a1), 0)))) else (if a1 < 0 then (if a0 < (wrap64 ((-9223372036854775808) - a1)) then (some (0, 10)) else (some (wrap64 (a0 + a1), 0))) else (some (wrap64 (a0 + a1), 0)))
set_option maxHeartbeats 8000000 in
set_option maxRecDepth 100000 in
theorem sawtoothref01_Plus.calls (a0 : Int) (a1 : Int) (r1 : Int) (r2 : Int) (w : World) (h : sawtoothref01_Plus.f a0 a1 = some (r1, r2)) :
  Calls Try.prog 70 #[.int .i64 a0, .int .i64 a1] w fun e w' => e = .returned (.tuple #[.int .i64 r1, .int .i64 r2]) ∧ Drawn0 w w' := by
 have H : (if a1 > 0 then (if a0 > (wrap64 (9223372036854775807 - a1)) then (some (0, 10)) else (if a1 < 0 then (if a0 < (wrap64 ((-9223372036854775808) - a1)) then (some (0, 10)) else (some (wrap64 (a0 + a1), 0))) else (some (wrap64 (a0 + a1), 0)))) else (if a1 < 0 then (if a0 < (wrap64 ((-9223372036854775808) - a1)) then (some (0, 10)) else (some (wrap64 (a0 + a1), 0))) else (some (wrap64 (a0 + a1), 0)))) = some (r1, r2) := h; clear h
 by_cases c3 : a1 > 0
 ·rw [if_pos c3] at H
  have c3b0 : decide (0 < a1) = true := decide_eq_true c3; clear c3
  by_cases c4 : a0 > (wrap64 (9223372036854775807 - a1))
  ·rw [if_pos c4] at H
   have c4b0 : decide ((wrap64 (9223372036854775807 - a1)) < a0) = true := decide_eq_true c4; clear c4; simp only [Option.some.injEq, Prod.mk.injEq] at H; obtain ⟨rfl, rfl⟩ := H
   go_enter Try.func70, Try.ntmps70
   go_wp2
   go_ret2
   exact ⟨by first | rfl | (simp; done) | (simp [*]; done), by repeat (first | exact Drawn0.refl _ | apply Drawn0.step)⟩
  ·rw [if_neg c4] at H
   have c4b0 : decide ((wrap64 (9223372036854775807 - a1)) < a0) = false := decide_eq_false c4; clear c4
   by_cases c5 : a1 < 0
   ·rw [if_pos c5] at H
    have c5b0 : decide (a1 < 0) = true := decide_eq_true c5; clear c5
    by_cases c6 : a0 < (wrap64 ((-9223372036854775808) - a1))
    ·rw [if_pos c6] at H
     have c6b0 : decide (a0 < (wrap64 ((-9223372036854775808) - a1))) = true := decide_eq_true c6; clear c6; simp only [Option.some.injEq, Prod.mk.injEq] at H; obtain ⟨rfl, rfl⟩ := H
     go_enter Try.func70, Try.ntmps70
     go_wp2
     go_ret2
     exact ⟨by first | rfl | (simp; done) | (simp [*]; done), by repeat (first | exact Drawn0.refl _ | apply Drawn0.step)⟩
    ·rw [if_neg c6] at H
     have c6b0 : decide (a0 < (wrap64 ((-9223372036854775808) - a1))) = false := decide_eq_false c6; clear c6; simp only [Option.some.injEq, Prod.mk.injEq] at H; obtain ⟨rfl, rfl⟩ := H
     go_enter Try.func70, Try.ntmps70
     go_wp2
     go_ret2
     exact ⟨by first | rfl | (simp; done) | (simp [*]; done), by repeat (first | exact Drawn0.refl _ | apply Drawn0.step)⟩
   ·rw [if_neg c5] at H
    have c5b0 : decide (a1 < 0) = false := decide_eq_false c5; clear c5; simp only [Option.some.injEq, Prod.mk.injEq] at H; obtain ⟨rfl, rfl⟩ := H
    go_enter Try.func70, Try.ntmps70
    go_wp2
    go_ret2
    exact ⟨by first | rfl | (simp; done) | (simp [*]; done), by repeat (first | exact Drawn0.refl _ | apply Drawn0.step)⟩
 ·rw [if_neg c3] at H
  have c3b0 : decide (0 < a1) = false := decide_eq_false c3; clear c3
  by_cases c7 : a1 < 0
  ·rw [if_pos c7] at H
   have c7b0 : decide (a1 < 0) = true := decide_eq_true c7; clear c7
   by_cases c8 : a0 < (wrap64 ((-9223372036854775808) - a1))
   ·rw [if_pos c8] at H
    have c8b0 : decide (a0 < (wrap64 ((-9223372036854775808) - a1))) = true := decide_eq_true c8; clear c8; simp only [Option.some.injEq, Prod.mk.injEq] at H; obtain ⟨rfl, rfl⟩ := H
    go_enter Try.func70, Try.ntmps70
    go_wp2
    go_ret2
    exact ⟨by first | rfl | (simp; done) | (simp [*]; done), by repeat (first | exact Drawn0.refl _ | apply Drawn0.step)⟩
   ·rw [if_neg c8] at H
    have c8b0 : decide (a0 < (wrap64 ((-9223372036854775808) - a1))) = false := decide_eq_false c8; clear c8; simp only [Option.some.injEq, Prod.mk.injEq] at H; obtain ⟨rfl, rfl⟩ := H
    go_enter Try.func70, Try.ntmps70
    go_wp2
    go_ret2
    exact ⟨by first | rfl | (simp; done) | (simp [*]; done), by repeat (first | exact Drawn0.refl _ | apply Drawn0.step)⟩
  ·rw [if_neg c7] at H
   have c7b0 : decide (a1 < 0) = false := decide_eq_false c7; clear c7; simp only [Option.some.injEq, Prod.mk.injEq] at H; obtain ⟨rfl, rfl⟩ := H
   go_enter Try.func70, Try.ntmps70
   go_wp2
   go_ret2
   exact ⟨by first | rfl | (simp; done) | (simp [*]; done), by repeat (first | exact Drawn0.refl _ | apply Drawn0.step)⟩

/-! ### sawtoothref01_Add: function 55 -/
noncomputable def sawtoothref01_Add.j0 : Nat → Int → Int → Bool → Option (Int)
 | 0, _, _, _ => none
 | k + 1, x5, x6, x18 => if x18 = true then (some (-9223372036854775808)) else (if x6 = 0 then (some x5) else (some 9223372036854775807))
noncomputable def sawtoothref01_Add.f (k : Nat) (a0 : Int) (a1 : Int) : Option (Int) := (sawtoothref01_Plus.f a0 a1).bind fun bt361 => (if bt361.2 = 0 then (sawtoothref01_Add.j0 k bt361.1 bt361.2 false) else (sawtoothref01_Add.j0 k bt361.1 bt361.2 (decide (a0 < 0))))
theorem sawtoothref01_Add.mono_l : ∀ k, (∀ y0 y1 y2, LeO (sawtoothref01_Add.j0 k y0 y1 y2) (sawtoothref01_Add.j0 (k + 1) y0 y1 y2))
 | 0 => fun _ _ _ r h => by simp [sawtoothref01_Add.j0] at h
 | k + 1 => by
  have ih0 := sawtoothref01_Add.mono_l k
  ·intro y0 y1 y2
   unfold sawtoothref01_Add.j0
   repeat' first
   | (with_reducible exact ih0 _ _ _)
   | (with_reducible exact LeO.refl _)
   | (with_reducible exact LeO.none _)
   | (with_reducible refine LeO.ite ?_ ?_)
   | (with_reducible refine LeO.bind ?_ (fun _ => ?_))
   | exact ih0 _ _ _
   | exact LeO.none _
   | refine LeO.ite ?_ ?_
   | refine LeO.bind ?_ (fun _ => ?_)
theorem sawtoothref01_Add.mono : ∀ a0 a1 k, LeO (sawtoothref01_Add.f k a0 a1) (sawtoothref01_Add.f (k + 1) a0 a1) := by
 intro a0 a1 k; have ih0 := sawtoothref01_Add.mono_l k
 unfold sawtoothref01_Add.f
 repeat' first
   | (with_reducible exact ih0 _ _ _)
   | (with_reducible exact LeO.refl _)
   | (with_reducible exact LeO.none _)
   | (with_reducible refine LeO.ite ?_ ?_)
   | (with_reducible refine LeO.bind ?_ (fun _ => ?_))
   | exact ih0 _ _ _
   | exact LeO.none _
   | refine LeO.ite ?_ ?_
   | refine LeO.bind ?_ (fun _ => ?_)
set_option maxHeartbeats 8000000 in
set_option maxRecDepth 100000 in
theorem sawtoothref01_Add.calls (k : Nat) (a0 : Int) (a1 : Int) (r : Int) (w : World) (h : sawtoothref01_Add.f k a0 a1 = some r) :
  Calls Try.prog 55 #[.int .i64 a0, .int .i64 a1] w fun e w' => e = .returned (.int .i64 r) ∧ Drawn0 w w' := by
 have H : ((sawtoothref01_Plus.f a0 a1).bind fun bt361 => (if bt361.2 = 0 then (sawtoothref01_Add.j0 k bt361.1 bt361.2 false) else (sawtoothref01_Add.j0 k bt361.1 bt361.2 (decide (a0 < 0))))) = some r := h; clear h; replace H := Option.bind_eq_some_iff.mp H; obtain ⟨⟨t361, t362⟩, A30, H⟩ := H; replace H : (if t362 = 0 then (sawtoothref01_Add.j0 k t361 t362 false) else (sawtoothref01_Add.j0 k t361 t362 (decide (a0 < 0)))) = some r := H; have A3 := Aside0.mk A30; clear A30; have HC4 := Aside0.mk H; clear H
 go_enter Try.func55, Try.ntmps55
 go_upto_region 2 with (first | ((with_reducible refine gate_callee (f := 70) rfl ?_); refine goesLA_ (some 10) rfl rfl Try.func70 rfl #[.int .i64 a0, .int .i64 a1] rfl ?_; (with_reducible refine (sawtoothref01_Plus.calls a0 a1 t361 t362 _ A3.out).mono ?_); rintro e w' ⟨rfl, ⟨nd, rfl⟩⟩; refine ⟨_, rfl, ?_⟩))
 (try simp only [Act.put, sA, sB, sC])
 go_cut [18] (fun v18 wc => ∃ (kq : Nat) (x18_3 : Bool), v18 = .bool x18_3 ∧ Aside0 (sawtoothref01_Add.j0 kq t361 t362 x18_3 = some r) ∧ Aside0 (kq ≤ k) ∧ Drawn0 w wc)
 case first =>
  have H := HC4.out; clear HC4
  by_cases c5 : t362 = 0
  ·rw [if_pos c5] at H
   have c5b0 : (t362 == 0) = true := beq_iff_eq.mpr c5; have c5b1 : (t362 != 0) = false := bne_eq_false_iff_eq.mpr c5; clear c5
   (first | rw [c5b0] | (simp only [i64_w, i32_w]; rw [c5b0]) | skip)
   have H' := Aside0.mk H; clear H
   go_wp2
   go_meet
   case rel => exact ⟨_, (false), (by first | rfl | (simp; done) | (simp [*]; done)), H', ⟨by first | omega | exact Nat.le_refl _⟩, by repeat (first | exact Drawn0.refl _ | apply Drawn0.step)⟩
  ·rw [if_neg c5] at H
   have c5b0 : (t362 == 0) = false := beq_eq_false_iff_ne.mpr c5; have c5b1 : (t362 != 0) = true := bne_iff_ne.mpr c5
   (first | rw [c5b0] | (simp only [i64_w, i32_w]; rw [c5b0]) | skip)
   have H' := Aside0.mk H; clear H
   go_wp2
   go_meet
   case rel => exact ⟨_, (decide (a0 < 0)), (by first | rfl | (simp; done) | (simp [*]; done)), H', ⟨by first | omega | exact Nat.le_refl _⟩, by repeat (first | exact Drawn0.refl _ | apply Drawn0.step)⟩
 case rest =>
  clear HC4
  try clear p2
  try clear c5
  try clear c5b0
  try clear c5b1
  obtain ⟨kq, x18_3, rfl, HA, HJ3, ⟨mc3, rfl⟩⟩ := hcut
  cases kq with
  | zero => exact absurd HA.out (by simp [sawtoothref01_Add.j0])
  | succ kj3 =>
   have H := HA.out; clear HA; simp only [sawtoothref01_Add.j0] at H
   by_cases c6 : x18_3 = true
   ·subst c6
    have H1 : (some (-9223372036854775808)) = some r := by rw [if_pos rfl] at H; exact H
    clear H; have H := H1; clear H1; obtain rfl := Option.some.inj H
    go_wp2
    go_ret
    exact ⟨by first | rfl | (simp; done) | (simp [*]; done), by repeat (first | exact Drawn0.refl _ | apply Drawn0.step)⟩
   ·replace c6 := Bool.eq_false_iff.mpr c6
    subst c6
    have H1 : (if t362 = 0 then (some t361) else (some 9223372036854775807)) = some r := by rw [if_neg (show ¬ (false = true) by decide)] at H; exact H
    clear H; have H := H1; clear H1
    by_cases c7 : t362 = 0
    ·rw [if_pos c7] at H
     have c7b0 : (t362 == 0) = true := beq_iff_eq.mpr c7; have c7b1 : (t362 != 0) = false := bne_eq_false_iff_eq.mpr c7; clear c7; obtain rfl := Option.some.inj H
     go_wp2
     go_ret
     exact ⟨by first | rfl | (simp; done) | (simp [*]; done), by repeat (first | exact Drawn0.refl _ | apply Drawn0.step)⟩
    ·rw [if_neg c7] at H
     have c7b0 : (t362 == 0) = false := beq_eq_false_iff_ne.mpr c7; have c7b1 : (t362 != 0) = true := bne_iff_ne.mpr c7; obtain rfl := Option.some.inj H
     go_wp2
     go_ret
     exact ⟨by first | rfl | (simp; done) | (simp [*]; done), by repeat (first | exact Drawn0.refl _ | apply Drawn0.step)⟩

/-! ### sawtoothref14_Calm: function 28 -/
noncomputable def sawtoothref14_Calm.f (k : Nat) (a0 : Int) (a1 : Int) (a2 : Int) : Option (Int) := (sawtoothref14_Given.f a0).bind fun t363 => (if a1 ≤ t363 then (some t363) else ((sawtoothref14_told.f a2).bind fun t364 => ((sawtoothref02_MulS.f t364 (wrap64 (a1 - t363))).bind fun bt365 => ((sawtoothref02_DivS.f bt365.1 bt365.2.1 bt365.2.2 (IntKind.u64.wrap (t363))).bind fun bt368 => ((sawtoothref02_IntS.f bt368.1 bt368.2.1 bt368.2.2.1).bind fun t374 => ((sawtoothref01_Add.f k t363 t374).bind fun t375 => (if t375 > a1 then ((sawtoothref14_Given.f a1).bind fun t376 => (some t376)) else ((sawtoothref14_Given.f t375).bind fun t377 => (some t377)))))))))
theorem sawtoothref14_Calm.mono : ∀ a0 a1 a2 k, LeO (sawtoothref14_Calm.f k a0 a1 a2) (sawtoothref14_Calm.f (k + 1) a0 a1 a2) := by
 intro a0 a1 a2 k
 unfold sawtoothref14_Calm.f
 repeat' first
   | (with_reducible exact sawtoothref01_Add.mono _ _ _)
   | (with_reducible exact LeO.refl _)
   | (with_reducible exact LeO.none _)
   | (with_reducible refine LeO.ite ?_ ?_)
   | (with_reducible refine LeO.bind ?_ (fun _ => ?_))
   | exact sawtoothref01_Add.mono _ _ _
   | exact LeO.none _
   | refine LeO.ite ?_ ?_
   | refine LeO.bind ?_ (fun _ => ?_)
set_option maxHeartbeats 8000000 in
set_option maxRecDepth 100000 in
theorem sawtoothref14_Calm.calls (k : Nat) (a0 : Int) (a1 : Int) (a2 : Int) (r : Int) (w : World) (h : sawtoothref14_Calm.f k a0 a1 a2 = some r) :
  Calls Try.prog 28 #[.int .i64 a0, .int .i64 a1, .int .i64 a2] w fun e w' => e = .returned (.int .i64 r) ∧ Below w.heap.size w w' := by
 have hu35 := Try.underlying35; have HB := Aside0.mk (Below.refl w.heap.size w); have H : ((sawtoothref14_Given.f a0).bind fun t363 => (if a1 ≤ t363 then (some t363) else ((sawtoothref14_told.f a2).bind fun t364 => ((sawtoothref02_MulS.f t364 (wrap64 (a1 - t363))).bind fun bt365 => ((sawtoothref02_DivS.f bt365.1 bt365.2.1 bt365.2.2 (IntKind.u64.wrap (t363))).bind fun bt368 => ((sawtoothref02_IntS.f bt368.1 bt368.2.1 bt368.2.2.1).bind fun t374 => ((sawtoothref01_Add.f k t363 t374).bind fun t375 => (if t375 > a1 then ((sawtoothref14_Given.f a1).bind fun t376 => (some t376)) else ((sawtoothref14_Given.f t375).bind fun t377 => (some t377)))))))))) = some r := h; clear h; replace H := Option.bind_eq_some_iff.mp H; obtain ⟨t363, A40, H⟩ := H; (try dsimp only at H); have A4 := Aside0.mk A40; clear A40
 by_cases c5 : a1 ≤ t363
 ·rw [if_pos c5] at H
  have c5b0 : decide (a1 ≤ t363) = true := decide_eq_true c5; clear c5; obtain rfl := Option.some.inj H
  go_enter Try.func28, Try.ntmps28
  go_wp2_with (first | ((with_reducible refine gate_callee (f := 53) rfl ?_); refine goesLA_ (some 13) rfl rfl Try.func53 rfl #[.int .i64 a0] rfl ?_; (with_reducible refine (sawtoothref14_Given.calls a0 t363 _ A4.out).mono ?_); rintro e w' ⟨rfl, ⟨nd, rfl⟩⟩; refine ⟨_, rfl, ?_⟩))
  go_ret
  exact ⟨by first | rfl | (simp [errW_none, errW_some] <;> rfl) | (simp [*, errW_none, errW_some] <;> rfl), by repeat (first | (with_reducible first | exact HB.out | apply below_alloc | apply pw_below_drewN | apply below_drew1) | exact HB.out)⟩
 ·rw [if_neg c5] at H
  have c5b0 : decide (a1 ≤ t363) = false := decide_eq_false c5; clear c5; replace H := Option.bind_eq_some_iff.mp H; obtain ⟨t364, A60, H⟩ := H; (try dsimp only at H); have A6 := Aside0.mk A60; clear A60; replace H := Option.bind_eq_some_iff.mp H; obtain ⟨⟨t365, t366, t367⟩, A70, H⟩ := H; (try dsimp only at H); have A7 := Aside0.mk A70; clear A70; replace H := Option.bind_eq_some_iff.mp H; obtain ⟨⟨t368, t369, t370, t371, t372⟩, A80, H⟩ := H; (try dsimp only at H); have A8 := Aside0.mk A80; clear A80; replace H := Option.bind_eq_some_iff.mp H; obtain ⟨t374, A90, H⟩ := H; (try dsimp only at H); have A9 := Aside0.mk A90; clear A90; replace H := Option.bind_eq_some_iff.mp H; obtain ⟨t375, A100, H⟩ := H; replace H : (if t375 > a1 then ((sawtoothref14_Given.f a1).bind fun t376 => (some t376)) else ((sawtoothref14_Given.f t375).bind fun t377 => (some t377))) = some r := H; have A10 := Aside0.mk A100; clear A100
  by_cases c11 : t375 > a1
  ·rw [if_pos c11] at H
   have c11b0 : decide (a1 < t375) = true := decide_eq_true c11; clear c11; replace H := Option.bind_eq_some_iff.mp H; obtain ⟨t376, A120, H⟩ := H; replace H : (some t376) = some r := H; have A12 := Aside0.mk A120; clear A120; obtain rfl := Option.some.inj H
   go_enter Try.func28, Try.ntmps28
   go_wp2_with (first | ((with_reducible refine gate_callee (f := 53) rfl ?_); refine goesLA_ (some 13) rfl rfl Try.func53 rfl #[.int .i64 a0] rfl ?_; (with_reducible refine (sawtoothref14_Given.calls a0 t363 _ A4.out).mono ?_); rintro e w' ⟨rfl, ⟨nd, rfl⟩⟩; refine ⟨_, rfl, ?_⟩) | ((with_reducible refine gate_callee (f := 52) rfl ?_); refine goesLA_ (some 20) rfl rfl Try.func52 rfl #[.int .i64 a2] rfl ?_; (with_reducible refine (sawtoothref14_told.calls a2 t364 _ A6.out).mono ?_); rintro e w' ⟨rfl, ⟨nd, rfl⟩⟩; refine ⟨_, rfl, ?_⟩) | ((with_reducible refine gate_callee (f := 22) rfl ?_); refine goesLA_ (some 24) rfl rfl Try.func22 rfl #[.int .i64 t364, .int .i64 (wrap64 (a1 - t363))] rfl ?_; (with_reducible refine (sawtoothref02_MulS.calls t364 (wrap64 (a1 - t363)) t365 t366 t367 _ A7.out).mono ?_); rintro e w13 ⟨rfl, hb⟩; refine ⟨_, rfl, ?_⟩; replace HB := stA hb; clear hb) | ((with_reducible refine gate_callee (f := 40) rfl ?_); refine goesLA_ (some 27) rfl rfl Try.func40 rfl #[.agg #[.bool t365, .int .u64 t366, .int .u64 t367], .int .u64 (IntKind.u64.wrap (t363))] rfl ?_; (with_reducible refine (sawtoothref02_DivS.calls t365 t366 t367 (IntKind.u64.wrap (t363)) t368 t369 t370 t371 t372 _ A8.out).mono ?_); rintro e w14 ⟨rfl, hb⟩; refine ⟨_, rfl, ?_⟩; replace HB := stA hb; clear hb) | ((with_reducible refine gate_dst (N := 8) rfl ?_); refine box_event ?hg (N := 8) ?hd (cs := #[.bool false, .int .u64 0, .int .u64 0]) (t := 35) ?hr ?_; (case hd => rfl); (case hg => rfl); (case hr => first | (go_simp; done) | (go_simp; rfl)); intro gb373 hg w15 hbox hb; have BK373 := Aside0.mk (hbox); obtain ⟨GW373, nHB⟩ := geA hg hb; have GE373 := GW373; replace HB := nHB; clear nHB; clear hb hbox hg; have hcz16_0 := czZ BK373 0 (.bool false); have hcz16_1 := czZ BK373 1 (.int .u64 0); have hcz16_2 := czZ BK373 2 (.int .u64 0); have hfz16_0 := blk_frozen BK373.out 0; have hfz16_1 := blk_frozen BK373.out 1; have hfz16_2 := blk_frozen BK373.out 2) | ((with_reducible refine gate_callee (f := 41) rfl ?_); refine goesLA_ (some 33) rfl rfl Try.func41 rfl #[.agg #[.bool t368, .int .u64 t369, .int .u64 t370]] rfl ?_; (with_reducible refine (sawtoothref02_IntS.calls t368 t369 t370 t374 _ A9.out).mono ?_); rintro e w17 ⟨rfl, hb⟩; refine ⟨_, rfl, ?_⟩; replace BK373 := Aside0.mk (blk_below (g := gb373) (o := .cells #[.bool t368, .int .u64 t369, .int .u64 t370] 35 (0, 0)) (by (with_reducible repeat first | apply blk_drewN | apply blk_drew | apply blk_alloc); refine blk_put (cs := #[.bool t368, .int .u64 t369, .int .u64 0]) ?_ 2 _ rfl; (with_reducible repeat first | apply blk_drewN | apply blk_drew | apply blk_alloc); refine blk_put (cs := #[.bool t368, .int .u64 0, .int .u64 0]) ?_ 1 _ rfl; (with_reducible repeat first | apply blk_drewN | apply blk_drew | apply blk_alloc); refine blk_put (cs := #[.bool false, .int .u64 0, .int .u64 0]) ?_ 0 _ rfl; (with_reducible repeat first | apply blk_drewN | apply blk_drew | apply blk_alloc); exact BK373.out) hb); replace HB := stA hb; clear hb) | ((with_reducible refine gate_callee (f := 55) rfl ?_); refine goesLA_ (some 34) rfl rfl Try.func55 rfl #[.int .i64 t363, .int .i64 t374] rfl ?_; (with_reducible refine (sawtoothref01_Add.calls k t363 t374 t375 _ A10.out).mono ?_); rintro e w' ⟨rfl, ⟨nd, rfl⟩⟩; refine ⟨_, rfl, ?_⟩) | ((with_reducible refine gate_callee (f := 53) rfl ?_); refine goesLA_ (some 40) rfl rfl Try.func53 rfl #[.int .i64 a1] rfl ?_; (with_reducible refine (sawtoothref14_Given.calls a1 t376 _ A12.out).mono ?_); rintro e w' ⟨rfl, ⟨nd, rfl⟩⟩; refine ⟨_, rfl, ?_⟩))
   go_ret
   exact ⟨by first | rfl | (simp [errW_none, errW_some] <;> rfl) | (simp [*, errW_none, errW_some] <;> rfl), by repeat (first | (with_reducible first | exact HB.out | apply below_alloc | apply pw_below_drewN | apply below_drew1 | refine below_set ?_ GE373.out) | exact HB.out)⟩
  ·rw [if_neg c11] at H
   have c11b0 : decide (a1 < t375) = false := decide_eq_false c11; clear c11; replace H := Option.bind_eq_some_iff.mp H; obtain ⟨t377, A180, H⟩ := H; replace H : (some t377) = some r := H; have A18 := Aside0.mk A180; clear A180; obtain rfl := Option.some.inj H
   go_enter Try.func28, Try.ntmps28
   go_wp2_with (first | ((with_reducible refine gate_callee (f := 53) rfl ?_); refine goesLA_ (some 13) rfl rfl Try.func53 rfl #[.int .i64 a0] rfl ?_; (with_reducible refine (sawtoothref14_Given.calls a0 t363 _ A4.out).mono ?_); rintro e w' ⟨rfl, ⟨nd, rfl⟩⟩; refine ⟨_, rfl, ?_⟩) | ((with_reducible refine gate_callee (f := 52) rfl ?_); refine goesLA_ (some 20) rfl rfl Try.func52 rfl #[.int .i64 a2] rfl ?_; (with_reducible refine (sawtoothref14_told.calls a2 t364 _ A6.out).mono ?_); rintro e w' ⟨rfl, ⟨nd, rfl⟩⟩; refine ⟨_, rfl, ?_⟩) | ((with_reducible refine gate_callee (f := 22) rfl ?_); refine goesLA_ (some 24) rfl rfl Try.func22 rfl #[.int .i64 t364, .int .i64 (wrap64 (a1 - t363))] rfl ?_; (with_reducible refine (sawtoothref02_MulS.calls t364 (wrap64 (a1 - t363)) t365 t366 t367 _ A7.out).mono ?_); rintro e w19 ⟨rfl, hb⟩; refine ⟨_, rfl, ?_⟩; replace HB := stA hb; clear hb) | ((with_reducible refine gate_callee (f := 40) rfl ?_); refine goesLA_ (some 27) rfl rfl Try.func40 rfl #[.agg #[.bool t365, .int .u64 t366, .int .u64 t367], .int .u64 (IntKind.u64.wrap (t363))] rfl ?_; (with_reducible refine (sawtoothref02_DivS.calls t365 t366 t367 (IntKind.u64.wrap (t363)) t368 t369 t370 t371 t372 _ A8.out).mono ?_); rintro e w20 ⟨rfl, hb⟩; refine ⟨_, rfl, ?_⟩; replace HB := stA hb; clear hb) | ((with_reducible refine gate_dst (N := 8) rfl ?_); refine box_event ?hg (N := 8) ?hd (cs := #[.bool false, .int .u64 0, .int .u64 0]) (t := 35) ?hr ?_; (case hd => rfl); (case hg => rfl); (case hr => first | (go_simp; done) | (go_simp; rfl)); intro gb373 hg w21 hbox hb; have BK373 := Aside0.mk (hbox); obtain ⟨GW373, nHB⟩ := geA hg hb; have GE373 := GW373; replace HB := nHB; clear nHB; clear hb hbox hg; have hcz22_0 := czZ BK373 0 (.bool false); have hcz22_1 := czZ BK373 1 (.int .u64 0); have hcz22_2 := czZ BK373 2 (.int .u64 0); have hfz22_0 := blk_frozen BK373.out 0; have hfz22_1 := blk_frozen BK373.out 1; have hfz22_2 := blk_frozen BK373.out 2) | ((with_reducible refine gate_callee (f := 41) rfl ?_); refine goesLA_ (some 33) rfl rfl Try.func41 rfl #[.agg #[.bool t368, .int .u64 t369, .int .u64 t370]] rfl ?_; (with_reducible refine (sawtoothref02_IntS.calls t368 t369 t370 t374 _ A9.out).mono ?_); rintro e w23 ⟨rfl, hb⟩; refine ⟨_, rfl, ?_⟩; replace BK373 := Aside0.mk (blk_below (g := gb373) (o := .cells #[.bool t368, .int .u64 t369, .int .u64 t370] 35 (0, 0)) (by (with_reducible repeat first | apply blk_drewN | apply blk_drew | apply blk_alloc); refine blk_put (cs := #[.bool t368, .int .u64 t369, .int .u64 0]) ?_ 2 _ rfl; (with_reducible repeat first | apply blk_drewN | apply blk_drew | apply blk_alloc); refine blk_put (cs := #[.bool t368, .int .u64 0, .int .u64 0]) ?_ 1 _ rfl; (with_reducible repeat first | apply blk_drewN | apply blk_drew | apply blk_alloc); refine blk_put (cs := #[.bool false, .int .u64 0, .int .u64 0]) ?_ 0 _ rfl; (with_reducible repeat first | apply blk_drewN | apply blk_drew | apply blk_alloc); exact BK373.out) hb); replace HB := stA hb; clear hb) | ((with_reducible refine gate_callee (f := 55) rfl ?_); refine goesLA_ (some 34) rfl rfl Try.func55 rfl #[.int .i64 t363, .int .i64 t374] rfl ?_; (with_reducible refine (sawtoothref01_Add.calls k t363 t374 t375 _ A10.out).mono ?_); rintro e w' ⟨rfl, ⟨nd, rfl⟩⟩; refine ⟨_, rfl, ?_⟩) | ((with_reducible refine gate_callee (f := 53) rfl ?_); refine goesLA_ (some 40) rfl rfl Try.func53 rfl #[.int .i64 t375] rfl ?_; (with_reducible refine (sawtoothref14_Given.calls t375 t377 _ A18.out).mono ?_); rintro e w' ⟨rfl, ⟨nd, rfl⟩⟩; refine ⟨_, rfl, ?_⟩))
   go_ret
   exact ⟨by first | rfl | (simp [errW_none, errW_some] <;> rfl) | (simp [*, errW_none, errW_some] <;> rfl), by repeat (first | (with_reducible first | exact HB.out | apply below_alloc | apply pw_below_drewN | apply below_drew1 | refine below_set ?_ GE373.out) | exact HB.out)⟩

/-! ### sawtoothref14_Both: function 30 -/
noncomputable def sawtoothref14_Both.f (k : Nat) (a0 : Int) (a1 : Int) (a2 : Int) (a3 : Int) : Option (Int) := (sawtoothref14_Calm.f k a0 a1 a3).bind fun t378 => ((sawtoothref14_Given.f (mx t378 a2)).bind fun t379 => (some t379))
theorem sawtoothref14_Both.mono : ∀ a0 a1 a2 a3 k, LeO (sawtoothref14_Both.f k a0 a1 a2 a3) (sawtoothref14_Both.f (k + 1) a0 a1 a2 a3) := by
 intro a0 a1 a2 a3 k
 unfold sawtoothref14_Both.f
 repeat' first
   | (with_reducible exact sawtoothref14_Calm.mono _ _ _ _)
   | (with_reducible exact LeO.refl _)
   | (with_reducible exact LeO.none _)
   | (with_reducible refine LeO.ite ?_ ?_)
   | (with_reducible refine LeO.bind ?_ (fun _ => ?_))
   | exact sawtoothref14_Calm.mono _ _ _ _
   | exact LeO.none _
   | refine LeO.ite ?_ ?_
   | refine LeO.bind ?_ (fun _ => ?_)
set_option maxHeartbeats 8000000 in
set_option maxRecDepth 100000 in
theorem sawtoothref14_Both.calls (k : Nat) (a0 : Int) (a1 : Int) (a2 : Int) (a3 : Int) (r : Int) (w : World) (h : sawtoothref14_Both.f k a0 a1 a2 a3 = some r) :
  Calls Try.prog 30 #[.int .i64 a0, .int .i64 a1, .int .i64 a2, .int .i64 a3] w fun e w' => e = .returned (.int .i64 r) ∧ Below w.heap.size w w' := by
 have HB := Aside0.mk (Below.refl w.heap.size w); have H : ((sawtoothref14_Calm.f k a0 a1 a3).bind fun t378 => ((sawtoothref14_Given.f (mx t378 a2)).bind fun t379 => (some t379))) = some r := h; clear h; replace H := Option.bind_eq_some_iff.mp H; obtain ⟨t378, A50, H⟩ := H; replace H : ((sawtoothref14_Given.f (mx t378 a2)).bind fun t379 => (some t379)) = some r := H; have A5 := Aside0.mk A50; clear A50
 obtain ⟨ji6, hji6⟩ : ∃ j_ : Int, (mx t378 a2) = j_ := ⟨_, rfl⟩
 replace H : ((sawtoothref14_Given.f (ji6)).bind fun t379 => (some t379)) = some r := by first | (rw [hji6] at H; exact H) | (simp only [hji6] at H ⊢; exact H)
 (try rw [hji6] at A5)
 have hji6_ : (if t378 < a2 then a2 else t378) = ji6 := hji6; replace H := Option.bind_eq_some_iff.mp H; obtain ⟨t379, A70, H⟩ := H; replace H : (some t379) = some r := H; have A7 := Aside0.mk A70; clear A70; obtain rfl := Option.some.inj H
 go_enter Try.func30, Try.ntmps30
 go_wp2_with (first | ((with_reducible refine gate_callee (f := 28) rfl ?_); refine goesLA_ (some 12) rfl rfl Try.func28 rfl #[.int .i64 a0, .int .i64 a1, .int .i64 a3] rfl ?_; (with_reducible refine (sawtoothref14_Calm.calls k a0 a1 a3 t378 _ A5.out).mono ?_); rintro e w8 ⟨rfl, hb⟩; refine ⟨_, rfl, ?_⟩; replace HB := stA hb; clear hb) | ((with_reducible refine gate_callee (f := 53) rfl ?_); refine goesL_ (some 15) rfl rfl Try.func53 (by kernel_rfl) rfl #[.int .i64 ji6] rfl (by (try simp only [List.map_toArray, List.map_cons, List.map_nil]); first | done | (simp only [hji6]; rfl) | rfl | (simp only [List.length_drop, List.length_take]; rfl)) ?_; (with_reducible refine (sawtoothref14_Given.calls ji6 t379 _ A7.out).mono ?_); rintro e w' ⟨rfl, ⟨nd, rfl⟩⟩; refine ⟨_, rfl, ?_⟩))
 go_ret
 exact ⟨by first | rfl | (simp [errW_none, errW_some] <;> rfl) | (simp only [← hji6]; first | rfl | (simp [errW_none, errW_some] <;> rfl)) | (simp [*, errW_none, errW_some] <;> rfl), by repeat (first | (with_reducible first | exact HB.out | apply below_alloc | apply pw_below_drewN | apply below_drew1) | exact HB.out)⟩

/-! ### sawtoothref14_Limit: function 32 -/
noncomputable def sawtoothref14_Limit.f (a0 : Int) (a1 : Int) : Option (Int) := (sawtoothref14_Given.f a0).bind fun t380 => ((sawtoothref14_Given.f a1).bind fun t381 => (some (mn t380 t381)))
set_option maxHeartbeats 8000000 in
set_option maxRecDepth 100000 in
theorem sawtoothref14_Limit.calls (a0 : Int) (a1 : Int) (r : Int) (w : World) (h : sawtoothref14_Limit.f a0 a1 = some r) :
  Calls Try.prog 32 #[.int .i64 a0, .int .i64 a1] w fun e w' => e = .returned (.int .i64 r) ∧ Below w.heap.size w w' := by
 have HB := Aside0.mk (Below.refl w.heap.size w); have H : ((sawtoothref14_Given.f a0).bind fun t380 => ((sawtoothref14_Given.f a1).bind fun t381 => (some (mn t380 t381)))) = some r := h; clear h; replace H := Option.bind_eq_some_iff.mp H; obtain ⟨t380, A30, H⟩ := H; replace H : ((sawtoothref14_Given.f a1).bind fun t381 => (some (mn t380 t381))) = some r := H; have A3 := Aside0.mk A30; clear A30; replace H := Option.bind_eq_some_iff.mp H; obtain ⟨t381, A40, H⟩ := H; replace H : (some (mn t380 t381)) = some r := H; have A4 := Aside0.mk A40; clear A40
 obtain ⟨ji5, hji5⟩ : ∃ j_ : Int, (mn t380 t381) = j_ := ⟨_, rfl⟩
 replace H : (some ji5) = some r := by first | (rw [hji5] at H; exact H) | (simp only [hji5] at H ⊢; exact H)
 (try rw [hji5] at A3)
 (try rw [hji5] at A4)
 have hji5_ : (if t381 < t380 then t381 else t380) = ji5 := hji5; obtain rfl := Option.some.inj H
 go_enter Try.func32, Try.ntmps32
 go_wp2_with (first | ((with_reducible refine gate_callee (f := 53) rfl ?_); refine goesLA_ (some 6) rfl rfl Try.func53 rfl #[.int .i64 a0] rfl ?_; (with_reducible refine (sawtoothref14_Given.calls a0 t380 _ A3.out).mono ?_); rintro e w' ⟨rfl, ⟨nd, rfl⟩⟩; refine ⟨_, rfl, ?_⟩) | ((with_reducible refine gate_callee (f := 53) rfl ?_); refine goesLA_ (some 8) rfl rfl Try.func53 rfl #[.int .i64 a1] rfl ?_; (with_reducible refine (sawtoothref14_Given.calls a1 t381 _ A4.out).mono ?_); rintro e w' ⟨rfl, ⟨nd, rfl⟩⟩; refine ⟨_, rfl, ?_⟩))
 go_ret
 exact ⟨by first | rfl | (simp [errW_none, errW_some] <;> rfl) | (simp only [← hji5]; first | rfl | (simp [errW_none, errW_some] <;> rfl)) | (simp [*, errW_none, errW_some] <;> rfl), by repeat (first | (with_reducible first | exact HB.out | apply below_alloc | apply pw_below_drewN | apply below_drew1) | exact HB.out)⟩

end Go.Proofs.Ytghpecgpdhaibaa.Px
