/- Printed by a program of this session (wip/tool/px.py), over the kit's print: for each Go function a Lean function, and the proof that the machine's call answers as that function says. Conditions: none beside what the theorems state. -/
import Derived.Test.YtghpecgpdhaibaaPx0
import Derived.Test.YtghpecgpdhaibaaPx28
import Derived.Test.YtghpecgpdhaibaaPx31
import Derived.Test.YtghpecgpdhaibaaSpec
namespace Go.Proofs.Ytghpecgpdhaibaa.Px
open Go.RowKit Go.Proofs.YtghpecgpdhaibaaW.PrintWords Go.Proofs.YtghpecgpdhaibaaW.PrintLast Go.Proofs.YtghpecgpdhaibaaW.PrintMore
attribute [local go_sem] max2_int min2_int max_two min_two max_three min_three max_four min_four   -- for this text's walks alone
set_option linter.unusedVariables false
set_option linter.unusedSimpArgs false

/-! ### sawtoothref02_below: function 49 -/
noncomputable def sawtoothref02_below.f (a0_0 : Bool) (a0_1 : Int) (a0_2 : Int) : Option (Bool) := if a0_0 = true then (if a0_1 > 0 then (some true) else (some (decide (a0_2 > 0)))) else (some false)
set_option maxHeartbeats 8000000 in
set_option maxRecDepth 100000 in
theorem sawtoothref02_below.calls (a0_0 : Bool) (a0_1 : Int) (a0_2 : Int) (r : Bool) (w : World) (h : sawtoothref02_below.f a0_0 a0_1 a0_2 = some r) :
  Calls Try.prog 49 #[.agg #[.bool a0_0, .int .u64 a0_1, .int .u64 a0_2]] w fun e w' => e = .returned (.bool r) ∧ Below w.heap.size w w' := by
 have hu35 := Try.underlying35; have HB := Aside0.mk (Below.refl w.heap.size w); have H : (if a0_0 = true then (if a0_1 > 0 then (some true) else (some (decide (a0_2 > 0)))) else (some false)) = some r := h; clear h
 by_cases c2 : a0_0 = true
 ·subst c2
  have H1 : (if a0_1 > 0 then (some true) else (some (decide (a0_2 > 0)))) = some r := by rw [if_pos rfl] at H; exact H
  clear H; have H := H1; clear H1
  by_cases c3 : a0_1 > 0
  ·rw [if_pos c3] at H
   have c3b0 : decide (0 < a0_1) = true := decide_eq_true c3; clear c3; obtain rfl := Option.some.inj H
   go_enter Try.func49, Try.ntmps49
   go_wp2_with (first | ((with_reducible refine gate_dst (N := 1) rfl ?_); refine box_event ?hg (N := 1) ?hd (cs := #[.bool true, .int .u64 a0_1, .int .u64 a0_2]) (t := 35) ?hr ?_; (case hd => rfl); (case hg => rfl); (case hr => first | (go_simp; done) | (go_simp; rfl)); intro gb378 hg w4 hbox hb; have BK378 := Aside0.mk (hbox); obtain ⟨GW378, nHB⟩ := geA hg hb; have GE378 := GW378; replace HB := nHB; clear nHB; clear hb hbox hg; have hcz5_0 := czZ BK378 0 (.bool true); have hcz5_1 := czZ BK378 1 (.int .u64 a0_1); have hcz5_2 := czZ BK378 2 (.int .u64 a0_2); have hfz5_0 := blk_frozen BK378.out 0; have hfz5_1 := blk_frozen BK378.out 1; have hfz5_2 := blk_frozen BK378.out 2))
   go_ret
   exact ⟨by first | rfl | (simp [errW_none, errW_some] <;> rfl) | (simp [*, errW_none, errW_some] <;> rfl), by repeat (first | (with_reducible first | exact HB.out | apply below_alloc | apply pw_below_drewN | apply below_drew1 | refine below_set ?_ GE378.out) | exact HB.out)⟩
  ·rw [if_neg c3] at H
   have c3b0 : decide (0 < a0_1) = false := decide_eq_false c3; clear c3; obtain rfl := Option.some.inj H
   go_enter Try.func49, Try.ntmps49
   go_wp2_with (first | ((with_reducible refine gate_dst (N := 1) rfl ?_); refine box_event ?hg (N := 1) ?hd (cs := #[.bool true, .int .u64 a0_1, .int .u64 a0_2]) (t := 35) ?hr ?_; (case hd => rfl); (case hg => rfl); (case hr => first | (go_simp; done) | (go_simp; rfl)); intro gb378 hg w6 hbox hb; have BK378 := Aside0.mk (hbox); obtain ⟨GW378, nHB⟩ := geA hg hb; have GE378 := GW378; replace HB := nHB; clear nHB; clear hb hbox hg; have hcz7_0 := czZ BK378 0 (.bool true); have hcz7_1 := czZ BK378 1 (.int .u64 a0_1); have hcz7_2 := czZ BK378 2 (.int .u64 a0_2); have hfz7_0 := blk_frozen BK378.out 0; have hfz7_1 := blk_frozen BK378.out 1; have hfz7_2 := blk_frozen BK378.out 2))
   go_ret
   exact ⟨by first | rfl | (simp [errW_none, errW_some] <;> rfl) | (simp [*, errW_none, errW_some] <;> rfl), by repeat (first | (with_reducible first | exact HB.out | apply below_alloc | apply pw_below_drewN | apply below_drew1 | refine below_set ?_ GE378.out) | exact HB.out)⟩
 ·replace c2 := Bool.eq_false_iff.mpr c2
  subst c2
  have H1 : (some false) = some r := by rw [if_neg (show ¬ (false = true) by decide)] at H; exact H
  clear H; have H := H1; clear H1; obtain rfl := Option.some.inj H
  go_enter Try.func49, Try.ntmps49
  go_wp2_with (first | ((with_reducible refine gate_dst (N := 1) rfl ?_); refine box_event ?hg (N := 1) ?hd (cs := #[.bool false, .int .u64 a0_1, .int .u64 a0_2]) (t := 35) ?hr ?_; (case hd => rfl); (case hg => rfl); (case hr => first | (go_simp; done) | (go_simp; rfl)); intro gb378 hg w8 hbox hb; have BK378 := Aside0.mk (hbox); obtain ⟨GW378, nHB⟩ := geA hg hb; have GE378 := GW378; replace HB := nHB; clear nHB; clear hb hbox hg; have hcz9_0 := czZ BK378 0 (.bool false); have hcz9_1 := czZ BK378 1 (.int .u64 a0_1); have hcz9_2 := czZ BK378 2 (.int .u64 a0_2); have hfz9_0 := blk_frozen BK378.out 0; have hfz9_1 := blk_frozen BK378.out 1; have hfz9_2 := blk_frozen BK378.out 2))
  go_ret
  exact ⟨by first | rfl | (simp [errW_none, errW_some] <;> rfl) | (simp [*, errW_none, errW_some] <;> rfl), by repeat (first | (with_reducible first | exact HB.out | apply below_alloc | apply pw_below_drewN | apply below_drew1 | refine below_set ?_ GE378.out) | exact HB.out)⟩

/-! ### sawtoothref02_belowS: is it below 0: pure, behind function 49 -/
noncomputable def sawtoothref02_belowS.f (n : Bool) (h l : Int) : Option Bool := Go.Proofs.Ytghpecgpdhaibaa.Sp.need (Go.Proofs.Ytghpecgpdhaibaa.Sp.U h ∧ Go.Proofs.Ytghpecgpdhaibaa.Sp.U l) (some (decide (Go.Proofs.Ytghpecgpdhaibaa.Sp.val n h l < 0)))
section Ref02Below
open Go.Proofs.Ytghpecgpdhaibaa.Sp
theorem sawtoothref02_belowS.eq {n : Bool} {h l : Int} (h1 : U h) (h2 : U l) : sawtoothref02_belowS.f n h l = some (decide (val n h l < 0)) := need_pos ⟨h1, h2⟩
theorem sawtoothref02_below.main {n : Bool} {h l : Int} (h1 : U h) (h2 : U l) : sawtoothref02_below.f n h l = some (decide (val n h l < 0)) := by
 unfold sawtoothref02_below.f val
 cases n
 ·simp only [Bool.false_eq_true, if_false]; rw [decide_eq_false]; omega
 ·simp only [if_true]
  by_cases hh : h > 0
  ·rw [if_pos hh, decide_eq_true]; omega
  ·rw [if_neg hh]; congr 1; rw [decide_eq_decide]; omega
end Ref02Below
theorem sawtoothref02_belowS.calls (a0_0 : Bool) (a0_1 a0_2 : Int) (r : Bool) (w : World) (h : sawtoothref02_belowS.f a0_0 a0_1 a0_2 = some r) :
  Calls Try.prog 49 #[.agg #[.bool a0_0, .int .u64 a0_1, .int .u64 a0_2]] w fun e w' => e = .returned (.bool r) ∧ Below w.heap.size w w' := by
 obtain ⟨hc, h⟩ := Go.Proofs.Ytghpecgpdhaibaa.Sp.need_some h; exact sawtoothref02_below.calls a0_0 a0_1 a0_2 r w (by rw [sawtoothref02_below.main hc.1 hc.2]; exact h)

/-! ### sawtoothref02_Int: function 41 -/
noncomputable def sawtoothref02_Int.j0 : Nat → Bool → Bool → Int → Int → Option (Int)
 | 0, _, _, _, _ => none
 | k + 1, x10, x380000, x380001, x380002 => if x10 = true then ((sawtoothref02_belowS.f x380000 x380001 x380002).bind fun t380 => (if t380 = true then (some (-9223372036854775808)) else (some 9223372036854775807))) else ((sawtoothref02_belowS.f x380000 x380001 x380002).bind fun t381 => (if t381 = true then (some (wrap64 (-(wrap64 (x380002))))) else (some (wrap64 (x380002)))))
noncomputable def sawtoothref02_Int.f (k : Nat) (a0_0 : Bool) (a0_1 : Int) (a0_2 : Int) : Option (Int) := if a0_1 > 0 then (sawtoothref02_Int.j0 k true a0_0 a0_1 a0_2) else (sawtoothref02_Int.j0 k (decide (a0_2 ≥ 9223372036854775808)) a0_0 a0_1 a0_2)
theorem sawtoothref02_Int.mono_l : ∀ k, (∀ y0 y1 y2 y3, LeO (sawtoothref02_Int.j0 k y0 y1 y2 y3) (sawtoothref02_Int.j0 (k + 1) y0 y1 y2 y3))
 | 0 => fun _ _ _ _ r h => by simp [sawtoothref02_Int.j0] at h
 | k + 1 => by
  have ih0 := sawtoothref02_Int.mono_l k
  ·intro y0 y1 y2 y3
   unfold sawtoothref02_Int.j0
   repeat' first
   | (with_reducible exact ih0 _ _ _ _)
   | (with_reducible exact LeO.refl _)
   | (with_reducible exact LeO.none _)
   | (with_reducible refine LeO.ite ?_ ?_)
   | (with_reducible refine LeO.bind ?_ (fun _ => ?_))
   | exact ih0 _ _ _ _
   | exact LeO.none _
   | refine LeO.ite ?_ ?_
   | refine LeO.bind ?_ (fun _ => ?_)
theorem sawtoothref02_Int.mono : ∀ a0 a1 a2 k, LeO (sawtoothref02_Int.f k a0 a1 a2) (sawtoothref02_Int.f (k + 1) a0 a1 a2) := by
 intro a0 a1 a2 k; have ih0 := sawtoothref02_Int.mono_l k
 unfold sawtoothref02_Int.f
 repeat' first
   | (with_reducible exact ih0 _ _ _ _)
   | (with_reducible exact LeO.refl _)
   | (with_reducible exact LeO.none _)
   | (with_reducible refine LeO.ite ?_ ?_)
   | (with_reducible refine LeO.bind ?_ (fun _ => ?_))
   | exact ih0 _ _ _ _
   | exact LeO.none _
   | refine LeO.ite ?_ ?_
   | refine LeO.bind ?_ (fun _ => ?_)
set_option maxHeartbeats 8000000 in
set_option maxRecDepth 100000 in
theorem sawtoothref02_Int.calls (k : Nat) (a0_0 : Bool) (a0_1 : Int) (a0_2 : Int) (r : Int) (w : World) (h : sawtoothref02_Int.f k a0_0 a0_1 a0_2 = some r) :
  Calls Try.prog 41 #[.agg #[.bool a0_0, .int .u64 a0_1, .int .u64 a0_2]] w fun e w' => e = .returned (.int .i64 r) ∧ Below w.heap.size w w' := by
 have hu35 := Try.underlying35; have HB := Aside0.mk (Below.refl w.heap.size w); have H : (if a0_1 > 0 then (sawtoothref02_Int.j0 k true a0_0 a0_1 a0_2) else (sawtoothref02_Int.j0 k (decide (a0_2 ≥ 9223372036854775808)) a0_0 a0_1 a0_2)) = some r := h; clear h; have HC2 := Aside0.mk H; clear H
 go_enter Try.func41, Try.ntmps41
 go_upto_region 1 with (first | ((with_reducible refine gate_dst (N := 1) rfl ?_); refine box_event ?hg (N := 1) ?hd (cs := #[.bool a0_0, .int .u64 a0_1, .int .u64 a0_2]) (t := 35) ?hr ?_; (case hd => rfl); (case hg => rfl); (case hr => first | (go_simp; done) | (go_simp; rfl)); intro gb379 hg w3 hbox hb; have BK379 := Aside0.mk (hbox); obtain ⟨GW379, nHB⟩ := geA hg hb; have GE379 := GW379; replace HB := nHB; clear nHB; clear hb hbox hg))
 (try simp only [Act.put, sA, sB, sC])
 go_cut [10] (fun v10 wc => ∃ (kq : Nat) (x10_1 : Bool), v10 = .bool x10_1 ∧ Aside0 (sawtoothref02_Int.j0 kq x10_1 a0_0 a0_1 a0_2 = some r) ∧ Aside0 (kq ≤ k) ∧ Aside0 (wc.heap[gb379]? = some (.cells #[.bool a0_0, .int .u64 a0_1, .int .u64 a0_2] 35 (0, 0))) ∧ Aside0 (Below w.heap.size w wc))
 case first =>
  have H := HC2.out; clear HC2
  by_cases c4 : a0_1 > 0
  ·rw [if_pos c4] at H
   have c4b0 : decide (0 < a0_1) = true := decide_eq_true c4; clear c4
   (first | rw [c4b0] | (simp only [i64_w, i32_w]; rw [c4b0]) | skip)
   have H' := Aside0.mk H; clear H; have hcz5_0 := czZ BK379 0 (.bool a0_0); have hcz5_1 := czZ BK379 1 (.int .u64 a0_1); have hcz5_2 := czZ BK379 2 (.int .u64 a0_2); have hfz5_0 := blk_frozen BK379.out 0; have hfz5_1 := blk_frozen BK379.out 1; have hfz5_2 := blk_frozen BK379.out 2
   go_wp2
   go_meet
   case rel => exact ⟨_, (true), (by first | rfl | (simp; done) | (simp [*]; done)), H', ⟨by first | omega | exact Nat.le_refl _⟩, ⟨by (with_reducible repeat first | apply blk_drewN | apply blk_drew | apply blk_alloc); exact BK379.out⟩, ⟨by repeat (first | (with_reducible first | exact HB.out | apply below_alloc | apply pw_below_drewN | apply below_drew1 | refine below_set ?_ GE379.out) | exact HB.out)⟩⟩
  ·rw [if_neg c4] at H
   have c4b0 : decide (0 < a0_1) = false := decide_eq_false c4; clear c4
   (first | rw [c4b0] | (simp only [i64_w, i32_w]; rw [c4b0]) | skip)
   have H' := Aside0.mk H; clear H; have hcz6_0 := czZ BK379 0 (.bool a0_0); have hcz6_1 := czZ BK379 1 (.int .u64 a0_1); have hcz6_2 := czZ BK379 2 (.int .u64 a0_2); have hfz6_0 := blk_frozen BK379.out 0; have hfz6_1 := blk_frozen BK379.out 1; have hfz6_2 := blk_frozen BK379.out 2
   go_wp2
   go_meet
   case rel => exact ⟨_, (decide (a0_2 ≥ 9223372036854775808)), (by first | rfl | (simp; done) | (simp [*]; done)), H', ⟨by first | omega | exact Nat.le_refl _⟩, ⟨by (with_reducible repeat first | apply blk_drewN | apply blk_drew | apply blk_alloc); exact BK379.out⟩, ⟨by repeat (first | (with_reducible first | exact HB.out | apply below_alloc | apply pw_below_drewN | apply below_drew1 | refine below_set ?_ GE379.out) | exact HB.out)⟩⟩
 case rest =>
  clear HC2
  try clear p2
  try clear c4
  try clear c4b0
  try clear hcz5_0
  try clear hcz5_1
  try clear hcz5_2
  try clear hcz6_0
  try clear hcz6_1
  try clear hcz6_2
  try clear hfz5_0
  try clear hfz5_1
  try clear hfz5_2
  try clear hfz6_0
  try clear hfz6_1
  try clear hfz6_2
  obtain ⟨kq, x10_1, rfl, HA, HJ1, BK379, HB⟩ := hcut
  cases kq with
  | zero => exact absurd HA.out (by simp [sawtoothref02_Int.j0])
  | succ kj1 =>
   have H := HA.out; clear HA; simp only [sawtoothref02_Int.j0] at H
   by_cases c7 : x10_1 = true
   ·subst c7
    have H1 : ((sawtoothref02_belowS.f a0_0 a0_1 a0_2).bind fun t380 => (if t380 = true then (some (-9223372036854775808)) else (some 9223372036854775807))) = some r := by rw [if_pos rfl] at H; exact H
    clear H; have H := H1; clear H1; replace H := Option.bind_eq_some_iff.mp H; obtain ⟨t380, A80, H⟩ := H; replace H : (if t380 = true then (some (-9223372036854775808)) else (some 9223372036854775807)) = some r := H; have A8 := Aside0.mk A80; clear A80
    by_cases c9 : t380 = true
    ·subst c9
     have H1 : (some (-9223372036854775808)) = some r := by rw [if_pos rfl] at H; exact H
     clear H; have H := H1; clear H1; obtain rfl := Option.some.inj H; have hcz10_0 : wc.cell? ⟨gb379, 0, none⟩ = some (.bool a0_0) := (blk_cell BK379.out 0).trans rfl; have hcz10_1 : wc.cell? ⟨gb379, 1, none⟩ = some (.int .u64 a0_1) := (blk_cell BK379.out 1).trans rfl; have hcz10_2 : wc.cell? ⟨gb379, 2, none⟩ = some (.int .u64 a0_2) := (blk_cell BK379.out 2).trans rfl; have hfz10_0 := blk_frozen BK379.out 0; have hfz10_1 := blk_frozen BK379.out 1; have hfz10_2 := blk_frozen BK379.out 2
     go_wp2_with (first | ((with_reducible refine gate_callee (f := 49) rfl ?_); refine goesLA_ (some 12) rfl rfl Try.func49 rfl #[.agg #[.bool a0_0, .int .u64 a0_1, .int .u64 a0_2]] rfl ?_; (with_reducible refine (sawtoothref02_belowS.calls a0_0 a0_1 a0_2 true _ A8.out).mono ?_); rintro e w11 ⟨rfl, hb⟩; refine ⟨_, rfl, ?_⟩; replace BK379 := bdZ BK379 hb; replace HB := stA hb; clear hb))
     go_ret
     exact ⟨by first | rfl | (simp [errW_none, errW_some] <;> rfl) | (simp [*, errW_none, errW_some] <;> rfl), by repeat (first | (with_reducible first | exact HB.out | apply below_alloc | apply pw_below_drewN | apply below_drew1 | refine below_set ?_ GE379.out) | exact HB.out)⟩
    ·replace c9 := Bool.eq_false_iff.mpr c9
     subst c9
     have H1 : (some 9223372036854775807) = some r := by rw [if_neg (show ¬ (false = true) by decide)] at H; exact H
     clear H; have H := H1; clear H1; obtain rfl := Option.some.inj H; have hcz12_0 : wc.cell? ⟨gb379, 0, none⟩ = some (.bool a0_0) := (blk_cell BK379.out 0).trans rfl; have hcz12_1 : wc.cell? ⟨gb379, 1, none⟩ = some (.int .u64 a0_1) := (blk_cell BK379.out 1).trans rfl; have hcz12_2 : wc.cell? ⟨gb379, 2, none⟩ = some (.int .u64 a0_2) := (blk_cell BK379.out 2).trans rfl; have hfz12_0 := blk_frozen BK379.out 0; have hfz12_1 := blk_frozen BK379.out 1; have hfz12_2 := blk_frozen BK379.out 2
     go_wp2_with (first | ((with_reducible refine gate_callee (f := 49) rfl ?_); refine goesLA_ (some 12) rfl rfl Try.func49 rfl #[.agg #[.bool a0_0, .int .u64 a0_1, .int .u64 a0_2]] rfl ?_; (with_reducible refine (sawtoothref02_belowS.calls a0_0 a0_1 a0_2 false _ A8.out).mono ?_); rintro e w13 ⟨rfl, hb⟩; refine ⟨_, rfl, ?_⟩; replace BK379 := bdZ BK379 hb; replace HB := stA hb; clear hb))
     go_ret
     exact ⟨by first | rfl | (simp [errW_none, errW_some] <;> rfl) | (simp [*, errW_none, errW_some] <;> rfl), by repeat (first | (with_reducible first | exact HB.out | apply below_alloc | apply pw_below_drewN | apply below_drew1 | refine below_set ?_ GE379.out) | exact HB.out)⟩
   ·replace c7 := Bool.eq_false_iff.mpr c7
    subst c7
    have H1 : ((sawtoothref02_belowS.f a0_0 a0_1 a0_2).bind fun t381 => (if t381 = true then (some (wrap64 (-(wrap64 (a0_2))))) else (some (wrap64 (a0_2))))) = some r := by rw [if_neg (show ¬ (false = true) by decide)] at H; exact H
    clear H; have H := H1; clear H1; replace H := Option.bind_eq_some_iff.mp H; obtain ⟨t381, A140, H⟩ := H; replace H : (if t381 = true then (some (wrap64 (-(wrap64 (a0_2))))) else (some (wrap64 (a0_2)))) = some r := H; have A14 := Aside0.mk A140; clear A140
    by_cases c15 : t381 = true
    ·subst c15
     have H1 : (some (wrap64 (-(wrap64 (a0_2))))) = some r := by rw [if_pos rfl] at H; exact H
     clear H; have H := H1; clear H1; obtain rfl := Option.some.inj H; have hcz16_0 : wc.cell? ⟨gb379, 0, none⟩ = some (.bool a0_0) := (blk_cell BK379.out 0).trans rfl; have hcz16_1 : wc.cell? ⟨gb379, 1, none⟩ = some (.int .u64 a0_1) := (blk_cell BK379.out 1).trans rfl; have hcz16_2 : wc.cell? ⟨gb379, 2, none⟩ = some (.int .u64 a0_2) := (blk_cell BK379.out 2).trans rfl; have hfz16_0 := blk_frozen BK379.out 0; have hfz16_1 := blk_frozen BK379.out 1; have hfz16_2 := blk_frozen BK379.out 2
     go_wp2_with (first | ((with_reducible refine gate_callee (f := 49) rfl ?_); refine goesLA_ (some 14) rfl rfl Try.func49 rfl #[.agg #[.bool a0_0, .int .u64 a0_1, .int .u64 a0_2]] rfl ?_; (with_reducible refine (sawtoothref02_belowS.calls a0_0 a0_1 a0_2 true _ A14.out).mono ?_); rintro e w17 ⟨rfl, hb⟩; refine ⟨_, rfl, ?_⟩; replace BK379 := bdZ BK379 hb; replace HB := stA hb; clear hb; have hcz18_0 := czZ BK379 0 (.bool a0_0); have hcz18_1 := czZ BK379 1 (.int .u64 a0_1); have hcz18_2 := czZ BK379 2 (.int .u64 a0_2); have hfz18_0 := blk_frozen BK379.out 0; have hfz18_1 := blk_frozen BK379.out 1; have hfz18_2 := blk_frozen BK379.out 2))
     go_ret
     exact ⟨by first | rfl | (simp [errW_none, errW_some] <;> rfl) | (simp [*, errW_none, errW_some] <;> rfl), by repeat (first | (with_reducible first | exact HB.out | apply below_alloc | apply pw_below_drewN | apply below_drew1 | refine below_set ?_ GE379.out) | exact HB.out)⟩
    ·replace c15 := Bool.eq_false_iff.mpr c15
     subst c15
     have H1 : (some (wrap64 (a0_2))) = some r := by rw [if_neg (show ¬ (false = true) by decide)] at H; exact H
     clear H; have H := H1; clear H1; obtain rfl := Option.some.inj H; have hcz19_0 : wc.cell? ⟨gb379, 0, none⟩ = some (.bool a0_0) := (blk_cell BK379.out 0).trans rfl; have hcz19_1 : wc.cell? ⟨gb379, 1, none⟩ = some (.int .u64 a0_1) := (blk_cell BK379.out 1).trans rfl; have hcz19_2 : wc.cell? ⟨gb379, 2, none⟩ = some (.int .u64 a0_2) := (blk_cell BK379.out 2).trans rfl; have hfz19_0 := blk_frozen BK379.out 0; have hfz19_1 := blk_frozen BK379.out 1; have hfz19_2 := blk_frozen BK379.out 2
     go_wp2_with (first | ((with_reducible refine gate_callee (f := 49) rfl ?_); refine goesLA_ (some 14) rfl rfl Try.func49 rfl #[.agg #[.bool a0_0, .int .u64 a0_1, .int .u64 a0_2]] rfl ?_; (with_reducible refine (sawtoothref02_belowS.calls a0_0 a0_1 a0_2 false _ A14.out).mono ?_); rintro e w20 ⟨rfl, hb⟩; refine ⟨_, rfl, ?_⟩; replace BK379 := bdZ BK379 hb; replace HB := stA hb; clear hb; have hcz21_0 := czZ BK379 0 (.bool a0_0); have hcz21_1 := czZ BK379 1 (.int .u64 a0_1); have hcz21_2 := czZ BK379 2 (.int .u64 a0_2); have hfz21_0 := blk_frozen BK379.out 0; have hfz21_1 := blk_frozen BK379.out 1; have hfz21_2 := blk_frozen BK379.out 2))
     go_ret
     exact ⟨by first | rfl | (simp [errW_none, errW_some] <;> rfl) | (simp [*, errW_none, errW_some] <;> rfl), by repeat (first | (with_reducible first | exact HB.out | apply below_alloc | apply pw_below_drewN | apply below_drew1 | refine below_set ?_ GE379.out) | exact HB.out)⟩

/-! ### sawtoothref02_IntS: the nearest int: pure, behind function 41 -/
noncomputable def sawtoothref02_IntS.f (n : Bool) (h l : Int) : Option Int := Go.Proofs.Ytghpecgpdhaibaa.Sp.intF n h l
section Ref02Int
open Go.Proofs.Ytghpecgpdhaibaa.Sp
theorem sawtoothref02_Int.main {n : Bool} {h l : Int} (h1 : U h) (h2 : U l) : sawtoothref02_Int.f 1 n h l = some (near (val n h l)) := by
 unfold sawtoothref02_Int.f
 have e : (if h > 0 then sawtoothref02_Int.j0 1 true n h l else sawtoothref02_Int.j0 1 (decide (l ≥ 9223372036854775808)) n h l) = sawtoothref02_Int.j0 1 (decide (h > 0 ∨ l ≥ 9223372036854775808)) n h l := by
  by_cases hh : h > 0
  ·rw [if_pos hh, decide_eq_true (Or.inl hh)]
  ·rw [if_neg hh]; congr 1; rw [decide_eq_decide]; omega
 rw [e]
 simp only [sawtoothref02_Int.j0, sawtoothref02_belowS.eq h1 h2, Option.bind_some]; have hw : wrap64 l = wrap64 l := rfl
 by_cases hb : h > 0 ∨ l ≥ 9223372036854775808
 ·rw [decide_eq_true hb, if_pos rfl]
  by_cases hn : val n h l < 0
  ·rw [decide_eq_true hn, if_pos rfl]
   unfold near val at *
   cases n <;> simp at hn ⊢ <;> omega
  ·rw [decide_eq_false hn, if_neg (by simp)]
   unfold near val at *
   cases n <;> simp at hn ⊢ <;> omega
 ·rw [decide_eq_false hb, if_neg (by simp), w64 (x := l) (by omega), w64 (x := -l) (by omega)]
  have hh : h = 0 := by omega
  subst hh
  by_cases hn : val n 0 l < 0
  ·rw [decide_eq_true hn, if_pos rfl, near_in]
   ·unfold val at *; cases n <;> simp at hn ⊢; omega
   ·unfold val; cases n <;> simp <;> omega
  ·rw [decide_eq_false hn, if_neg (by simp), near_in]
   ·unfold val at *; cases n <;> simp at hn ⊢; omega
   ·unfold val; cases n <;> simp <;> omega
end Ref02Int
theorem sawtoothref02_IntS.calls (a0_0 : Bool) (a0_1 a0_2 r : Int) (w : World) (h : sawtoothref02_IntS.f a0_0 a0_1 a0_2 = some r) :
  Calls Try.prog 41 #[.agg #[.bool a0_0, .int .u64 a0_1, .int .u64 a0_2]] w fun e w' => e = .returned (.int .i64 r) ∧ Below w.heap.size w w' := by
 obtain ⟨hc, h⟩ := Go.Proofs.Ytghpecgpdhaibaa.Sp.need_some h; exact sawtoothref02_Int.calls 1 a0_0 a0_1 a0_2 r w (by rw [sawtoothref02_Int.main hc.1 hc.2]; exact h)

/-! ### sawtoothref17_Of: function 19 -/
mutual
noncomputable def sawtoothref17_Of.j0 : Nat → Int → Int → Bool → Int → Bool → Bool → Int → Int → Option (Int)
 | 0, _, _, _, _, _, _, _, _ => none
 | k + 1, x0, x1, x3, x10, x23, x383000, x383001, x383002 => if x23 = true then ((sawtoothref06_Mean.f x383000 x383001 x383002).bind fun t384 => (sawtoothref17_Of.j1 k x0 x1 x3 t384)) else (sawtoothref17_Of.j1 k x0 x1 x3 x10)
noncomputable def sawtoothref17_Of.j1 : Nat → Int → Int → Bool → Int → Option (Int)
 | 0, _, _, _, _ => none
 | k + 1, x0, x1, x3, x10 => if x3 = true then (sawtoothref17_Of.j2 k x0 x1 x10 2 1) else (sawtoothref17_Of.j2 k x0 x1 x10 5 4)
noncomputable def sawtoothref17_Of.j2 : Nat → Int → Int → Int → Int → Int → Option (Int)
 | 0, _, _, _, _, _ => none
 | k + 1, x0, x1, x10, x11, x12 => (sawtoothref01_Clamp.f x0 0 68719476736).bind fun t385 => ((sawtoothref01_Clamp.f x1 1 65535).bind fun t386 => ((sawtoothref02_MulS.f t385 (wrap64 ((wrap64 (x11 * 1000000)) * t386))).bind fun bt387 => ((sawtoothref02_DivS.f bt387.1 bt387.2.1 bt387.2.2 (IntKind.u64.wrap (wrap64 ((wrap64 (x12 * 65536)) * x10)))).bind fun bt391 => ((sawtoothref02_IntS.f bt391.1 bt391.2.1 bt391.2.2.1).bind fun t397 => (some (mx t397 1))))))
end
noncomputable def sawtoothref17_Of.f (k : Nat) (a0 : Int) (a1 : Int) (a2_0 : Bool) (a2_1 : Int) (a2_2 : Int) (a3 : Bool) : Option (Int) := (sawtoothref06_Check.f a2_0 a2_1 a2_2).bind fun t383 => (if t383 = true then (sawtoothref17_Of.j0 k a0 a1 a3 100000 a2_0 a2_0 a2_1 a2_2) else (sawtoothref17_Of.j0 k a0 a1 a3 100000 false a2_0 a2_1 a2_2))
theorem sawtoothref17_Of.mono_l : ∀ k, (∀ y0 y1 y2 y3 y4 y5 y6 y7, LeO (sawtoothref17_Of.j0 k y0 y1 y2 y3 y4 y5 y6 y7) (sawtoothref17_Of.j0 (k + 1) y0 y1 y2 y3 y4 y5 y6 y7)) ∧ (∀ y0 y1 y2 y3, LeO (sawtoothref17_Of.j1 k y0 y1 y2 y3) (sawtoothref17_Of.j1 (k + 1) y0 y1 y2 y3)) ∧ (∀ y0 y1 y2 y3 y4, LeO (sawtoothref17_Of.j2 k y0 y1 y2 y3 y4) (sawtoothref17_Of.j2 (k + 1) y0 y1 y2 y3 y4))
 | 0 => ⟨fun _ _ _ _ _ _ _ _ r h => by simp [sawtoothref17_Of.j0] at h, fun _ _ _ _ r h => by simp [sawtoothref17_Of.j1] at h, fun _ _ _ _ _ r h => by simp [sawtoothref17_Of.j2] at h⟩
 | k + 1 => by
  obtain ⟨ih0, ih1, ih2⟩ := sawtoothref17_Of.mono_l k; refine ⟨?_, ?_, ?_⟩
  ·intro y0 y1 y2 y3 y4 y5 y6 y7
   unfold sawtoothref17_Of.j0
   repeat' first
   | (with_reducible exact ih0 _ _ _ _ _ _ _ _)
   | (with_reducible exact ih1 _ _ _ _)
   | (with_reducible exact ih2 _ _ _ _ _)
   | (with_reducible exact LeO.refl _)
   | (with_reducible exact LeO.none _)
   | (with_reducible refine LeO.ite ?_ ?_)
   | (with_reducible refine LeO.bind ?_ (fun _ => ?_))
   | exact ih0 _ _ _ _ _ _ _ _
   | exact ih1 _ _ _ _
   | exact ih2 _ _ _ _ _
   | exact LeO.none _
   | refine LeO.ite ?_ ?_
   | refine LeO.bind ?_ (fun _ => ?_)
  ·intro y0 y1 y2 y3
   unfold sawtoothref17_Of.j1
   repeat' first
   | (with_reducible exact ih0 _ _ _ _ _ _ _ _)
   | (with_reducible exact ih1 _ _ _ _)
   | (with_reducible exact ih2 _ _ _ _ _)
   | (with_reducible exact LeO.refl _)
   | (with_reducible exact LeO.none _)
   | (with_reducible refine LeO.ite ?_ ?_)
   | (with_reducible refine LeO.bind ?_ (fun _ => ?_))
   | exact ih0 _ _ _ _ _ _ _ _
   | exact ih1 _ _ _ _
   | exact ih2 _ _ _ _ _
   | exact LeO.none _
   | refine LeO.ite ?_ ?_
   | refine LeO.bind ?_ (fun _ => ?_)
  ·intro y0 y1 y2 y3 y4
   unfold sawtoothref17_Of.j2
   repeat' first
   | (with_reducible exact ih0 _ _ _ _ _ _ _ _)
   | (with_reducible exact ih1 _ _ _ _)
   | (with_reducible exact ih2 _ _ _ _ _)
   | (with_reducible exact LeO.refl _)
   | (with_reducible exact LeO.none _)
   | (with_reducible refine LeO.ite ?_ ?_)
   | (with_reducible refine LeO.bind ?_ (fun _ => ?_))
   | exact ih0 _ _ _ _ _ _ _ _
   | exact ih1 _ _ _ _
   | exact ih2 _ _ _ _ _
   | exact LeO.none _
   | refine LeO.ite ?_ ?_
   | refine LeO.bind ?_ (fun _ => ?_)
theorem sawtoothref17_Of.mono : ∀ a0 a1 a2 a3 a4 a5 k, LeO (sawtoothref17_Of.f k a0 a1 a2 a3 a4 a5) (sawtoothref17_Of.f (k + 1) a0 a1 a2 a3 a4 a5) := by
 intro a0 a1 a2 a3 a4 a5 k; obtain ⟨ih0, ih1, ih2⟩ := sawtoothref17_Of.mono_l k
 unfold sawtoothref17_Of.f
 repeat' first
   | (with_reducible exact ih0 _ _ _ _ _ _ _ _)
   | (with_reducible exact ih1 _ _ _ _)
   | (with_reducible exact ih2 _ _ _ _ _)
   | (with_reducible exact LeO.refl _)
   | (with_reducible exact LeO.none _)
   | (with_reducible refine LeO.ite ?_ ?_)
   | (with_reducible refine LeO.bind ?_ (fun _ => ?_))
   | exact ih0 _ _ _ _ _ _ _ _
   | exact ih1 _ _ _ _
   | exact ih2 _ _ _ _ _
   | exact LeO.none _
   | refine LeO.ite ?_ ?_
   | refine LeO.bind ?_ (fun _ => ?_)
set_option maxHeartbeats 8000000 in
set_option maxRecDepth 100000 in
theorem sawtoothref17_Of.calls (k : Nat) (a0 : Int) (a1 : Int) (a2_0 : Bool) (a2_1 : Int) (a2_2 : Int) (a3 : Bool) (r : Int) (w : World) (h : sawtoothref17_Of.f k a0 a1 a2_0 a2_1 a2_2 a3 = some r) :
  Calls Try.prog 19 #[.int .i64 a0, .int .i64 a1, .agg #[.bool a2_0, .int .i64 a2_1, .int .i64 a2_2], .bool a3] w fun e w' => e = .returned (.int .i64 r) ∧ Below w.heap.size w w' := by
 have hu23 := Try.underlying23; have hu35 := Try.underlying35; have HB := Aside0.mk (Below.refl w.heap.size w); have H : ((sawtoothref06_Check.f a2_0 a2_1 a2_2).bind fun t383 => (if t383 = true then (sawtoothref17_Of.j0 k a0 a1 a3 100000 a2_0 a2_0 a2_1 a2_2) else (sawtoothref17_Of.j0 k a0 a1 a3 100000 false a2_0 a2_1 a2_2))) = some r := h; clear h; replace H := Option.bind_eq_some_iff.mp H; obtain ⟨t383, A50, H⟩ := H; replace H : (if t383 = true then (sawtoothref17_Of.j0 k a0 a1 a3 100000 a2_0 a2_0 a2_1 a2_2) else (sawtoothref17_Of.j0 k a0 a1 a3 100000 false a2_0 a2_1 a2_2)) = some r := H; have A5 := Aside0.mk A50; clear A50; have HC6 := Aside0.mk H; clear H
 go_enter Try.func19, Try.ntmps19
 go_upto_region 3 with (first | ((with_reducible refine gate_dst (N := 6) rfl ?_); refine box_event ?hg (N := 6) ?hd (cs := #[.bool a2_0, .int .i64 a2_1, .int .i64 a2_2]) (t := 23) ?hr ?_; (case hd => rfl); (case hg => rfl); (case hr => first | (go_simp; done) | (go_simp; rfl)); intro gb382 hg w7 hbox hb; have BK382 := Aside0.mk (hbox); obtain ⟨GW382, nHB⟩ := geA hg hb; have GE382 := GW382; replace HB := nHB; clear nHB; clear hb hbox hg; have hcz8_0 := czZ BK382 0 (.bool a2_0); have hcz8_1 := czZ BK382 1 (.int .i64 a2_1); have hcz8_2 := czZ BK382 2 (.int .i64 a2_2); have hfz8_0 := blk_frozen BK382.out 0; have hfz8_1 := blk_frozen BK382.out 1; have hfz8_2 := blk_frozen BK382.out 2) | ((with_reducible refine gate_callee (f := 37) rfl ?_); refine goesLA_ (some 18) rfl rfl Try.func37 rfl #[.agg #[.bool a2_0, .int .i64 a2_1, .int .i64 a2_2]] rfl ?_; (with_reducible refine (sawtoothref06_Check.calls a2_0 a2_1 a2_2 t383 _ A5.out).mono ?_); rintro e w9 ⟨rfl, hb⟩; refine ⟨_, rfl, ?_⟩; replace BK382 := bdZ BK382 hb; replace HB := stA hb; clear hb))
 (try simp only [Act.put, sA, sB, sC])
 go_cut [23] (fun v23 wc => ∃ (kq : Nat) (x23_5 : Bool), v23 = .bool x23_5 ∧ Aside0 (sawtoothref17_Of.j0 kq a0 a1 a3 100000 x23_5 a2_0 a2_1 a2_2 = some r) ∧ Aside0 (kq ≤ k) ∧ Aside0 (wc.heap[gb382]? = some (.cells #[.bool a2_0, .int .i64 a2_1, .int .i64 a2_2] 23 (0, 0))) ∧ Aside0 (Below w.heap.size w wc))
 case first =>
  have H := HC6.out; clear HC6
  by_cases c10 : t383 = true
  ·subst c10
   have H1 : (sawtoothref17_Of.j0 k a0 a1 a3 100000 a2_0 a2_0 a2_1 a2_2) = some r := by rw [if_pos rfl] at H; exact H
   clear H; have H := H1; clear H1; have H' := Aside0.mk H; clear H; have hcz11_0 := czZ BK382 0 (.bool a2_0); have hcz11_1 := czZ BK382 1 (.int .i64 a2_1); have hcz11_2 := czZ BK382 2 (.int .i64 a2_2); have hfz11_0 := blk_frozen BK382.out 0; have hfz11_1 := blk_frozen BK382.out 1; have hfz11_2 := blk_frozen BK382.out 2
   go_wp2
   go_meet
   case rel => exact ⟨_, (a2_0), (by first | rfl | (simp; done) | (simp [*]; done)), H', ⟨by first | omega | exact Nat.le_refl _⟩, ⟨by (with_reducible repeat first | apply blk_drewN | apply blk_drew | apply blk_alloc); exact BK382.out⟩, ⟨by repeat (first | (with_reducible first | exact HB.out | apply below_alloc | apply pw_below_drewN | apply below_drew1 | refine below_set ?_ GE382.out) | exact HB.out)⟩⟩
  ·replace c10 := Bool.eq_false_iff.mpr c10
   subst c10
   have H1 : (sawtoothref17_Of.j0 k a0 a1 a3 100000 false a2_0 a2_1 a2_2) = some r := by rw [if_neg (show ¬ (false = true) by decide)] at H; exact H
   clear H; have H := H1; clear H1; have H' := Aside0.mk H; clear H
   go_wp2
   go_meet
   case rel => exact ⟨_, (false), (by first | rfl | (simp; done) | (simp [*]; done)), H', ⟨by first | omega | exact Nat.le_refl _⟩, ⟨by (with_reducible repeat first | apply blk_drewN | apply blk_drew | apply blk_alloc); exact BK382.out⟩, ⟨by repeat (first | (with_reducible first | exact HB.out | apply below_alloc | apply pw_below_drewN | apply below_drew1 | refine below_set ?_ GE382.out) | exact HB.out)⟩⟩
 case rest =>
  clear HC6
  try clear c1
  try clear p2
  try clear c3
  try clear c10
  try clear hcz11_0
  try clear hcz11_1
  try clear hcz11_2
  try clear hcz8_0
  try clear hcz8_1
  try clear hcz8_2
  try clear hfz11_0
  try clear hfz11_1
  try clear hfz11_2
  try clear hfz8_0
  try clear hfz8_1
  try clear hfz8_2
  obtain ⟨kq, x23_5, rfl, HA, HJ5, BK382, HB⟩ := hcut
  cases kq with
  | zero => exact absurd HA.out (by simp [sawtoothref17_Of.j0])
  | succ kj5 =>
   have H := HA.out; clear HA; simp only [sawtoothref17_Of.j0] at H; have HC12 := Aside0.mk H; clear H
   go_upto_if 23 with (fail)
   go_cut [10] (fun v10 wc => ∃ (kq : Nat) (x10_11 : Int), v10 = .int .i64 x10_11 ∧ Aside0 (sawtoothref17_Of.j1 kq a0 a1 a3 x10_11 = some r) ∧ Aside0 (kq ≤ kj5) ∧ Aside0 (wc.heap[gb382]? = some (.cells #[.bool a2_0, .int .i64 a2_1, .int .i64 a2_2] 23 (0, 0))) ∧ Aside0 (Below w.heap.size w wc))
   case first =>
    have H := HC12.out; clear HC12
    by_cases c13 : x23_5 = true
    ·subst c13
     have H1 : ((sawtoothref06_Mean.f a2_0 a2_1 a2_2).bind fun t384 => (sawtoothref17_Of.j1 kj5 a0 a1 a3 t384)) = some r := by rw [if_pos rfl] at H; exact H
     clear H; have H := H1; clear H1; replace H := Option.bind_eq_some_iff.mp H; obtain ⟨t384, A140, H⟩ := H; replace H : (sawtoothref17_Of.j1 kj5 a0 a1 a3 t384) = some r := H; have A14 := Aside0.mk A140; clear A140; have H' := Aside0.mk H; clear H; have hcz15_0 : wc.cell? ⟨gb382, 0, none⟩ = some (.bool a2_0) := (blk_cell BK382.out 0).trans rfl; have hcz15_1 : wc.cell? ⟨gb382, 1, none⟩ = some (.int .i64 a2_1) := (blk_cell BK382.out 1).trans rfl; have hcz15_2 : wc.cell? ⟨gb382, 2, none⟩ = some (.int .i64 a2_2) := (blk_cell BK382.out 2).trans rfl; have hfz15_0 := blk_frozen BK382.out 0; have hfz15_1 := blk_frozen BK382.out 1; have hfz15_2 := blk_frozen BK382.out 2
     go_wp2_with (first | ((with_reducible refine gate_callee (f := 38) rfl ?_); refine goesLA_ (some 25) rfl rfl Try.func38 rfl #[.agg #[.bool a2_0, .int .i64 a2_1, .int .i64 a2_2]] rfl ?_; (with_reducible refine (sawtoothref06_Mean.calls a2_0 a2_1 a2_2 t384 _ A14.out).mono ?_); rintro e w16 ⟨rfl, hb⟩; refine ⟨_, rfl, ?_⟩; replace BK382 := bdZ BK382 hb; replace HB := stA hb; clear hb))
     go_meet
     case rel => exact ⟨_, (t384), (by first | rfl | (simp; done) | (simp [*]; done)), H', ⟨by have := HJ5.out; first | omega | exact Nat.le_refl _⟩, ⟨by (with_reducible repeat first | apply blk_drewN | apply blk_drew | apply blk_alloc); exact BK382.out⟩, ⟨by repeat (first | (with_reducible first | exact HB.out | apply below_alloc | apply pw_below_drewN | apply below_drew1 | refine below_set ?_ GE382.out) | exact HB.out)⟩⟩
    ·replace c13 := Bool.eq_false_iff.mpr c13
     subst c13
     have H1 : (sawtoothref17_Of.j1 kj5 a0 a1 a3 100000) = some r := by rw [if_neg (show ¬ (false = true) by decide)] at H; exact H
     clear H; have H := H1; clear H1; have H' := Aside0.mk H; clear H
     go_wp2
     go_meet
     case rel => exact ⟨_, (100000), (by first | rfl | (simp; done) | (simp [*]; done)), H', ⟨by have := HJ5.out; first | omega | exact Nat.le_refl _⟩, ⟨by (with_reducible repeat first | apply blk_drewN | apply blk_drew | apply blk_alloc); exact BK382.out⟩, ⟨by repeat (first | (with_reducible first | exact HB.out | apply below_alloc | apply pw_below_drewN | apply below_drew1 | refine below_set ?_ GE382.out) | exact HB.out)⟩⟩
   case rest =>
    clear HC12
    try clear c1
    try clear p2
    try clear c3
    try clear c10
    try clear c13
    try clear hcz11_0
    try clear hcz11_1
    try clear hcz11_2
    try clear hcz15_0
    try clear hcz15_1
    try clear hcz15_2
    try clear hcz8_0
    try clear hcz8_1
    try clear hcz8_2
    try clear hfz11_0
    try clear hfz11_1
    try clear hfz11_2
    try clear hfz15_0
    try clear hfz15_1
    try clear hfz15_2
    try clear hfz8_0
    try clear hfz8_1
    try clear hfz8_2
    try clear p2
    obtain ⟨kq, x10_11, rfl, HA, HJ11, BK382, HB⟩ := hcut
    cases kq with
    | zero => exact absurd HA.out (by simp [sawtoothref17_Of.j1])
    | succ kj11 =>
     have H := HA.out; clear HA; simp only [sawtoothref17_Of.j1] at H; have HC17 := Aside0.mk H; clear H
     go_upto_if 26 with (fail)
     go_cut [11, 12] (fun v11 v12 wc => ∃ (kq : Nat) (x11_16 : Int) (x12_16 : Int), v11 = .int .i64 x11_16 ∧ v12 = .int .i64 x12_16 ∧ Aside0 (sawtoothref17_Of.j2 kq a0 a1 x10_11 x11_16 x12_16 = some r) ∧ Aside0 (kq ≤ kj11) ∧ Aside0 (wc.heap[gb382]? = some (.cells #[.bool a2_0, .int .i64 a2_1, .int .i64 a2_2] 23 (0, 0))) ∧ Aside0 (Below w.heap.size w wc))
     case first =>
      have H := HC17.out; clear HC17
      by_cases c18 : a3 = true
      ·subst c18
       have H1 : (sawtoothref17_Of.j2 kj11 a0 a1 x10_11 2 1) = some r := by rw [if_pos rfl] at H; exact H
       clear H; have H := H1; clear H1; have H' := Aside0.mk H; clear H
       go_wp2
       go_meet
       case rel => exact ⟨_, (2), (1), (by first | rfl | (simp; done) | (simp [*]; done)), (by first | rfl | (simp; done) | (simp [*]; done)), H', ⟨by have := HJ5.out; have := HJ11.out; first | omega | exact Nat.le_refl _⟩, ⟨by (with_reducible repeat first | apply blk_drewN | apply blk_drew | apply blk_alloc); exact BK382.out⟩, ⟨by repeat (first | (with_reducible first | exact HB.out | apply below_alloc | apply pw_below_drewN | apply below_drew1 | refine below_set ?_ GE382.out) | exact HB.out)⟩⟩
      ·replace c18 := Bool.eq_false_iff.mpr c18
       subst c18
       have H1 : (sawtoothref17_Of.j2 kj11 a0 a1 x10_11 5 4) = some r := by rw [if_neg (show ¬ (false = true) by decide)] at H; exact H
       clear H; have H := H1; clear H1; have H' := Aside0.mk H; clear H
       go_wp2
       go_meet
       case rel => exact ⟨_, (5), (4), (by first | rfl | (simp; done) | (simp [*]; done)), (by first | rfl | (simp; done) | (simp [*]; done)), H', ⟨by have := HJ5.out; have := HJ11.out; first | omega | exact Nat.le_refl _⟩, ⟨by (with_reducible repeat first | apply blk_drewN | apply blk_drew | apply blk_alloc); exact BK382.out⟩, ⟨by repeat (first | (with_reducible first | exact HB.out | apply below_alloc | apply pw_below_drewN | apply below_drew1 | refine below_set ?_ GE382.out) | exact HB.out)⟩⟩
     case rest =>
      clear HC17
      try clear c1
      try clear p2
      try clear c3
      try clear c10
      try clear c13
      try clear c18
      try clear hcz11_0
      try clear hcz11_1
      try clear hcz11_2
      try clear hcz15_0
      try clear hcz15_1
      try clear hcz15_2
      try clear hcz8_0
      try clear hcz8_1
      try clear hcz8_2
      try clear hfz11_0
      try clear hfz11_1
      try clear hfz11_2
      try clear hfz15_0
      try clear hfz15_1
      try clear hfz15_2
      try clear hfz8_0
      try clear hfz8_1
      try clear hfz8_2
      try clear p2
      obtain ⟨kq, x11_16, x12_16, rfl, rfl, HA, HJ16, BK382, HB⟩ := hcut
      cases kq with
      | zero => exact absurd HA.out (by simp [sawtoothref17_Of.j2])
      | succ kj16 =>
       have H := HA.out; clear HA; simp only [sawtoothref17_Of.j2] at H; replace H := Option.bind_eq_some_iff.mp H; obtain ⟨t385, A190, H⟩ := H; (try dsimp only at H); have A19 := Aside0.mk A190; clear A190; replace H := Option.bind_eq_some_iff.mp H; obtain ⟨t386, A200, H⟩ := H; (try dsimp only at H); have A20 := Aside0.mk A200; clear A200; replace H := Option.bind_eq_some_iff.mp H; obtain ⟨⟨t387, t388, t389⟩, A210, H⟩ := H; (try dsimp only at H); have A21 := Aside0.mk A210; clear A210; replace H := Option.bind_eq_some_iff.mp H; obtain ⟨⟨t391, t392, t393, t394, t395⟩, A220, H⟩ := H; replace H : ((sawtoothref02_IntS.f t391 t392 t393).bind fun t397 => (some (mx t397 1))) = some r := H; have A22 := Aside0.mk A220; clear A220; replace H := Option.bind_eq_some_iff.mp H; obtain ⟨t397, A230, H⟩ := H; replace H : (some (mx t397 1)) = some r := H; have A23 := Aside0.mk A230; clear A230
       obtain ⟨ji24, hji24⟩ : ∃ j_ : Int, (mx t397 1) = j_ := ⟨_, rfl⟩
       replace H : (some ji24) = some r := by first | (rw [hji24] at H; exact H) | (simp only [hji24] at H ⊢; exact H)
       (try rw [hji24] at A19)
       (try rw [hji24] at A20)
       (try rw [hji24] at A21)
       (try rw [hji24] at A22)
       (try rw [hji24] at A23)
       (try (have hji24l : 1 ≤ ji24 := by (rw [← hji24]; unfold mx; (repeat' split) <;> omega)))
       (try (have hji24m : 0 ≤ ji24 := by omega))
       have hji24_ : (if t397 < 1 then 1 else t397) = ji24 := hji24; obtain rfl := Option.some.inj H
       go_wp2_with (first | ((with_reducible refine gate_callee (f := 39) rfl ?_); refine goesLA_ (some 28) rfl rfl Try.func39 rfl #[.int .i64 a0, .int .i64 0, .int .i64 68719476736] rfl ?_; (with_reducible refine (sawtoothref01_Clamp.calls a0 0 68719476736 t385 _ A19.out).mono ?_); rintro e w' ⟨rfl, ⟨nd, rfl⟩⟩; refine ⟨_, rfl, ?_⟩; (try (rw [drewN_self wc]; generalize hq_ : World.drewN wc _ = wc; have n0_ : Aside0 (wc.heap[gb382]? = some (.cells #[.bool a2_0, .int .i64 a2_1, .int .i64 a2_2] 23 (0, 0))) := ⟨by rw [← hq_]; exact (by (with_reducible repeat first | apply blk_drewN | apply blk_drew | apply blk_alloc); exact BK382.out)⟩; have n1_ : Aside0 (Below w.heap.size w wc) := ⟨by rw [← hq_]; exact (by repeat (first | (with_reducible first | exact HB.out | apply below_alloc | apply pw_below_drewN | apply below_drew1 | refine below_set ?_ GE382.out) | exact HB.out))⟩; clear BK382 HB hq_; have BK382 := n0_; have HB := n1_; clear n0_ n1_))) | ((with_reducible refine gate_callee (f := 39) rfl ?_); refine goesLA_ (some 32) rfl rfl Try.func39 rfl #[.int .i64 a1, .int .i64 1, .int .i64 65535] rfl ?_; (with_reducible refine (sawtoothref01_Clamp.calls a1 1 65535 t386 _ A20.out).mono ?_); rintro e w' ⟨rfl, ⟨nd, rfl⟩⟩; refine ⟨_, rfl, ?_⟩; (try (rw [drewN_self wc]; generalize hq_ : World.drewN wc _ = wc; have n0_ : Aside0 (wc.heap[gb382]? = some (.cells #[.bool a2_0, .int .i64 a2_1, .int .i64 a2_2] 23 (0, 0))) := ⟨by rw [← hq_]; exact (by (with_reducible repeat first | apply blk_drewN | apply blk_drew | apply blk_alloc); exact BK382.out)⟩; have n1_ : Aside0 (Below w.heap.size w wc) := ⟨by rw [← hq_]; exact (by repeat (first | (with_reducible first | exact HB.out | apply below_alloc | apply pw_below_drewN | apply below_drew1 | refine below_set ?_ GE382.out) | exact HB.out))⟩; clear BK382 HB hq_; have BK382 := n0_; have HB := n1_; clear n0_ n1_))) | ((with_reducible refine gate_callee (f := 22) rfl ?_); refine goesLA_ (some 34) rfl rfl Try.func22 rfl #[.int .i64 t385, .int .i64 (wrap64 ((wrap64 (x11_16 * 1000000)) * t386))] rfl ?_; (with_reducible refine (sawtoothref02_MulS.calls t385 (wrap64 ((wrap64 (x11_16 * 1000000)) * t386)) t387 t388 t389 _ A21.out).mono ?_); rintro e w25 ⟨rfl, hb⟩; refine ⟨_, rfl, ?_⟩; replace BK382 := bdZ BK382 hb; replace HB := stA hb; clear hb) | ((with_reducible refine gate_dst (N := 13) rfl ?_); refine box_event ?hg (N := 13) ?hd (cs := #[.bool false, .int .u64 0, .int .u64 0]) (t := 35) ?hr ?_; (case hd => rfl); (case hg => rfl); (case hr => first | (go_simp; done) | (go_simp; rfl)); intro gb390 hg w26 hbox hb; have BK390 := Aside0.mk (hbox); obtain ⟨GW390, nHB⟩ := geA hg hb; have GE390 := GW390; obtain ⟨NB382_390, NB390_382, nBK⟩ := nbA BK382 hg hb; replace BK382 := nBK; clear nBK; replace HB := nHB; clear nHB; clear hb hbox hg; have hnb27 := NB390_382.out; have hnc27 := NB382_390.out; have hcz28_0 := czZ BK390 0 (.bool false); have hcz28_1 := czZ BK390 1 (.int .u64 0); have hcz28_2 := czZ BK390 2 (.int .u64 0); have hfz28_0 := blk_frozen BK390.out 0; have hfz28_1 := blk_frozen BK390.out 1; have hfz28_2 := blk_frozen BK390.out 2) | ((with_reducible refine gate_callee (f := 40) rfl ?_); refine goesLA_ (some 42) rfl rfl Try.func40 rfl #[.agg #[.bool t387, .int .u64 t388, .int .u64 t389], .int .u64 (IntKind.u64.wrap (wrap64 ((wrap64 (x12_16 * 65536)) * x10_11)))] rfl ?_; (with_reducible refine (sawtoothref02_DivS.calls t387 t388 t389 (IntKind.u64.wrap (wrap64 ((wrap64 (x12_16 * 65536)) * x10_11))) t391 t392 t393 t394 t395 _ A22.out).mono ?_); rintro e w29 ⟨rfl, hb⟩; refine ⟨_, rfl, ?_⟩; replace BK382 := bfZ BK382 (fun h_ => by (with_reducible repeat first | apply blk_drewN | apply blk_drew | apply blk_alloc | refine farZ ?_ NB382_390 _); exact h_) hb; replace BK390 := Aside0.mk (blk_below (g := gb390) (o := .cells #[.bool t387, .int .u64 t388, .int .u64 t389] 35 (0, 0)) (by (with_reducible repeat first | apply blk_drewN | apply blk_drew | apply blk_alloc); refine blk_put (cs := #[.bool t387, .int .u64 t388, .int .u64 0]) ?_ 2 _ rfl; (with_reducible repeat first | apply blk_drewN | apply blk_drew | apply blk_alloc); refine blk_put (cs := #[.bool t387, .int .u64 0, .int .u64 0]) ?_ 1 _ rfl; (with_reducible repeat first | apply blk_drewN | apply blk_drew | apply blk_alloc); refine blk_put (cs := #[.bool false, .int .u64 0, .int .u64 0]) ?_ 0 _ rfl; (with_reducible repeat first | apply blk_drewN | apply blk_drew | apply blk_alloc); exact BK390.out) hb); replace HB := stA hb; clear hb) | ((with_reducible refine gate_dst (N := 14) rfl ?_); refine box_event ?hg (N := 14) ?hd (cs := #[.bool false, .int .u64 0, .int .u64 0]) (t := 35) ?hr ?_; (case hd => rfl); (case hg => rfl); (case hr => first | (go_simp; done) | (go_simp; rfl)); intro gb396 hg w30 hbox hb; have BK396 := Aside0.mk (hbox); obtain ⟨GW396, nHB⟩ := geA hg hb; have GE396 := GW396; obtain ⟨NB382_396, NB396_382, nBK⟩ := nbA BK382 hg hb; replace BK382 := nBK; clear nBK; obtain ⟨NB390_396, NB396_390, nBK⟩ := nbA BK390 hg hb; replace BK390 := nBK; clear nBK; replace HB := nHB; clear nHB; clear hb hbox hg; have hnb31 := NB396_382.out; have hnc31 := NB382_396.out; have hnb32 := NB396_390.out; have hnc32 := NB390_396.out; have hcz33_0 := czZ BK396 0 (.bool false); have hcz33_1 := czZ BK396 1 (.int .u64 0); have hcz33_2 := czZ BK396 2 (.int .u64 0); have hfz33_0 := blk_frozen BK396.out 0; have hfz33_1 := blk_frozen BK396.out 1; have hfz33_2 := blk_frozen BK396.out 2) | ((with_reducible refine gate_callee (f := 41) rfl ?_); refine goesLA_ (some 47) rfl rfl Try.func41 rfl #[.agg #[.bool t391, .int .u64 t392, .int .u64 t393]] rfl ?_; (with_reducible refine (sawtoothref02_IntS.calls t391 t392 t393 t397 _ A23.out).mono ?_); rintro e w34 ⟨rfl, hb⟩; refine ⟨_, rfl, ?_⟩; replace BK382 := bfZ BK382 (fun h_ => by (with_reducible repeat first | apply blk_drewN | apply blk_drew | apply blk_alloc | refine farZ ?_ NB382_396 _); exact h_) hb; replace BK390 := bfZ BK390 (fun h_ => by (with_reducible repeat first | apply blk_drewN | apply blk_drew | apply blk_alloc | refine farZ ?_ NB390_396 _); exact h_) hb; replace BK396 := Aside0.mk (blk_below (g := gb396) (o := .cells #[.bool t391, .int .u64 t392, .int .u64 t393] 35 (0, 0)) (by (with_reducible repeat first | apply blk_drewN | apply blk_drew | apply blk_alloc); refine blk_put (cs := #[.bool t391, .int .u64 t392, .int .u64 0]) ?_ 2 _ rfl; (with_reducible repeat first | apply blk_drewN | apply blk_drew | apply blk_alloc); refine blk_put (cs := #[.bool t391, .int .u64 0, .int .u64 0]) ?_ 1 _ rfl; (with_reducible repeat first | apply blk_drewN | apply blk_drew | apply blk_alloc); refine blk_put (cs := #[.bool false, .int .u64 0, .int .u64 0]) ?_ 0 _ rfl; (with_reducible repeat first | apply blk_drewN | apply blk_drew | apply blk_alloc); exact BK396.out) hb); replace HB := stA hb; clear hb))
       go_ret
       exact ⟨by first | rfl | (simp [errW_none, errW_some] <;> rfl) | (simp only [← hji24]; first | rfl | (simp [errW_none, errW_some] <;> rfl)) | (simp [*, errW_none, errW_some] <;> rfl), by repeat (first | (with_reducible first | exact HB.out | apply below_alloc | apply pw_below_drewN | apply below_drew1 | refine below_set ?_ (Aside0.out (by assumption))) | exact HB.out)⟩

/-! ### sawtoothref17_OfS: a rate: pure, behind function 19 -/
noncomputable def sawtoothref17_OfS.f (a b : Int) (has : Bool) (mean far : Int) (slow : Bool) : Option Int := Go.Proofs.Ytghpecgpdhaibaa.Sp.need (Go.Proofs.Ytghpecgpdhaibaa.Sp.I a ∧ Go.Proofs.Ytghpecgpdhaibaa.Sp.I b ∧ Go.Proofs.Ytghpecgpdhaibaa.Sp.I mean ∧ Go.Proofs.Ytghpecgpdhaibaa.Sp.I far) (some (Go.Proofs.Ytghpecgpdhaibaa.Sp.rateQ a b (Go.Proofs.Ytghpecgpdhaibaa.Sp.timeQ has mean far) slow))
section
open Go.Proofs.Ytghpecgpdhaibaa.Sp
theorem sawtoothref17_OfS.eq {a b : Int} {has : Bool} {mean far : Int} {slow : Bool} (h1 : I a) (h2 : I b) (h3 : I mean) (h4 : I far) : sawtoothref17_OfS.f a b has mean far slow = some (rateQ a b (timeQ has mean far) slow) := need_pos ⟨h1, h2, h3, h4⟩
theorem sawtoothref17_Of.tail {a b T : Int} {slow : Bool} (h1 : 1 ≤ T) (h2 : T ≤ 1073741824) (k : Nat) : sawtoothref17_Of.j1 (k + 2) a b slow T = some (rateQ a b T slow) := by
 have ec : ∀ x l u : Int, sawtoothref01_Clamp.f x l u = some (clamp x l u) := by
  intro x l u; unfold sawtoothref01_Clamp.f clamp; split
  ·rfl
  ·split <;> rfl
 have hI := rate_I a b h1 h2 slow; have hN := rateN_bd a b slow; have hD := rateD_bd h1 h2 slow; have c1 := clamp_bd (a := a) (low := 0) (high := 68719476736) (by omega); have c2 := clamp_bd (a := b) (low := 1) (high := 65535) (by omega)
 have fin : ∀ n d : Int, n = (if slow = true then 2 else 5) → d = (if slow = true then 1 else 4) → sawtoothref17_Of.j2 (k + 1) a b T n d = some (rateQ a b T slow) := by
  intro n d hn hd
  have n1 : 2 ≤ n ∧ n ≤ 5 := by rw [hn]; cases slow <;> simp
  have d1 : 1 ≤ d ∧ d ≤ 4 := by rw [hd]; cases slow <;> simp
  have m1 : 0 ≤ n * 1000000 * clamp b 1 65535 ∧ n * 1000000 * clamp b 1 65535 ≤ 5000000 * 65535 := mul_le (by omega) (by omega) (by omega) c2.2
  have eN : clamp a 0 68719476736 * (n * 1000000 * clamp b 1 65535) = rateN a b slow := by
   unfold rateN
   rw [← hn, Int.mul_assoc (clamp a 0 68719476736) n, Int.mul_assoc n, Int.mul_comm 1000000]
  have eD : d * 65536 * T = rateD T slow := by rw [hd]; rfl
  rw [sawtoothref17_Of.j2]
  unfold sawtoothref02_MulS.f sawtoothref02_DivS.f sawtoothref02_IntS.f
  simp only [ec, Option.bind_some]
  rw [w64 (x := n * 1000000) (by omega), w64 (x := n * 1000000 * clamp b 1 65535) (by omega), w64 (x := d * 65536) (by omega), eD, w64 (x := rateD T slow) (by omega), u64w_in (x := rateD T slow) (by omega), mulF_eq (by omega) (by omega), eN]
  simp only [Option.bind_some]
  rw [divF_enc (by omega) (by omega), quo_pos (by omega)]
  simp only [Option.bind_some]
  rw [intF_enc (by omega), near_in (by omega)]
  rfl
 rw [sawtoothref17_Of.j1]
 by_cases s : slow = true
 ·rw [if_pos s]; exact fin 2 1 (by rw [if_pos s]) (by rw [if_pos s])
 ·rw [if_neg s]; exact fin 5 4 (by rw [if_neg s]) (by rw [if_neg s])
theorem sawtoothref17_Of.main {a b : Int} {has : Bool} {mean far : Int} {slow : Bool} (h3 : I mean) (h4 : I far) : sawtoothref17_Of.f 3 a b has mean far slow = some (rateQ a b (timeQ has mean far) slow) := by
 have et := timeQ_bd has mean far; have key := sawtoothref17_Of.tail (a := a) (b := b) (slow := slow) et.1 et.2 0
 unfold sawtoothref17_Of.f sawtoothref06_Check.f
 have jp : sawtoothref17_Of.j0 3 a b slow 100000 true has mean far = sawtoothref17_Of.j1 2 a b slow (wrap64 (Int.tdiv mean 8)) := by rw [sawtoothref17_Of.j0, if_pos rfl]; rfl
 have jn : sawtoothref17_Of.j0 3 a b slow 100000 false has mean far = sawtoothref17_Of.j1 2 a b slow 100000 := by rw [sawtoothref17_Of.j0, if_neg (by simp)]
 cases has
 ·have hT : timeQ false mean far = 100000 := by unfold timeQ; simp
  rw [hT] at key ⊢
  simp only [Bool.false_eq_true, if_false]
  split <;> simp only [Option.bind_some] <;> (try split) <;> rw [jn] <;> exact key
 ·simp only [if_true]
  have hN : ¬ (8 ≤ mean ∧ mean ≤ 8589934592 ∧ 0 ≤ far ∧ far ≤ 4294967296) → timeQ true mean far = 100000 := by
   intro k; unfold timeQ; rw [if_neg]; rintro ⟨_, k1, k2, k3, k4⟩; exact k ⟨k1, k2, k3, k4⟩
  by_cases x1 : mean ≥ 8
  ·by_cases x2 : mean ≤ 8589934592
   ·by_cases x3 : far ≥ 0
    ·by_cases x4 : far ≤ 4294967296
     ·have e : wrap64 (Int.tdiv mean 8) = mean / 8 := by rw [Int.tdiv_eq_ediv_of_nonneg (by omega), w64 (by omega)]
      have hT : timeQ true mean far = mean / 8 := by unfold timeQ; rw [if_pos ⟨rfl, x1, x2, x3, x4⟩]
      rw [hT] at key ⊢
      simp only [if_pos x1, if_pos x2, if_pos x3, Option.bind_some]
      rw [decide_eq_true x4, if_pos rfl, jp, e]; exact key
     ·rw [hN (by omega)] at key ⊢
      simp only [if_pos x1, if_pos x2, if_pos x3, Option.bind_some]
      rw [decide_eq_false x4, if_neg (by simp), jn]; exact key
    ·rw [hN (by omega)] at key ⊢
     simp only [if_pos x1, if_pos x2, if_neg x3, Option.bind_some, Bool.false_eq_true, if_false]
     rw [jn]; exact key
   ·rw [hN (by omega)] at key ⊢
    simp only [if_pos x1, if_neg x2, Option.bind_some, Bool.false_eq_true, if_false]
    rw [jn]; exact key
  ·rw [hN (by omega)] at key ⊢
   simp only [if_neg x1, Option.bind_some, Bool.false_eq_true, if_false]
   rw [jn]; exact key
end
theorem sawtoothref17_OfS.calls (a0 a1 : Int) (a2_0 : Bool) (a2_1 a2_2 : Int) (a3 : Bool) (r : Int) (w : World) (h : sawtoothref17_OfS.f a0 a1 a2_0 a2_1 a2_2 a3 = some r) :
  Calls Try.prog 19 #[.int .i64 a0, .int .i64 a1, .agg #[.bool a2_0, .int .i64 a2_1, .int .i64 a2_2], .bool a3] w fun e w' => e = .returned (.int .i64 r) ∧ Below w.heap.size w w' := by
 obtain ⟨⟨h1, h2, h3, h4⟩, h⟩ := Go.Proofs.Ytghpecgpdhaibaa.Sp.need_some h; exact sawtoothref17_Of.calls 3 a0 a1 a2_0 a2_1 a2_2 a3 r w (by rw [sawtoothref17_Of.main h3 h4]; exact h)

end Go.Proofs.Ytghpecgpdhaibaa.Px
