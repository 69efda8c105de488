/- Printed by px.py, over the kit's print. Conditions: none beside the theorems' own. -/
import Derived.Test.YtgakpcfmgcpeaaaDoorPx0
import Derived.Test.YtgakpcfmgcpeaaaDoorPx38
import Derived.Test.YtgakpcfmgcpeaaaDoorSpec
namespace Go.Proofs.YtgakpcfmgcpeaaaDoor.Px
open Go.RowKit Go.Proofs.YtgakpcfmgcpeaaaDoorW.PrintWords Go.Proofs.YtgakpcfmgcpeaaaDoorW.PrintLast Go.Proofs.YtgakpcfmgcpeaaaDoorW.PrintMore
attribute [local go_sem] max2_int min2_int max_two min_two max_three min_three max_four min_four
set_option linter.unusedVariables false
set_option linter.unusedSimpArgs false

/-! ### sawtoothref12_Reach: function 12 -/
mutual
noncomputable def sawtoothref12_Reach.j0 : Nat → Int → Bool → Bool → Int → Int → Int → Int → Int → Option (Int × Bool)
 | 0, _, _, _, _, _, _, _, _ => none
 | k + 1, x1, x29, x506000, x506001, x506002, x506003, x506004, x506005 => if x29 = true then (some (0, false)) else ((sawtoothref12_AtS.f x506000 x506001 x506002 x506003 x506004 x506005 x506001).bind fun t508 => (if t508 ≥ x1 then (some (0, true)) else (sawtoothref12_Reach.l0 k x1 0 4294967296 x506000 x506001 x506002 x506003 x506004 x506005)))
noncomputable def sawtoothref12_Reach.l0 : Nat → Int → Int → Int → Bool → Int → Int → Int → Int → Int → Option (Int × Bool)
 | 0, _, _, _, _, _, _, _, _, _ => none
 | k + 1, x1, x7, x8, x506000, x506001, x506002, x506003, x506004, x506005 => if x8 > 0 then (if (wrap64 (x7 + x8)) ≤ (wrap64 (2147483648 + x506004)) then ((sawtoothref12_AtS.f x506000 x506001 x506002 x506003 x506004 x506005 (wrap64 ((wrap64 (x506001 + x7)) + x8))).bind fun t509 => (if t509 < x1 then (sawtoothref12_Reach.l0 k x1 (wrap64 (x7 + x8)) (wrap64 (Int.tdiv x8 2)) x506000 x506001 x506002 x506003 x506004 x506005) else (sawtoothref12_Reach.l0 k x1 x7 (wrap64 (Int.tdiv x8 2)) x506000 x506001 x506002 x506003 x506004 x506005))) else (sawtoothref12_Reach.l0 k x1 x7 (wrap64 (Int.tdiv x8 2)) x506000 x506001 x506002 x506003 x506004 x506005)) else (some (wrap64 (x7 + 1), true))
end
noncomputable def sawtoothref12_Reach.f (k : Nat) (a0_0 : Bool) (a0_1 : Int) (a0_2 : Int) (a0_3 : Int) (a0_4 : Int) (a0_5 : Int) (a1 : Int) : Option (Int × Bool) := (sawtoothref11_CheckS.f a0_0 a0_1 a0_2 a0_3 a0_4 a0_5).bind fun t506 => (if t506 = true then (if a0_0 = true then ((sawtoothref12_AtS.f a0_0 a0_1 a0_2 a0_3 a0_4 a0_5 (wrap64 ((wrap64 (a0_1 + 2147483648)) + a0_4))).bind fun t507 => (sawtoothref12_Reach.j0 k a1 (decide (t507 < a1)) a0_0 a0_1 a0_2 a0_3 a0_4 a0_5)) else (sawtoothref12_Reach.j0 k a1 true a0_0 a0_1 a0_2 a0_3 a0_4 a0_5)) else (sawtoothref12_Reach.j0 k a1 true a0_0 a0_1 a0_2 a0_3 a0_4 a0_5))
set_option maxHeartbeats 8000000 in
set_option maxRecDepth 100000 in
theorem sawtoothref12_Reach.calls (k : Nat) (a0_0 : Bool) (a0_1 : Int) (a0_2 : Int) (a0_3 : Int) (a0_4 : Int) (a0_5 : Int) (a1 : Int) (r1 : Int) (r2 : Bool) (w : World) (h : sawtoothref12_Reach.f k a0_0 a0_1 a0_2 a0_3 a0_4 a0_5 a1 = some (r1, r2)) :
  Calls Tryd.prog 12 #[.agg #[.bool a0_0, .int .i64 a0_1, .int .i64 a0_2, .int .i64 a0_3, .int .i64 a0_4, .int .i64 a0_5], .int .i64 a1] w fun e w' => e = .returned (.tuple #[.int .i64 r1, .bool r2]) ∧ Below w.heap.size w w' := by
 have hu23 := Tryd.underlying23; have HB := Aside0.mk (Below.refl w.heap.size w); have H : ((sawtoothref11_CheckS.f a0_0 a0_1 a0_2 a0_3 a0_4 a0_5).bind fun t506 => (if t506 = true then (if a0_0 = true then ((sawtoothref12_AtS.f a0_0 a0_1 a0_2 a0_3 a0_4 a0_5 (wrap64 ((wrap64 (a0_1 + 2147483648)) + a0_4))).bind fun t507 => (sawtoothref12_Reach.j0 k a1 (decide (t507 < a1)) a0_0 a0_1 a0_2 a0_3 a0_4 a0_5)) else (sawtoothref12_Reach.j0 k a1 true a0_0 a0_1 a0_2 a0_3 a0_4 a0_5)) else (sawtoothref12_Reach.j0 k a1 true a0_0 a0_1 a0_2 a0_3 a0_4 a0_5))) = some (r1, r2) := h; clear h; replace H := Option.bind_eq_some_iff.mp H; obtain ⟨t506, A30, H⟩ := H; (try dsimp only at H); have A3 := Aside0.mk A30; clear A30; have HC4 := Aside0.mk H; clear H
 go_enter Tryd.func12, Tryd.ntmps12
 go_upto_region 2 with (first | ((with_reducible refine gate_dst (N := 2) rfl ?_); refine box_event ?hg (N := 2) ?hd (cs := #[.bool a0_0, .int .i64 a0_1, .int .i64 a0_2, .int .i64 a0_3, .int .i64 a0_4, .int .i64 a0_5]) (t := 23) ?hr ?_; (case hd => rfl); (case hg => rfl); (case hr => first | (go_simp; done) | (go_simp; rfl)); intro gb505 hg w5 hbox hb; have BK505 := Aside0.mk (hbox); obtain ⟨GW505, nHB⟩ := geA hg hb; have GE505 := GW505; replace HB := nHB; clear nHB; clear hb hbox hg; have hcz6_0 := czZ BK505 0 (.bool a0_0); have hcz6_1 := czZ BK505 1 (.int .i64 a0_1); have hcz6_2 := czZ BK505 2 (.int .i64 a0_2); have hcz6_3 := czZ BK505 3 (.int .i64 a0_3); have hcz6_4 := czZ BK505 4 (.int .i64 a0_4); have hcz6_5 := czZ BK505 5 (.int .i64 a0_5); have hfz6_0 := blk_frozen BK505.out 0; have hfz6_1 := blk_frozen BK505.out 1; have hfz6_2 := blk_frozen BK505.out 2; have hfz6_3 := blk_frozen BK505.out 3; have hfz6_4 := blk_frozen BK505.out 4; have hfz6_5 := blk_frozen BK505.out 5) | ((with_reducible refine gate_callee (f := 29) rfl ?_); refine goesLA_ (some 10) rfl rfl Tryd.func29 rfl #[.agg #[.bool a0_0, .int .i64 a0_1, .int .i64 a0_2, .int .i64 a0_3, .int .i64 a0_4, .int .i64 a0_5]] rfl ?_; (with_reducible refine (sawtoothref11_CheckS.calls a0_0 a0_1 a0_2 a0_3 a0_4 a0_5 t506 _ A3.out).mono ?_); rintro e w7 ⟨rfl, hb⟩; refine ⟨_, rfl, ?_⟩; replace BK505 := bdZ BK505 hb; replace HB := stA hb; clear hb))
 (try simp only [Act.put, sA, sB, sC])
 go_cut [29] (fun v29 wc => ∃ (kq : Nat) (x29_3 : Bool), v29 = .bool x29_3 ∧ Aside0 (sawtoothref12_Reach.j0 kq a1 x29_3 a0_0 a0_1 a0_2 a0_3 a0_4 a0_5 = some (r1, r2)) ∧ Aside0 (kq ≤ k) ∧ Aside0 (wc.heap[gb505]? = some (.cells #[.bool a0_0, .int .i64 a0_1, .int .i64 a0_2, .int .i64 a0_3, .int .i64 a0_4, .int .i64 a0_5] 23 (0, 0))) ∧ Aside0 (Below w.heap.size w wc))
 case first =>
  have H := HC4.out; clear HC4
  by_cases c8 : t506 = true
  ·subst c8
   have H1 : (if a0_0 = true then ((sawtoothref12_AtS.f a0_0 a0_1 a0_2 a0_3 a0_4 a0_5 (wrap64 ((wrap64 (a0_1 + 2147483648)) + a0_4))).bind fun t507 => (sawtoothref12_Reach.j0 k a1 (decide (t507 < a1)) a0_0 a0_1 a0_2 a0_3 a0_4 a0_5)) else (sawtoothref12_Reach.j0 k a1 true a0_0 a0_1 a0_2 a0_3 a0_4 a0_5)) = some (r1, r2) := by rw [if_pos rfl] at H; exact H
   clear H; have H := H1; clear H1
   by_cases c9 : a0_0 = true
   ·subst c9
    have H1 : ((sawtoothref12_AtS.f true a0_1 a0_2 a0_3 a0_4 a0_5 (wrap64 ((wrap64 (a0_1 + 2147483648)) + a0_4))).bind fun t507 => (sawtoothref12_Reach.j0 k a1 (decide (t507 < a1)) true a0_1 a0_2 a0_3 a0_4 a0_5)) = some (r1, r2) := by rw [if_pos rfl] at H; exact H
    clear H; have H := H1; clear H1; replace H := Option.bind_eq_some_iff.mp H; obtain ⟨t507, A100, H⟩ := H; replace H : (sawtoothref12_Reach.j0 k a1 (decide (t507 < a1)) true a0_1 a0_2 a0_3 a0_4 a0_5) = some (r1, r2) := H; have A10 := Aside0.mk A100; clear A100; have H' := Aside0.mk H; clear H; have hcz11_0 := czZ BK505 0 (.bool true); have hcz11_1 := czZ BK505 1 (.int .i64 a0_1); have hcz11_2 := czZ BK505 2 (.int .i64 a0_2); have hcz11_3 := czZ BK505 3 (.int .i64 a0_3); have hcz11_4 := czZ BK505 4 (.int .i64 a0_4); have hcz11_5 := czZ BK505 5 (.int .i64 a0_5); have hfz11_0 := blk_frozen BK505.out 0; have hfz11_1 := blk_frozen BK505.out 1; have hfz11_2 := blk_frozen BK505.out 2; have hfz11_3 := blk_frozen BK505.out 3; have hfz11_4 := blk_frozen BK505.out 4; have hfz11_5 := blk_frozen BK505.out 5
    go_wp2_with (first | (go_at_call 16; (with_reducible refine (sawtoothref12_AtS.calls true a0_1 a0_2 a0_3 a0_4 a0_5 (wrap64 ((wrap64 (a0_1 + 2147483648)) + a0_4)) t507 _ A10.out).mono ?_); rintro e w12 ⟨rfl, hb⟩; replace BK505 := bdZ BK505 hb; replace HB := stA hb; clear hb))
    go_meet
    case rel => exact ⟨_, (decide (t507 < a1)), (by first | rfl | (simp; done) | (simp [*]; done)), H', ⟨by first | omega | exact Nat.le_refl _⟩, ⟨by (with_reducible repeat first | apply blk_drewN | apply blk_drew | apply blk_alloc); exact BK505.out⟩, ⟨by repeat (first | (with_reducible first | exact HB.out | apply below_alloc | apply pw_below_drewN | apply below_drew1 | refine below_set ?_ GE505.out) | exact HB.out)⟩⟩
   ·replace c9 := Bool.eq_false_iff.mpr c9
    subst c9
    have H1 : (sawtoothref12_Reach.j0 k a1 true false a0_1 a0_2 a0_3 a0_4 a0_5) = some (r1, r2) := by rw [if_neg (show ¬ (false = true) by decide)] at H; exact H
    clear H; have H := H1; clear H1; have H' := Aside0.mk H; clear H; have hcz13_0 := czZ BK505 0 (.bool false); have hcz13_1 := czZ BK505 1 (.int .i64 a0_1); have hcz13_2 := czZ BK505 2 (.int .i64 a0_2); have hcz13_3 := czZ BK505 3 (.int .i64 a0_3); have hcz13_4 := czZ BK505 4 (.int .i64 a0_4); have hcz13_5 := czZ BK505 5 (.int .i64 a0_5); have hfz13_0 := blk_frozen BK505.out 0; have hfz13_1 := blk_frozen BK505.out 1; have hfz13_2 := blk_frozen BK505.out 2; have hfz13_3 := blk_frozen BK505.out 3; have hfz13_4 := blk_frozen BK505.out 4; have hfz13_5 := blk_frozen BK505.out 5
    go_wp2
    go_meet
    case rel => exact ⟨_, (true), (by first | rfl | (simp; done) | (simp [*]; done)), H', ⟨by first | omega | exact Nat.le_refl _⟩, ⟨by (with_reducible repeat first | apply blk_drewN | apply blk_drew | apply blk_alloc); exact BK505.out⟩, ⟨by repeat (first | (with_reducible first | exact HB.out | apply below_alloc | apply pw_below_drewN | apply below_drew1 | refine below_set ?_ GE505.out) | exact HB.out)⟩⟩
  ·replace c8 := Bool.eq_false_iff.mpr c8
   subst c8
   have H1 : (sawtoothref12_Reach.j0 k a1 true a0_0 a0_1 a0_2 a0_3 a0_4 a0_5) = some (r1, r2) := by rw [if_neg (show ¬ (false = true) by decide)] at H; exact H
   clear H; have H := H1; clear H1; have H' := Aside0.mk H; clear H
   go_wp2
   go_meet
   case rel => exact ⟨_, (true), (by first | rfl | (simp; done) | (simp [*]; done)), H', ⟨by first | omega | exact Nat.le_refl _⟩, ⟨by (with_reducible repeat first | apply blk_drewN | apply blk_drew | apply blk_alloc); exact BK505.out⟩, ⟨by repeat (first | (with_reducible first | exact HB.out | apply below_alloc | apply pw_below_drewN | apply below_drew1 | refine below_set ?_ GE505.out) | exact HB.out)⟩⟩
 case rest =>
  clear HC4
  try clear c1
  try clear c2
  try clear p2
  try clear p6
  try clear c8
  try clear c9
  try clear c12
  try clear hcz11_0
  try clear hcz11_1
  try clear hcz11_2
  try clear hcz11_3
  try clear hcz11_4
  try clear hcz11_5
  try clear hcz13_0
  try clear hcz13_1
  try clear hcz13_2
  try clear hcz13_3
  try clear hcz13_4
  try clear hcz13_5
  try clear hcz6_0
  try clear hcz6_1
  try clear hcz6_2
  try clear hcz6_3
  try clear hcz6_4
  try clear hcz6_5
  try clear hfz11_0
  try clear hfz11_1
  try clear hfz11_2
  try clear hfz11_3
  try clear hfz11_4
  try clear hfz11_5
  try clear hfz13_0
  try clear hfz13_1
  try clear hfz13_2
  try clear hfz13_3
  try clear hfz13_4
  try clear hfz13_5
  try clear hfz6_0
  try clear hfz6_1
  try clear hfz6_2
  try clear hfz6_3
  try clear hfz6_4
  try clear hfz6_5
  obtain ⟨kq, x29_3, rfl, HA, HJ3, BK505, HB⟩ := hcut
  cases kq with
  | zero => exact absurd HA.out (by simp [sawtoothref12_Reach.j0])
  | succ kj3 =>
   have H := HA.out; clear HA; simp only [sawtoothref12_Reach.j0] at H
   by_cases c14 : x29_3 = true
   ·subst c14
    have H1 : (some (0, false)) = some (r1, r2) := by rw [if_pos rfl] at H; exact H
    clear H; have H := H1; clear H1; simp only [Option.some.injEq, Prod.mk.injEq] at H; obtain ⟨rfl, rfl⟩ := H
    go_wp2
    go_ret2
    exact ⟨by first | rfl | (simp [errW_none, errW_some] <;> rfl) | (simp [*, errW_none, errW_some] <;> rfl), by repeat (first | (with_reducible first | exact HB.out | apply below_alloc | apply pw_below_drewN | apply below_drew1 | refine below_set ?_ GE505.out) | exact HB.out)⟩
   ·replace c14 := Bool.eq_false_iff.mpr c14
    subst c14
    have H1 : ((sawtoothref12_AtS.f a0_0 a0_1 a0_2 a0_3 a0_4 a0_5 a0_1).bind fun t508 => (if t508 ≥ a1 then (some (0, true)) else (sawtoothref12_Reach.l0 kj3 a1 0 4294967296 a0_0 a0_1 a0_2 a0_3 a0_4 a0_5))) = some (r1, r2) := by rw [if_neg (show ¬ (false = true) by decide)] at H; exact H
    clear H; have H := H1; clear H1; replace H := Option.bind_eq_some_iff.mp H; obtain ⟨t508, A150, H⟩ := H; replace H : (if t508 ≥ a1 then (some (0, true)) else (sawtoothref12_Reach.l0 kj3 a1 0 4294967296 a0_0 a0_1 a0_2 a0_3 a0_4 a0_5)) = some (r1, r2) := H; have A15 := Aside0.mk A150; clear A150
    by_cases c16 : t508 ≥ a1
    ·rw [if_pos c16] at H
     have c16b0 : decide (a1 ≤ t508) = true := decide_eq_true c16; clear c16; simp only [Option.some.injEq, Prod.mk.injEq] at H; obtain ⟨rfl, rfl⟩ := H; have hcz17_0 : wc.cell? ⟨gb505, 0, none⟩ = some (.bool a0_0) := (blk_cell BK505.out 0).trans rfl; have hcz17_1 : wc.cell? ⟨gb505, 1, none⟩ = some (.int .i64 a0_1) := (blk_cell BK505.out 1).trans rfl; have hcz17_2 : wc.cell? ⟨gb505, 2, none⟩ = some (.int .i64 a0_2) := (blk_cell BK505.out 2).trans rfl; have hcz17_3 : wc.cell? ⟨gb505, 3, none⟩ = some (.int .i64 a0_3) := (blk_cell BK505.out 3).trans rfl; have hcz17_4 : wc.cell? ⟨gb505, 4, none⟩ = some (.int .i64 a0_4) := (blk_cell BK505.out 4).trans rfl; have hcz17_5 : wc.cell? ⟨gb505, 5, none⟩ = some (.int .i64 a0_5) := (blk_cell BK505.out 5).trans rfl; have hfz17_0 := blk_frozen BK505.out 0; have hfz17_1 := blk_frozen BK505.out 1; have hfz17_2 := blk_frozen BK505.out 2; have hfz17_3 := blk_frozen BK505.out 3; have hfz17_4 := blk_frozen BK505.out 4; have hfz17_5 := blk_frozen BK505.out 5
     go_wp2_with (first | ((with_reducible refine gate_callee (f := 16) rfl ?_); refine goesLA_ (some 33) rfl rfl Tryd.func16 rfl #[.agg #[.bool a0_0, .int .i64 a0_1, .int .i64 a0_2, .int .i64 a0_3, .int .i64 a0_4, .int .i64 a0_5], .int .i64 a0_1] rfl ?_; (with_reducible refine (sawtoothref12_AtS.calls a0_0 a0_1 a0_2 a0_3 a0_4 a0_5 a0_1 t508 _ A15.out).mono ?_); rintro e w18 ⟨rfl, hb⟩; refine ⟨_, rfl, ?_⟩; replace BK505 := bdZ BK505 hb; replace HB := stA hb; clear hb))
     go_ret2
     exact ⟨by first | rfl | (simp [errW_none, errW_some] <;> rfl) | (simp [*, errW_none, errW_some] <;> rfl), by repeat (first | (with_reducible first | exact HB.out | apply below_alloc | apply pw_below_drewN | apply below_drew1 | refine below_set ?_ GE505.out) | exact HB.out)⟩
    ·rw [if_neg c16] at H
     have c16b0 : decide (a1 ≤ t508) = false := decide_eq_false c16; clear c16; have H' := Aside0.mk H; clear H; have hcz19_0 : wc.cell? ⟨gb505, 0, none⟩ = some (.bool a0_0) := (blk_cell BK505.out 0).trans rfl; have hcz19_1 : wc.cell? ⟨gb505, 1, none⟩ = some (.int .i64 a0_1) := (blk_cell BK505.out 1).trans rfl; have hcz19_2 : wc.cell? ⟨gb505, 2, none⟩ = some (.int .i64 a0_2) := (blk_cell BK505.out 2).trans rfl; have hcz19_3 : wc.cell? ⟨gb505, 3, none⟩ = some (.int .i64 a0_3) := (blk_cell BK505.out 3).trans rfl; have hcz19_4 : wc.cell? ⟨gb505, 4, none⟩ = some (.int .i64 a0_4) := (blk_cell BK505.out 4).trans rfl; have hcz19_5 : wc.cell? ⟨gb505, 5, none⟩ = some (.int .i64 a0_5) := (blk_cell BK505.out 5).trans rfl; have hfz19_0 := blk_frozen BK505.out 0; have hfz19_1 := blk_frozen BK505.out 1; have hfz19_2 := blk_frozen BK505.out 2; have hfz19_3 := blk_frozen BK505.out 3; have hfz19_4 := blk_frozen BK505.out 4; have hfz19_5 := blk_frozen BK505.out 5
     go_wp2_with (first | ((with_reducible refine gate_callee (f := 16) rfl ?_); refine goesLA_ (some 33) rfl rfl Tryd.func16 rfl #[.agg #[.bool a0_0, .int .i64 a0_1, .int .i64 a0_2, .int .i64 a0_3, .int .i64 a0_4, .int .i64 a0_5], .int .i64 a0_1] rfl ?_; (with_reducible refine (sawtoothref12_AtS.calls a0_0 a0_1 a0_2 a0_3 a0_4 a0_5 a0_1 t508 _ A15.out).mono ?_); rintro e w20 ⟨rfl, hb⟩; refine ⟨_, rfl, ?_⟩; replace BK505 := bdZ BK505 hb; replace HB := stA hb; clear hb))
     go_loopg [7, 8] kj3 (fun kq v7 v8 w' => ∃ (x7_2 : Int) (x8_2 : Int), v7 = .int .i64 x7_2 ∧ v8 = .int .i64 x8_2 ∧ Aside0 (sawtoothref12_Reach.l0 kq a1 x7_2 x8_2 a0_0 a0_1 a0_2 a0_3 a0_4 a0_5 = some (r1, r2)) ∧ Aside0 (kq ≤ kj3) ∧ Aside0 (w'.heap[gb505]? = some (.cells #[.bool a0_0, .int .i64 a0_1, .int .i64 a0_2, .int .i64 a0_3, .int .i64 a0_4, .int .i64 a0_5] 23 (0, 0))) ∧ Aside0 (Below w.heap.size w w'))
     case atStart => exact ⟨(0), (4294967296), (by first | rfl | (simp; done) | (simp [*]; done)), (by first | rfl | (simp; done) | (simp [*]; done)), H', ⟨Nat.le_refl _⟩, ⟨by (with_reducible repeat first | apply blk_drewN | apply blk_drew | apply blk_alloc); exact BK505.out⟩, ⟨by repeat (first | (with_reducible first | exact HB.out | apply below_alloc | apply pw_below_drewN | apply below_drew1 | refine below_set ?_ GE505.out) | exact HB.out)⟩⟩
     case round =>
      clear H'
      try clear c1
      try clear c2
      try clear p2
      try clear p6
      try clear c8
      try clear c9
      try clear c12
      try clear c14
      try clear c16
      try clear c16b0
      try clear hcz11_0
      try clear hcz11_1
      try clear hcz11_2
      try clear hcz11_3
      try clear hcz11_4
      try clear hcz11_5
      try clear hcz13_0
      try clear hcz13_1
      try clear hcz13_2
      try clear hcz13_3
      try clear hcz13_4
      try clear hcz13_5
      try clear hcz17_0
      try clear hcz17_1
      try clear hcz17_2
      try clear hcz17_3
      try clear hcz17_4
      try clear hcz17_5
      try clear hcz19_0
      try clear hcz19_1
      try clear hcz19_2
      try clear hcz19_3
      try clear hcz19_4
      try clear hcz19_5
      try clear hcz6_0
      try clear hcz6_1
      try clear hcz6_2
      try clear hcz6_3
      try clear hcz6_4
      try clear hcz6_5
      try clear hfz11_0
      try clear hfz11_1
      try clear hfz11_2
      try clear hfz11_3
      try clear hfz11_4
      try clear hfz11_5
      try clear hfz13_0
      try clear hfz13_1
      try clear hfz13_2
      try clear hfz13_3
      try clear hfz13_4
      try clear hfz13_5
      try clear hfz17_0
      try clear hfz17_1
      try clear hfz17_2
      try clear hfz17_3
      try clear hfz17_4
      try clear hfz17_5
      try clear hfz19_0
      try clear hfz19_1
      try clear hfz19_2
      try clear hfz19_3
      try clear hfz19_4
      try clear hfz19_5
      try clear hfz6_0
      try clear hfz6_1
      try clear hfz6_2
      try clear hfz6_3
      try clear hfz6_4
      try clear hfz6_5
      try clear p2
      try clear p6
      obtain ⟨x7_2, x8_2, rfl, rfl, HA, HK2, BK505, HB⟩ := hrel
      cases gk with
      | zero => exact absurd HA.out (by simp [sawtoothref12_Reach.l0])
      | succ k2 =>
       have H := HA.out; clear HA; simp only [sawtoothref12_Reach.l0] at H
       by_cases c21 : x8_2 > 0
       ·rw [if_pos c21] at H
        have c21b0 : decide (0 < x8_2) = true := decide_eq_true c21; clear c21
        by_cases c22 : (wrap64 (x7_2 + x8_2)) ≤ (wrap64 (2147483648 + a0_4))
        ·rw [if_pos c22] at H
         have c22b0 : decide ((wrap64 (x7_2 + x8_2)) ≤ (wrap64 (2147483648 + a0_4))) = true := decide_eq_true c22; clear c22; replace H := Option.bind_eq_some_iff.mp H; obtain ⟨t509, A230, H⟩ := H; (try dsimp only at H); have A23 := Aside0.mk A230; clear A230
         by_cases c24 : t509 < a1
         ·rw [if_pos c24] at H
          have c24b0 : decide (t509 < a1) = true := decide_eq_true c24; clear c24; have H' := Aside0.mk H; clear H; have hcz25_0 : wr.cell? ⟨gb505, 0, none⟩ = some (.bool a0_0) := (blk_cell BK505.out 0).trans rfl; have hcz25_1 : wr.cell? ⟨gb505, 1, none⟩ = some (.int .i64 a0_1) := (blk_cell BK505.out 1).trans rfl; have hcz25_2 : wr.cell? ⟨gb505, 2, none⟩ = some (.int .i64 a0_2) := (blk_cell BK505.out 2).trans rfl; have hcz25_3 : wr.cell? ⟨gb505, 3, none⟩ = some (.int .i64 a0_3) := (blk_cell BK505.out 3).trans rfl; have hcz25_4 : wr.cell? ⟨gb505, 4, none⟩ = some (.int .i64 a0_4) := (blk_cell BK505.out 4).trans rfl; have hcz25_5 : wr.cell? ⟨gb505, 5, none⟩ = some (.int .i64 a0_5) := (blk_cell BK505.out 5).trans rfl; have hfz25_0 := blk_frozen BK505.out 0; have hfz25_1 := blk_frozen BK505.out 1; have hfz25_2 := blk_frozen BK505.out 2; have hfz25_3 := blk_frozen BK505.out 3; have hfz25_4 := blk_frozen BK505.out 4; have hfz25_5 := blk_frozen BK505.out 5
          go_wp2_with (first | (go_at_call 16; (with_reducible refine (sawtoothref12_AtS.calls a0_0 a0_1 a0_2 a0_3 a0_4 a0_5 (wrap64 ((wrap64 (a0_1 + x7_2)) + x8_2)) t509 _ A23.out).mono ?_); rintro e w26 ⟨rfl, hb⟩; replace BK505 := bdZ BK505 hb; replace HB := stA hb; clear hb))
          go_roundg k2
          case measure => have := HJ3.out; have := HK2.out; omega
          case rel => exact ⟨(wrap64 (x7_2 + x8_2)), (wrap64 (Int.tdiv x8_2 2)), (by first | rfl | (simp; done) | (simp [*]; done)), (by first | rfl | (simp; done) | (simp [*]; done)), H', ⟨by have := HJ3.out; have := HK2.out; omega⟩, ⟨by (with_reducible repeat first | apply blk_drewN | apply blk_drew | apply blk_alloc); exact BK505.out⟩, ⟨by repeat (first | (with_reducible first | exact HB.out | apply below_alloc | apply pw_below_drewN | apply below_drew1 | refine below_set ?_ GE505.out) | exact HB.out)⟩⟩
         ·rw [if_neg c24] at H
          have c24b0 : decide (t509 < a1) = false := decide_eq_false c24; clear c24; have H' := Aside0.mk H; clear H; have hcz27_0 : wr.cell? ⟨gb505, 0, none⟩ = some (.bool a0_0) := (blk_cell BK505.out 0).trans rfl; have hcz27_1 : wr.cell? ⟨gb505, 1, none⟩ = some (.int .i64 a0_1) := (blk_cell BK505.out 1).trans rfl; have hcz27_2 : wr.cell? ⟨gb505, 2, none⟩ = some (.int .i64 a0_2) := (blk_cell BK505.out 2).trans rfl; have hcz27_3 : wr.cell? ⟨gb505, 3, none⟩ = some (.int .i64 a0_3) := (blk_cell BK505.out 3).trans rfl; have hcz27_4 : wr.cell? ⟨gb505, 4, none⟩ = some (.int .i64 a0_4) := (blk_cell BK505.out 4).trans rfl; have hcz27_5 : wr.cell? ⟨gb505, 5, none⟩ = some (.int .i64 a0_5) := (blk_cell BK505.out 5).trans rfl; have hfz27_0 := blk_frozen BK505.out 0; have hfz27_1 := blk_frozen BK505.out 1; have hfz27_2 := blk_frozen BK505.out 2; have hfz27_3 := blk_frozen BK505.out 3; have hfz27_4 := blk_frozen BK505.out 4; have hfz27_5 := blk_frozen BK505.out 5
          go_wp2_with (first | (go_at_call 16; (with_reducible refine (sawtoothref12_AtS.calls a0_0 a0_1 a0_2 a0_3 a0_4 a0_5 (wrap64 ((wrap64 (a0_1 + x7_2)) + x8_2)) t509 _ A23.out).mono ?_); rintro e w28 ⟨rfl, hb⟩; replace BK505 := bdZ BK505 hb; replace HB := stA hb; clear hb))
          go_roundg k2
          case measure => have := HJ3.out; have := HK2.out; omega
          case rel => exact ⟨(x7_2), (wrap64 (Int.tdiv x8_2 2)), (by first | rfl | (simp; done) | (simp [*]; done)), (by first | rfl | (simp; done) | (simp [*]; done)), H', ⟨by have := HJ3.out; have := HK2.out; omega⟩, ⟨by (with_reducible repeat first | apply blk_drewN | apply blk_drew | apply blk_alloc); exact BK505.out⟩, ⟨by repeat (first | (with_reducible first | exact HB.out | apply below_alloc | apply pw_below_drewN | apply below_drew1 | refine below_set ?_ GE505.out) | exact HB.out)⟩⟩
        ·rw [if_neg c22] at H
         have c22b0 : decide ((wrap64 (x7_2 + x8_2)) ≤ (wrap64 (2147483648 + a0_4))) = false := decide_eq_false c22; clear c22; have H' := Aside0.mk H; clear H; have hcz29_0 : wr.cell? ⟨gb505, 0, none⟩ = some (.bool a0_0) := (blk_cell BK505.out 0).trans rfl; have hcz29_1 : wr.cell? ⟨gb505, 1, none⟩ = some (.int .i64 a0_1) := (blk_cell BK505.out 1).trans rfl; have hcz29_2 : wr.cell? ⟨gb505, 2, none⟩ = some (.int .i64 a0_2) := (blk_cell BK505.out 2).trans rfl; have hcz29_3 : wr.cell? ⟨gb505, 3, none⟩ = some (.int .i64 a0_3) := (blk_cell BK505.out 3).trans rfl; have hcz29_4 : wr.cell? ⟨gb505, 4, none⟩ = some (.int .i64 a0_4) := (blk_cell BK505.out 4).trans rfl; have hcz29_5 : wr.cell? ⟨gb505, 5, none⟩ = some (.int .i64 a0_5) := (blk_cell BK505.out 5).trans rfl; have hfz29_0 := blk_frozen BK505.out 0; have hfz29_1 := blk_frozen BK505.out 1; have hfz29_2 := blk_frozen BK505.out 2; have hfz29_3 := blk_frozen BK505.out 3; have hfz29_4 := blk_frozen BK505.out 4; have hfz29_5 := blk_frozen BK505.out 5
         go_wp2
         go_roundg k2
         case measure => have := HJ3.out; have := HK2.out; omega
         case rel => exact ⟨(x7_2), (wrap64 (Int.tdiv x8_2 2)), (by first | rfl | (simp; done) | (simp [*]; done)), (by first | rfl | (simp; done) | (simp [*]; done)), H', ⟨by have := HJ3.out; have := HK2.out; omega⟩, ⟨by (with_reducible repeat first | apply blk_drewN | apply blk_drew | apply blk_alloc); exact BK505.out⟩, ⟨by repeat (first | (with_reducible first | exact HB.out | apply below_alloc | apply pw_below_drewN | apply below_drew1 | refine below_set ?_ GE505.out) | exact HB.out)⟩⟩
       ·rw [if_neg c21] at H
        have c21b0 : decide (0 < x8_2) = false := decide_eq_false c21; clear c21; simp only [Option.some.injEq, Prod.mk.injEq] at H; obtain ⟨rfl, rfl⟩ := H
        go_wp2
        go_ret2
        exact ⟨by first | rfl | (simp [errW_none, errW_some] <;> rfl) | (simp [*, errW_none, errW_some] <;> rfl), by repeat (first | (with_reducible first | exact HB.out | apply below_alloc | apply pw_below_drewN | apply below_drew1 | refine below_set ?_ GE505.out) | exact HB.out)⟩

/-! ### sawtoothref12_ReachS: pure, behind function 12 -/
section
open Go.Proofs.YtgakpcfmgcpeaaaDoor.Sp
noncomputable def sawtoothref12_ReachS.f (on : Bool) (s : Int) (f : Int) (m : Int) (k : Int) (e : Int) (w : Int) : Option (Int × Bool) := need ((I s) ∧ (I f) ∧ (I m) ∧ (I k) ∧ (I w)) (some (reachQ on s f m k e w))
theorem sawtoothref12_ReachS.eq {on : Bool} {s : Int} {f : Int} {m : Int} {k : Int} {e : Int} {w : Int} (h1 : I s) (h2 : I f) (h3 : I m) (h4 : I k) (h5 : I w) : sawtoothref12_ReachS.f on s f m k e w = some (reachQ on s f m k e w) := need_pos ⟨h1, h2, h3, h4, h5⟩
theorem sawtoothref12_Reach.main {on : Bool} {s : Int} {f : Int} {m : Int} {k : Int} {e : Int} {w : Int} (h1 : I s) (h2 : I f) (h3 : I m) (h4 : I k) (h5 : I w) : sawtoothref12_Reach.f 35 on s f m k e w = some (reachQ on s f m k e w) := by
 unfold sawtoothref12_Reach.f
 rw [sawtoothref11_CheckS.eq h1 h2 h3]
 simp only [Option.bind_some]
 unfold reachQ
 by_cases c : on = true ∧ eOk on s f m k e = true
 ·obtain ⟨rfl, c2⟩ := c; have ev := eOk_on.1 c2; have kb := eOn_k ev; have mb := ev
  unfold eOn at mb
  have at' : ∀ t, atQ true s f m k e t = lawQ m k (t - s) := by intro t; unfold atQ; rw [if_pos ⟨rfl, c2⟩]
  rw [if_pos c2, if_pos rfl, w64 (x := s + 2147483648) (by omega), w64 (x := s + 2147483648 + k) (by omega), sawtoothref12_AtS.eq h1 h2 h3 h4 (by omega), at', show s + 2147483648 + k - s = 2147483648 + k by omega]
  simp only [Option.bind_some]
  by_cases c3 : w ≤ lawQ m k (2147483648 + k)
  ·rw [if_pos (by exact ⟨⟨by trivial, c2⟩, c3⟩)]
   obtain ⟨n0, n1, n2, n3⟩ := reachN_spec (h := 2147483648 + k) (by omega) c3; have dd : decide (lawQ m k (2147483648 + k) < w) = false := decide_eq_false (by omega)
   rw [dd, sawtoothref12_Reach.j0]
   rw [if_neg (by simp), sawtoothref12_AtS.eq h1 h2 h3 h4 h1, at', show s - s = 0 by omega]
   simp only [Option.bind_some]
   by_cases c4 : lawQ m k 0 ≥ w
   ·rw [if_pos c4, reachN_eq (n := 0) (by omega) c4 (by omega)]
   ·rw [if_neg c4]
    have n4 : 0 < reachN m k w := by
     rcases Int.lt_or_le 0 (reachN m k w) with x | x
     ·exact x
     ·have : reachN m k w = 0 := by omega
      rw [this] at n2; omega
    generalize reachN m k w = N at *
    have loop : ∀ (n : Nat) (out : Int), n ≤ 33 → 0 ≤ out → out ≤ N - 1 → N - 1 < out + 2 ^ n → out + 2 ^ n ≤ 17179869184 → sawtoothref12_Reach.l0 (n + 1) w out (if n = 0 then 0 else 2 ^ (n - 1)) true s f m k e = some (N, true) := by
     intro n
     induction n with
     | zero =>
      intro out _ o0 o1 o2 o3
      rw [sawtoothref12_Reach.l0]
      simp at o2
      rw [if_neg (by simp), w64 (by omega)]
      congr 2; omega
     | succ n ih =>
      intro out hn o0 o1 o2 o3
      rw [if_neg (by omega), show n + 1 - 1 = n by omega]
      rw [Int.pow_succ] at o2 o3
      have p0 : (0 : Int) < 2 ^ n := Int.pow_pos (by omega)
      have nx : RowKit.wrap64 (Int.tdiv (2 ^ n) 2) = if n = 0 then 0 else 2 ^ (n - 1) := by
       rw [Int.tdiv_eq_ediv_of_nonneg (by omega)]
       cases n with
       | zero => rw [if_pos rfl, show (2 : Int) ^ 0 / 2 = 0 from rfl, w64 (by omega)]
       | succ m =>
        rw [if_neg (by omega), show m + 1 - 1 = m by omega]
        rw [Int.pow_succ] at *
        have q0 : (0 : Int) < 2 ^ m := Int.pow_pos (by omega)
        generalize (2 : Int) ^ m = q at *
        rw [w64 (by omega)]; omega
      have ih' := fun o => ih o (by omega)
      rw [sawtoothref12_Reach.l0, if_pos (by omega), nx]
      generalize hq : (2 : Int) ^ n = q at *
      rw [w64 (x := out + q) (by omega), w64 (x := 2147483648 + k) (by omega), w64 (x := s + out) (by omega), w64 (x := s + out + q) (by omega)]
      have key : out + q ≤ N - 1 → out + q ≤ 2147483648 + k ∧ lawQ m k (out + q) < w := fun x => ⟨by omega, n3 _ (by omega) (by omega)⟩
      have key2 : ¬ out + q ≤ N - 1 → ¬ lawQ m k (out + q) < w := by
       intro x y; have := lawQ_mono (m := m) (k := k) (a := N) (b := out + q) (by omega)
       omega
      by_cases l : out + q ≤ N - 1
      ·have kk := key l
       rw [if_pos kk.1, sawtoothref12_AtS.eq h1 h2 h3 h4 (by omega), at', show s + out + q - s = out + q by omega]
       simp only [Option.bind_some]
       rw [if_pos kk.2]
       exact ih' (out + q) (by omega) l (by omega) (by omega)
      ·by_cases l2 : out + q ≤ 2147483648 + k
       ·rw [if_pos l2, sawtoothref12_AtS.eq h1 h2 h3 h4 (by omega), at', show s + out + q - s = out + q by omega]
        simp only [Option.bind_some]
        rw [if_neg (key2 l)]
        exact ih' out o0 o1 (by omega) (by omega)
       ·rw [if_neg l2]
        exact ih' out o0 o1 (by omega) (by omega)
    have p33 : (2 : Int) ^ 33 = 8589934592 := by decide
    have p32 : (2 : Int) ^ 32 = 4294967296 := by decide
    have r := loop 33 0 (by omega) (by omega) (by omega) (by omega) (by omega)
    rw [if_neg (by omega), show 33 - 1 = 32 from rfl, p32] at r
    exact r
  ·rw [if_neg (by exact fun x => c3 x.2)]
   have dd : decide (lawQ m k (2147483648 + k) < w) = true := decide_eq_true (by omega)
   rw [dd, sawtoothref12_Reach.j0, if_pos rfl]
 ·rw [if_neg (show ¬ ((on = true ∧ eOk on s f m k e = true) ∧ w ≤ lawQ m k (2147483648 + k)) from fun x => c x.1)]
  by_cases c2 : eOk on s f m k e = true
  ·rw [if_pos c2, if_neg (show ¬ on = true from fun x => c ⟨x, c2⟩), sawtoothref12_Reach.j0, if_pos rfl]
  ·rw [if_neg c2, sawtoothref12_Reach.j0, if_pos rfl]
end
theorem sawtoothref12_ReachS.calls (a0_0 : Bool) (a0_1 : Int) (a0_2 : Int) (a0_3 : Int) (a0_4 : Int) (a0_5 : Int) (a1 : Int) (r1 : Int) (r2 : Bool) (w : World) (h : sawtoothref12_ReachS.f a0_0 a0_1 a0_2 a0_3 a0_4 a0_5 a1 = some (r1, r2)) :
  Calls Tryd.prog 12 #[.agg #[.bool a0_0, .int .i64 a0_1, .int .i64 a0_2, .int .i64 a0_3, .int .i64 a0_4, .int .i64 a0_5], .int .i64 a1] w fun e w' => e = .returned (.tuple #[.int .i64 r1, .bool r2]) ∧ Below w.heap.size w w' := by
 obtain ⟨hc, h⟩ := Sp.need_some h; obtain ⟨h1, h2, h3, h4, h5⟩ := hc; exact sawtoothref12_Reach.calls 35 a0_0 a0_1 a0_2 a0_3 a0_4 a0_5 a1 r1 r2 w (by rw [sawtoothref12_Reach.main h1 h2 h3 h4 h5]; exact h)

/-! ### sawtoothref01_Plus: function 69 -/
noncomputable def sawtoothref01_Plus.f (a0 : Int) (a1 : Int) : Option (Int × Int) := if a1 > 0 then (if a0 > (wrap64 (9223372036854775807 - a1)) then (some (0, 10)) else (if a1 < 0 then (if a0 < (wrap64 ((-9223372036854775808) - a1)) then (some (0, 10)) else (some (wrap64 (a0 + a1), 0))) else (some (wrap64 (a0 + a1), 0)))) else (if a1 < 0 then (if a0 < (wrap64 ((-9223372036854775808) - a1)) then (some (0, 10)) else (some (wrap64 (a0 + a1), 0))) else (some (wrap64 (a0 + a1), 0)))
set_option maxHeartbeats 8000000 in
set_option maxRecDepth 100000 in
theorem sawtoothref01_Plus.calls (a0 : Int) (a1 : Int) (r1 : Int) (r2 : Int) (w : World) (h : sawtoothref01_Plus.f a0 a1 = some (r1, r2)) :
  Calls Tryd.prog 69 #[.int .i64 a0, .int .i64 a1] w fun e w' => e = .returned (.tuple #[.int .i64 r1, .int .i64 r2]) ∧ Drawn0 w w' := by
 have H : (if a1 > 0 then (if a0 > (wrap64 (9223372036854775807 - a1)) then (some (0, 10)) else (if a1 < 0 then (if a0 < (wrap64 ((-9223372036854775808) - a1)) then (some (0, 10)) else (some (wrap64 (a0 + a1), 0))) else (some (wrap64 (a0 + a1), 0)))) else (if a1 < 0 then (if a0 < (wrap64 ((-9223372036854775808) - a1)) then (some (0, 10)) else (some (wrap64 (a0 + a1), 0))) else (some (wrap64 (a0 + a1), 0)))) = some (r1, r2) := h; clear h
 by_cases c3 : a1 > 0
 ·rw [if_pos c3] at H
  have c3b0 : decide (0 < a1) = true := decide_eq_true c3; clear c3
  by_cases c4 : a0 > (wrap64 (9223372036854775807 - a1))
  ·rw [if_pos c4] at H
   have c4b0 : decide ((wrap64 (9223372036854775807 - a1)) < a0) = true := decide_eq_true c4; clear c4; simp only [Option.some.injEq, Prod.mk.injEq] at H; obtain ⟨rfl, rfl⟩ := H
   go_enter Tryd.func69, Tryd.ntmps69
   go_wp2
   go_ret2
   exact ⟨by first | rfl | (simp; done) | (simp [*]; done), by repeat (first | exact Drawn0.refl _ | apply Drawn0.step)⟩
  ·rw [if_neg c4] at H
   have c4b0 : decide ((wrap64 (9223372036854775807 - a1)) < a0) = false := decide_eq_false c4; clear c4
   by_cases c5 : a1 < 0
   ·rw [if_pos c5] at H
    have c5b0 : decide (a1 < 0) = true := decide_eq_true c5; clear c5
    by_cases c6 : a0 < (wrap64 ((-9223372036854775808) - a1))
    ·rw [if_pos c6] at H
     have c6b0 : decide (a0 < (wrap64 ((-9223372036854775808) - a1))) = true := decide_eq_true c6; clear c6; simp only [Option.some.injEq, Prod.mk.injEq] at H; obtain ⟨rfl, rfl⟩ := H
     go_enter Tryd.func69, Tryd.ntmps69
     go_wp2
     go_ret2
     exact ⟨by first | rfl | (simp; done) | (simp [*]; done), by repeat (first | exact Drawn0.refl _ | apply Drawn0.step)⟩
    ·rw [if_neg c6] at H
     have c6b0 : decide (a0 < (wrap64 ((-9223372036854775808) - a1))) = false := decide_eq_false c6; clear c6; simp only [Option.some.injEq, Prod.mk.injEq] at H; obtain ⟨rfl, rfl⟩ := H
     go_enter Tryd.func69, Tryd.ntmps69
     go_wp2
     go_ret2
     exact ⟨by first | rfl | (simp; done) | (simp [*]; done), by repeat (first | exact Drawn0.refl _ | apply Drawn0.step)⟩
   ·rw [if_neg c5] at H
    have c5b0 : decide (a1 < 0) = false := decide_eq_false c5; clear c5; simp only [Option.some.injEq, Prod.mk.injEq] at H; obtain ⟨rfl, rfl⟩ := H
    go_enter Tryd.func69, Tryd.ntmps69
    go_wp2
    go_ret2
    exact ⟨by first | rfl | (simp; done) | (simp [*]; done), by repeat (first | exact Drawn0.refl _ | apply Drawn0.step)⟩
 ·rw [if_neg c3] at H
  have c3b0 : decide (0 < a1) = false := decide_eq_false c3; clear c3
  by_cases c7 : a1 < 0
  ·rw [if_pos c7] at H
   have c7b0 : decide (a1 < 0) = true := decide_eq_true c7; clear c7
   by_cases c8 : a0 < (wrap64 ((-9223372036854775808) - a1))
   ·rw [if_pos c8] at H
    have c8b0 : decide (a0 < (wrap64 ((-9223372036854775808) - a1))) = true := decide_eq_true c8; clear c8; simp only [Option.some.injEq, Prod.mk.injEq] at H; obtain ⟨rfl, rfl⟩ := H
    go_enter Tryd.func69, Tryd.ntmps69
    go_wp2
    go_ret2
    exact ⟨by first | rfl | (simp; done) | (simp [*]; done), by repeat (first | exact Drawn0.refl _ | apply Drawn0.step)⟩
   ·rw [if_neg c8] at H
    have c8b0 : decide (a0 < (wrap64 ((-9223372036854775808) - a1))) = false := decide_eq_false c8; clear c8; simp only [Option.some.injEq, Prod.mk.injEq] at H; obtain ⟨rfl, rfl⟩ := H
    go_enter Tryd.func69, Tryd.ntmps69
    go_wp2
    go_ret2
    exact ⟨by first | rfl | (simp; done) | (simp [*]; done), by repeat (first | exact Drawn0.refl _ | apply Drawn0.step)⟩
  ·rw [if_neg c7] at H
   have c7b0 : decide (a1 < 0) = false := decide_eq_false c7; clear c7; simp only [Option.some.injEq, Prod.mk.injEq] at H; obtain ⟨rfl, rfl⟩ := H
   go_enter Tryd.func69, Tryd.ntmps69
   go_wp2
   go_ret2
   exact ⟨by first | rfl | (simp; done) | (simp [*]; done), by repeat (first | exact Drawn0.refl _ | apply Drawn0.step)⟩

/-! ### sawtoothref01_PlusS: pure, behind function 69 -/
section
open Go.Proofs.YtgakpcfmgcpeaaaDoor.Sp
noncomputable def sawtoothref01_PlusS.f (a : Int) (b : Int) : Option (Int × Int) := need (I a ∧ I b) (fit (a + b))
theorem sawtoothref01_PlusS.eq {a : Int} {b : Int} (h1 : I a) (h2 : I b) : sawtoothref01_PlusS.f a b = fit (a + b) := need_pos ⟨h1, h2⟩
theorem sawtoothref01_Plus.main {a : Int} {b : Int} (h1 : I a) (h2 : I b) : sawtoothref01_Plus.f a b = fit (a + b) := by
 unfold sawtoothref01_Plus.f fit
 by_cases p : b > 0
 ·have q : ¬ b < 0 := by omega
  simp only [if_pos p, if_neg q]
  rw [w64 (x := 9223372036854775807 - b) (by omega)]
  by_cases c : I (a + b)
  ·rw [if_neg (by omega), if_pos c, w64 c]
  ·rw [if_pos (by omega), if_neg c]
 ·simp only [if_neg p]
  by_cases q : b < 0
  ·rw [if_pos q, w64 (x := -9223372036854775808 - b) (by omega)]
   by_cases c : I (a + b)
   ·rw [if_neg (by omega), if_pos c, w64 c]
   ·rw [if_pos (by omega), if_neg c]
  ·rw [if_neg q, if_pos (by omega), w64 (by omega)]
end
theorem sawtoothref01_PlusS.calls (a0 : Int) (a1 : Int) (r1 : Int) (r2 : Int) (w : World) (h : sawtoothref01_PlusS.f a0 a1 = some (r1, r2)) :
  Calls Tryd.prog 69 #[.int .i64 a0, .int .i64 a1] w fun e w' => e = .returned (.tuple #[.int .i64 r1, .int .i64 r2]) ∧ Drawn0 w w' := by
 obtain ⟨hc, h⟩ := Sp.need_some h; obtain ⟨h1, h2⟩ := hc; exact sawtoothref01_Plus.calls a0 a1 r1 r2 w (by rw [sawtoothref01_Plus.main h1 h2]; exact h)

/-! ### sawtoothref01_Add: function 42 -/
noncomputable def sawtoothref01_Add.j0 : Nat → Int → Int → Bool → Option (Int)
 | 0, _, _, _ => none
 | k + 1, x5, x6, x18 => if x18 = true then (some (-9223372036854775808)) else (if x6 = 0 then (some x5) else (some 9223372036854775807))
noncomputable def sawtoothref01_Add.f (k : Nat) (a0 : Int) (a1 : Int) : Option (Int) := (sawtoothref01_PlusS.f a0 a1).bind fun bt510 => (if bt510.2 = 0 then (sawtoothref01_Add.j0 k bt510.1 bt510.2 false) else (sawtoothref01_Add.j0 k bt510.1 bt510.2 (decide (a0 < 0))))
set_option maxHeartbeats 8000000 in
set_option maxRecDepth 100000 in
theorem sawtoothref01_Add.calls (k : Nat) (a0 : Int) (a1 : Int) (r : Int) (w : World) (h : sawtoothref01_Add.f k a0 a1 = some r) :
  Calls Tryd.prog 42 #[.int .i64 a0, .int .i64 a1] w fun e w' => e = .returned (.int .i64 r) ∧ Drawn0 w w' := by
 have H : ((sawtoothref01_PlusS.f a0 a1).bind fun bt510 => (if bt510.2 = 0 then (sawtoothref01_Add.j0 k bt510.1 bt510.2 false) else (sawtoothref01_Add.j0 k bt510.1 bt510.2 (decide (a0 < 0))))) = some r := h; clear h; replace H := Option.bind_eq_some_iff.mp H; obtain ⟨⟨t510, t511⟩, A30, H⟩ := H; replace H : (if t511 = 0 then (sawtoothref01_Add.j0 k t510 t511 false) else (sawtoothref01_Add.j0 k t510 t511 (decide (a0 < 0)))) = some r := H; have A3 := Aside0.mk A30; clear A30; have HC4 := Aside0.mk H; clear H
 go_enter Tryd.func42, Tryd.ntmps42
 go_upto_region 2 with (first | ((with_reducible refine gate_callee (f := 69) rfl ?_); refine goesLA_ (some 10) rfl rfl Tryd.func69 rfl #[.int .i64 a0, .int .i64 a1] rfl ?_; (with_reducible refine (sawtoothref01_PlusS.calls a0 a1 t510 t511 _ A3.out).mono ?_); rintro e w' ⟨rfl, ⟨nd, rfl⟩⟩; refine ⟨_, rfl, ?_⟩))
 (try simp only [Act.put, sA, sB, sC])
 go_cut [18] (fun v18 wc => ∃ (kq : Nat) (x18_3 : Bool), v18 = .bool x18_3 ∧ Aside0 (sawtoothref01_Add.j0 kq t510 t511 x18_3 = some r) ∧ Aside0 (kq ≤ k) ∧ Drawn0 w wc)
 case first =>
  have H := HC4.out; clear HC4
  by_cases c5 : t511 = 0
  ·rw [if_pos c5] at H
   have c5b0 : (t511 == 0) = true := beq_iff_eq.mpr c5; have c5b1 : (t511 != 0) = false := bne_eq_false_iff_eq.mpr c5; clear c5
   (first | rw [c5b0] | (simp only [i64_w, i32_w]; rw [c5b0]) | skip)
   have H' := Aside0.mk H; clear H
   go_wp2
   go_meet
   case rel => exact ⟨_, (false), (by first | rfl | (simp; done) | (simp [*]; done)), H', ⟨by first | omega | exact Nat.le_refl _⟩, by repeat (first | exact Drawn0.refl _ | apply Drawn0.step)⟩
  ·rw [if_neg c5] at H
   have c5b0 : (t511 == 0) = false := beq_eq_false_iff_ne.mpr c5; have c5b1 : (t511 != 0) = true := bne_iff_ne.mpr c5
   (first | rw [c5b0] | (simp only [i64_w, i32_w]; rw [c5b0]) | skip)
   have H' := Aside0.mk H; clear H
   go_wp2
   go_meet
   case rel => exact ⟨_, (decide (a0 < 0)), (by first | rfl | (simp; done) | (simp [*]; done)), H', ⟨by first | omega | exact Nat.le_refl _⟩, by repeat (first | exact Drawn0.refl _ | apply Drawn0.step)⟩
 case rest =>
  clear HC4
  try clear p2
  try clear c4
  try clear c5
  try clear c5b0
  try clear c5b1
  obtain ⟨kq, x18_3, rfl, HA, HJ3, ⟨mc3, rfl⟩⟩ := hcut
  cases kq with
  | zero => exact absurd HA.out (by simp [sawtoothref01_Add.j0])
  | succ kj3 =>
   have H := HA.out; clear HA; simp only [sawtoothref01_Add.j0] at H
   by_cases c6 : x18_3 = true
   ·subst c6
    have H1 : (some (-9223372036854775808)) = some r := by rw [if_pos rfl] at H; exact H
    clear H; have H := H1; clear H1; obtain rfl := Option.some.inj H
    go_wp2
    go_ret
    exact ⟨by first | rfl | (simp; done) | (simp [*]; done), by repeat (first | exact Drawn0.refl _ | apply Drawn0.step)⟩
   ·replace c6 := Bool.eq_false_iff.mpr c6
    subst c6
    have H1 : (if t511 = 0 then (some t510) else (some 9223372036854775807)) = some r := by rw [if_neg (show ¬ (false = true) by decide)] at H; exact H
    clear H; have H := H1; clear H1
    by_cases c7 : t511 = 0
    ·rw [if_pos c7] at H
     have c7b0 : (t511 == 0) = true := beq_iff_eq.mpr c7; have c7b1 : (t511 != 0) = false := bne_eq_false_iff_eq.mpr c7; clear c7; obtain rfl := Option.some.inj H
     go_wp2
     go_ret
     exact ⟨by first | rfl | (simp; done) | (simp [*]; done), by repeat (first | exact Drawn0.refl _ | apply Drawn0.step)⟩
    ·rw [if_neg c7] at H
     have c7b0 : (t511 == 0) = false := beq_eq_false_iff_ne.mpr c7; have c7b1 : (t511 != 0) = true := bne_iff_ne.mpr c7; obtain rfl := Option.some.inj H
     go_wp2
     go_ret
     exact ⟨by first | rfl | (simp; done) | (simp [*]; done), by repeat (first | exact Drawn0.refl _ | apply Drawn0.step)⟩

/-! ### sawtoothref01_AddS: pure, behind function 42 -/
section
open Go.Proofs.YtgakpcfmgcpeaaaDoor.Sp
noncomputable def sawtoothref01_AddS.f (a : Int) (b : Int) : Option (Int) := need (I a ∧ I b) (some (near (a + b)))
theorem sawtoothref01_AddS.eq {a : Int} {b : Int} (h1 : I a) (h2 : I b) : sawtoothref01_AddS.f a b = some (near (a + b)) := need_pos ⟨h1, h2⟩
theorem sawtoothref01_Add.main {a : Int} {b : Int} (h1 : I a) (h2 : I b) : sawtoothref01_Add.f 1 a b = some (near (a + b)) := by
 unfold sawtoothref01_Add.f
 simp only [sawtoothref01_Add.j0]
 rw [sawtoothref01_PlusS.eq h1 h2]
 by_cases c : I (a + b)
 ·rw [fit_in c, near_in c]; simp
 ·rw [fit_out c]
  by_cases n : a < 0
  ·rw [near_lo (by omega)]; simp [n]
  ·rw [near_hi (by omega)]; simp [n]
end
theorem sawtoothref01_AddS.calls (a0 : Int) (a1 : Int) (r : Int) (w : World) (h : sawtoothref01_AddS.f a0 a1 = some r) :
  Calls Tryd.prog 42 #[.int .i64 a0, .int .i64 a1] w fun e w' => e = .returned (.int .i64 r) ∧ Below w.heap.size w w' := by
 obtain ⟨hc, h⟩ := Sp.need_some h; obtain ⟨h1, h2⟩ := hc; refine (sawtoothref01_Add.calls 1 a0 a1 r w (by rw [sawtoothref01_Add.main h1 h2]; exact h)).mono (fun e w' hq => ⟨hq.1, ?_⟩); obtain ⟨nd, rfl⟩ := hq.2; exact pw_below_drewN (Below.refl _ _) nd

end Go.Proofs.YtgakpcfmgcpeaaaDoor.Px
