/- Printed by px.py, over the kit's print. Conditions: none beside the theorems' own. -/
import Derived.Test.YtgakpcfmgcpeaaaDoorPx0
import Derived.Test.YtgakpcfmgcpeaaaDoorPx26
import Derived.Test.YtgakpcfmgcpeaaaDoorPx27
import Derived.Test.YtgakpcfmgcpeaaaDoorPx28
import Derived.Test.YtgakpcfmgcpeaaaDoorPx34
import Derived.Test.YtgakpcfmgcpeaaaDoorPx38
import Derived.Test.YtgakpcfmgcpeaaaDoorPx39
import Derived.Test.YtgakpcfmgcpeaaaDoorSpec
namespace Go.Proofs.YtgakpcfmgcpeaaaDoor.Px
open Go.RowKit Go.Proofs.YtgakpcfmgcpeaaaDoorW.PrintWords Go.Proofs.YtgakpcfmgcpeaaaDoorW.PrintLast Go.Proofs.YtgakpcfmgcpeaaaDoorW.PrintMore
attribute [local go_sem] max2_int min2_int max_two min_two max_three min_three max_four min_four
set_option linter.unusedVariables false
set_option linter.unusedSimpArgs false

/-! ### sawtoothref12_Target: function 18 -/
noncomputable def sawtoothref12_Target.j0 : Nat → Int → Int → Bool → Bool → Int → Int → Int → Int → Int → Option (Int)
 | 0, _, _, _, _, _, _, _, _, _ => none
 | k + 1, x1, x2, x22, x513000, x513001, x513002, x513003, x513004, x513005 => if x22 = true then (some x2) else ((sawtoothref12_AtS.f x513000 x513001 x513002 x513003 x513004 x513005 x1).bind fun t514 => (if t514 < x2 then (some x2) else ((sawtoothref01_AddS.f x2 (wrap64 (Int.tdiv x2 2))).bind fun t515 => (if t514 > t515 then (some t515) else (some t514)))))
noncomputable def sawtoothref12_Target.f (k : Nat) (a0_0 : Bool) (a0_1 : Int) (a0_2 : Int) (a0_3 : Int) (a0_4 : Int) (a0_5 : Int) (a1 : Int) (a2 : Int) : Option (Int) := (sawtoothref11_CheckS.f a0_0 a0_1 a0_2 a0_3 a0_4 a0_5).bind fun t513 => (if t513 = true then (if a0_0 = true then (sawtoothref12_Target.j0 k a1 a2 (decide (a2 < 0)) a0_0 a0_1 a0_2 a0_3 a0_4 a0_5) else (sawtoothref12_Target.j0 k a1 a2 true a0_0 a0_1 a0_2 a0_3 a0_4 a0_5)) else (sawtoothref12_Target.j0 k a1 a2 true a0_0 a0_1 a0_2 a0_3 a0_4 a0_5))
set_option maxHeartbeats 8000000 in
set_option maxRecDepth 100000 in
theorem sawtoothref12_Target.calls (k : Nat) (a0_0 : Bool) (a0_1 : Int) (a0_2 : Int) (a0_3 : Int) (a0_4 : Int) (a0_5 : Int) (a1 : Int) (a2 : Int) (r : Int) (w : World) (h : sawtoothref12_Target.f k a0_0 a0_1 a0_2 a0_3 a0_4 a0_5 a1 a2 = some r) :
  Calls Tryd.prog 18 #[.agg #[.bool a0_0, .int .i64 a0_1, .int .i64 a0_2, .int .i64 a0_3, .int .i64 a0_4, .int .i64 a0_5], .int .i64 a1, .int .i64 a2] w fun e w' => e = .returned (.int .i64 r) ∧ Below w.heap.size w w' := by
 have hu23 := Tryd.underlying23; have HB := Aside0.mk (Below.refl w.heap.size w); have H : ((sawtoothref11_CheckS.f a0_0 a0_1 a0_2 a0_3 a0_4 a0_5).bind fun t513 => (if t513 = true then (if a0_0 = true then (sawtoothref12_Target.j0 k a1 a2 (decide (a2 < 0)) a0_0 a0_1 a0_2 a0_3 a0_4 a0_5) else (sawtoothref12_Target.j0 k a1 a2 true a0_0 a0_1 a0_2 a0_3 a0_4 a0_5)) else (sawtoothref12_Target.j0 k a1 a2 true a0_0 a0_1 a0_2 a0_3 a0_4 a0_5))) = some r := h; clear h; replace H := Option.bind_eq_some_iff.mp H; obtain ⟨t513, A40, H⟩ := H; (try dsimp only at H); have A4 := Aside0.mk A40; clear A40; have HC5 := Aside0.mk H; clear H
 go_enter Tryd.func18, Tryd.ntmps18
 go_upto_region 2 with (first | ((with_reducible refine gate_dst (N := 3) rfl ?_); refine box_event ?hg (N := 3) ?hd (cs := #[.bool a0_0, .int .i64 a0_1, .int .i64 a0_2, .int .i64 a0_3, .int .i64 a0_4, .int .i64 a0_5]) (t := 23) ?hr ?_; (case hd => rfl); (case hg => rfl); (case hr => first | (go_simp; done) | (go_simp; rfl)); intro gb512 hg w6 hbox hb; have BK512 := Aside0.mk (hbox); obtain ⟨GW512, nHB⟩ := geA hg hb; have GE512 := GW512; replace HB := nHB; clear nHB; clear hb hbox hg; have hcz7_0 := czZ BK512 0 (.bool a0_0); have hcz7_1 := czZ BK512 1 (.int .i64 a0_1); have hcz7_2 := czZ BK512 2 (.int .i64 a0_2); have hcz7_3 := czZ BK512 3 (.int .i64 a0_3); have hcz7_4 := czZ BK512 4 (.int .i64 a0_4); have hcz7_5 := czZ BK512 5 (.int .i64 a0_5); have hfz7_0 := blk_frozen BK512.out 0; have hfz7_1 := blk_frozen BK512.out 1; have hfz7_2 := blk_frozen BK512.out 2; have hfz7_3 := blk_frozen BK512.out 3; have hfz7_4 := blk_frozen BK512.out 4; have hfz7_5 := blk_frozen BK512.out 5) | ((with_reducible refine gate_callee (f := 29) rfl ?_); refine goesLA_ (some 11) rfl rfl Tryd.func29 rfl #[.agg #[.bool a0_0, .int .i64 a0_1, .int .i64 a0_2, .int .i64 a0_3, .int .i64 a0_4, .int .i64 a0_5]] rfl ?_; (with_reducible refine (sawtoothref11_CheckS.calls a0_0 a0_1 a0_2 a0_3 a0_4 a0_5 t513 _ A4.out).mono ?_); rintro e w8 ⟨rfl, hb⟩; refine ⟨_, rfl, ?_⟩; replace BK512 := bdZ BK512 hb; replace HB := stA hb; clear hb))
 (try simp only [Act.put, sA, sB, sC])
 go_cut [22] (fun v22 wc => ∃ (kq : Nat) (x22_4 : Bool), v22 = .bool x22_4 ∧ Aside0 (sawtoothref12_Target.j0 kq a1 a2 x22_4 a0_0 a0_1 a0_2 a0_3 a0_4 a0_5 = some r) ∧ Aside0 (kq ≤ k) ∧ Aside0 (wc.heap[gb512]? = some (.cells #[.bool a0_0, .int .i64 a0_1, .int .i64 a0_2, .int .i64 a0_3, .int .i64 a0_4, .int .i64 a0_5] 23 (0, 0))) ∧ Aside0 (Below w.heap.size w wc))
 case first =>
  have H := HC5.out; clear HC5
  by_cases c9 : t513 = true
  ·subst c9
   have H1 : (if a0_0 = true then (sawtoothref12_Target.j0 k a1 a2 (decide (a2 < 0)) a0_0 a0_1 a0_2 a0_3 a0_4 a0_5) else (sawtoothref12_Target.j0 k a1 a2 true a0_0 a0_1 a0_2 a0_3 a0_4 a0_5)) = some r := by rw [if_pos rfl] at H; exact H
   clear H; have H := H1; clear H1
   by_cases c10 : a0_0 = true
   ·subst c10
    have H1 : (sawtoothref12_Target.j0 k a1 a2 (decide (a2 < 0)) true a0_1 a0_2 a0_3 a0_4 a0_5) = some r := by rw [if_pos rfl] at H; exact H
    clear H; have H := H1; clear H1; have H' := Aside0.mk H; clear H; have hcz11_0 := czZ BK512 0 (.bool true); have hcz11_1 := czZ BK512 1 (.int .i64 a0_1); have hcz11_2 := czZ BK512 2 (.int .i64 a0_2); have hcz11_3 := czZ BK512 3 (.int .i64 a0_3); have hcz11_4 := czZ BK512 4 (.int .i64 a0_4); have hcz11_5 := czZ BK512 5 (.int .i64 a0_5); have hfz11_0 := blk_frozen BK512.out 0; have hfz11_1 := blk_frozen BK512.out 1; have hfz11_2 := blk_frozen BK512.out 2; have hfz11_3 := blk_frozen BK512.out 3; have hfz11_4 := blk_frozen BK512.out 4; have hfz11_5 := blk_frozen BK512.out 5
    go_wp2
    go_meet
    case rel => exact ⟨_, (decide (a2 < 0)), (by first | rfl | (simp; done) | (simp [*]; done)), H', ⟨by first | omega | exact Nat.le_refl _⟩, ⟨by (with_reducible repeat first | apply blk_drewN | apply blk_drew | apply blk_alloc); exact BK512.out⟩, ⟨by repeat (first | (with_reducible first | exact HB.out | apply below_alloc | apply pw_below_drewN | apply below_drew1 | refine below_set ?_ GE512.out) | exact HB.out)⟩⟩
   ·replace c10 := Bool.eq_false_iff.mpr c10
    subst c10
    have H1 : (sawtoothref12_Target.j0 k a1 a2 true false a0_1 a0_2 a0_3 a0_4 a0_5) = some r := by rw [if_neg (show ¬ (false = true) by decide)] at H; exact H
    clear H; have H := H1; clear H1; have H' := Aside0.mk H; clear H; have hcz12_0 := czZ BK512 0 (.bool false); have hcz12_1 := czZ BK512 1 (.int .i64 a0_1); have hcz12_2 := czZ BK512 2 (.int .i64 a0_2); have hcz12_3 := czZ BK512 3 (.int .i64 a0_3); have hcz12_4 := czZ BK512 4 (.int .i64 a0_4); have hcz12_5 := czZ BK512 5 (.int .i64 a0_5); have hfz12_0 := blk_frozen BK512.out 0; have hfz12_1 := blk_frozen BK512.out 1; have hfz12_2 := blk_frozen BK512.out 2; have hfz12_3 := blk_frozen BK512.out 3; have hfz12_4 := blk_frozen BK512.out 4; have hfz12_5 := blk_frozen BK512.out 5
    go_wp2
    go_meet
    case rel => exact ⟨_, (true), (by first | rfl | (simp; done) | (simp [*]; done)), H', ⟨by first | omega | exact Nat.le_refl _⟩, ⟨by (with_reducible repeat first | apply blk_drewN | apply blk_drew | apply blk_alloc); exact BK512.out⟩, ⟨by repeat (first | (with_reducible first | exact HB.out | apply below_alloc | apply pw_below_drewN | apply below_drew1 | refine below_set ?_ GE512.out) | exact HB.out)⟩⟩
  ·replace c9 := Bool.eq_false_iff.mpr c9
   subst c9
   have H1 : (sawtoothref12_Target.j0 k a1 a2 true a0_0 a0_1 a0_2 a0_3 a0_4 a0_5) = some r := by rw [if_neg (show ¬ (false = true) by decide)] at H; exact H
   clear H; have H := H1; clear H1; have H' := Aside0.mk H; clear H
   go_wp2
   go_meet
   case rel => exact ⟨_, (true), (by first | rfl | (simp; done) | (simp [*]; done)), H', ⟨by first | omega | exact Nat.le_refl _⟩, ⟨by (with_reducible repeat first | apply blk_drewN | apply blk_drew | apply blk_alloc); exact BK512.out⟩, ⟨by repeat (first | (with_reducible first | exact HB.out | apply below_alloc | apply pw_below_drewN | apply below_drew1 | refine below_set ?_ GE512.out) | exact HB.out)⟩⟩
 case rest =>
  clear HC5
  try clear c1
  try clear c2
  try clear p2
  try clear c9
  try clear c10
  try clear hcz11_0
  try clear hcz11_1
  try clear hcz11_2
  try clear hcz11_3
  try clear hcz11_4
  try clear hcz11_5
  try clear hcz12_0
  try clear hcz12_1
  try clear hcz12_2
  try clear hcz12_3
  try clear hcz12_4
  try clear hcz12_5
  try clear hcz7_0
  try clear hcz7_1
  try clear hcz7_2
  try clear hcz7_3
  try clear hcz7_4
  try clear hcz7_5
  try clear hfz11_0
  try clear hfz11_1
  try clear hfz11_2
  try clear hfz11_3
  try clear hfz11_4
  try clear hfz11_5
  try clear hfz12_0
  try clear hfz12_1
  try clear hfz12_2
  try clear hfz12_3
  try clear hfz12_4
  try clear hfz12_5
  try clear hfz7_0
  try clear hfz7_1
  try clear hfz7_2
  try clear hfz7_3
  try clear hfz7_4
  try clear hfz7_5
  obtain ⟨kq, x22_4, rfl, HA, HJ4, BK512, HB⟩ := hcut
  cases kq with
  | zero => exact absurd HA.out (by simp [sawtoothref12_Target.j0])
  | succ kj4 =>
   have H := HA.out; clear HA; simp only [sawtoothref12_Target.j0] at H
   by_cases c13 : x22_4 = true
   ·subst c13
    have H1 : (some a2) = some r := by rw [if_pos rfl] at H; exact H
    clear H; have H := H1; clear H1; obtain rfl := Option.some.inj H
    go_wp2
    go_ret
    exact ⟨by first | rfl | (simp [errW_none, errW_some] <;> rfl) | (simp [*, errW_none, errW_some] <;> rfl), by repeat (first | (with_reducible first | exact HB.out | apply below_alloc | apply pw_below_drewN | apply below_drew1 | refine below_set ?_ GE512.out) | exact HB.out)⟩
   ·replace c13 := Bool.eq_false_iff.mpr c13
    subst c13
    have H1 : ((sawtoothref12_AtS.f a0_0 a0_1 a0_2 a0_3 a0_4 a0_5 a1).bind fun t514 => (if t514 < a2 then (some a2) else ((sawtoothref01_AddS.f a2 (wrap64 (Int.tdiv a2 2))).bind fun t515 => (if t514 > t515 then (some t515) else (some t514))))) = some r := by rw [if_neg (show ¬ (false = true) by decide)] at H; exact H
    clear H; have H := H1; clear H1; replace H := Option.bind_eq_some_iff.mp H; obtain ⟨t514, A140, H⟩ := H; replace H : (if t514 < a2 then (some a2) else ((sawtoothref01_AddS.f a2 (wrap64 (Int.tdiv a2 2))).bind fun t515 => (if t514 > t515 then (some t515) else (some t514)))) = some r := H; have A14 := Aside0.mk A140; clear A140
    by_cases c15 : t514 < a2
    ·rw [if_pos c15] at H
     have c15b0 : decide (t514 < a2) = true := decide_eq_true c15; clear c15; obtain rfl := Option.some.inj H; have hcz16_0 : wc.cell? ⟨gb512, 0, none⟩ = some (.bool a0_0) := (blk_cell BK512.out 0).trans rfl; have hcz16_1 : wc.cell? ⟨gb512, 1, none⟩ = some (.int .i64 a0_1) := (blk_cell BK512.out 1).trans rfl; have hcz16_2 : wc.cell? ⟨gb512, 2, none⟩ = some (.int .i64 a0_2) := (blk_cell BK512.out 2).trans rfl; have hcz16_3 : wc.cell? ⟨gb512, 3, none⟩ = some (.int .i64 a0_3) := (blk_cell BK512.out 3).trans rfl; have hcz16_4 : wc.cell? ⟨gb512, 4, none⟩ = some (.int .i64 a0_4) := (blk_cell BK512.out 4).trans rfl; have hcz16_5 : wc.cell? ⟨gb512, 5, none⟩ = some (.int .i64 a0_5) := (blk_cell BK512.out 5).trans rfl; have hfz16_0 := blk_frozen BK512.out 0; have hfz16_1 := blk_frozen BK512.out 1; have hfz16_2 := blk_frozen BK512.out 2; have hfz16_3 := blk_frozen BK512.out 3; have hfz16_4 := blk_frozen BK512.out 4; have hfz16_5 := blk_frozen BK512.out 5
     go_wp2_with (first | ((with_reducible refine gate_callee (f := 16) rfl ?_); refine goesLA_ (some 26) rfl rfl Tryd.func16 rfl #[.agg #[.bool a0_0, .int .i64 a0_1, .int .i64 a0_2, .int .i64 a0_3, .int .i64 a0_4, .int .i64 a0_5], .int .i64 a1] rfl ?_; (with_reducible refine (sawtoothref12_AtS.calls a0_0 a0_1 a0_2 a0_3 a0_4 a0_5 a1 t514 _ A14.out).mono ?_); rintro e w17 ⟨rfl, hb⟩; refine ⟨_, rfl, ?_⟩; replace BK512 := bdZ BK512 hb; replace HB := stA hb; clear hb))
     go_ret
     exact ⟨by first | rfl | (simp [errW_none, errW_some] <;> rfl) | (simp [*, errW_none, errW_some] <;> rfl), by repeat (first | (with_reducible first | exact HB.out | apply below_alloc | apply pw_below_drewN | apply below_drew1 | refine below_set ?_ GE512.out) | exact HB.out)⟩
    ·rw [if_neg c15] at H
     have c15b0 : decide (t514 < a2) = false := decide_eq_false c15; clear c15; replace H := Option.bind_eq_some_iff.mp H; obtain ⟨t515, A180, H⟩ := H; replace H : (if t514 > t515 then (some t515) else (some t514)) = some r := H; have A18 := Aside0.mk A180; clear A180
     by_cases c19 : t514 > t515
     ·rw [if_pos c19] at H
      have c19b0 : decide (t515 < t514) = true := decide_eq_true c19; clear c19; obtain rfl := Option.some.inj H; have hcz20_0 : wc.cell? ⟨gb512, 0, none⟩ = some (.bool a0_0) := (blk_cell BK512.out 0).trans rfl; have hcz20_1 : wc.cell? ⟨gb512, 1, none⟩ = some (.int .i64 a0_1) := (blk_cell BK512.out 1).trans rfl; have hcz20_2 : wc.cell? ⟨gb512, 2, none⟩ = some (.int .i64 a0_2) := (blk_cell BK512.out 2).trans rfl; have hcz20_3 : wc.cell? ⟨gb512, 3, none⟩ = some (.int .i64 a0_3) := (blk_cell BK512.out 3).trans rfl; have hcz20_4 : wc.cell? ⟨gb512, 4, none⟩ = some (.int .i64 a0_4) := (blk_cell BK512.out 4).trans rfl; have hcz20_5 : wc.cell? ⟨gb512, 5, none⟩ = some (.int .i64 a0_5) := (blk_cell BK512.out 5).trans rfl; have hfz20_0 := blk_frozen BK512.out 0; have hfz20_1 := blk_frozen BK512.out 1; have hfz20_2 := blk_frozen BK512.out 2; have hfz20_3 := blk_frozen BK512.out 3; have hfz20_4 := blk_frozen BK512.out 4; have hfz20_5 := blk_frozen BK512.out 5
      go_wp2_with (first | ((with_reducible refine gate_callee (f := 16) rfl ?_); refine goesLA_ (some 26) rfl rfl Tryd.func16 rfl #[.agg #[.bool a0_0, .int .i64 a0_1, .int .i64 a0_2, .int .i64 a0_3, .int .i64 a0_4, .int .i64 a0_5], .int .i64 a1] rfl ?_; (with_reducible refine (sawtoothref12_AtS.calls a0_0 a0_1 a0_2 a0_3 a0_4 a0_5 a1 t514 _ A14.out).mono ?_); rintro e w21 ⟨rfl, hb⟩; refine ⟨_, rfl, ?_⟩; replace BK512 := bdZ BK512 hb; replace HB := stA hb; clear hb) | ((with_reducible refine gate_callee (f := 42) rfl ?_); refine goesLA_ (some 34) rfl rfl Tryd.func42 rfl #[.int .i64 a2, .int .i64 (wrap64 (Int.tdiv a2 2))] rfl ?_; (with_reducible refine (sawtoothref01_AddS.calls a2 (wrap64 (Int.tdiv a2 2)) t515 _ A18.out).mono ?_); rintro e w22 ⟨rfl, hb⟩; refine ⟨_, rfl, ?_⟩; replace BK512 := bdZ BK512 hb; replace HB := stA hb; clear hb))
      go_ret
      exact ⟨by first | rfl | (simp [errW_none, errW_some] <;> rfl) | (simp [*, errW_none, errW_some] <;> rfl), by repeat (first | (with_reducible first | exact HB.out | apply below_alloc | apply pw_below_drewN | apply below_drew1 | refine below_set ?_ GE512.out) | exact HB.out)⟩
     ·rw [if_neg c19] at H
      have c19b0 : decide (t515 < t514) = false := decide_eq_false c19; clear c19; obtain rfl := Option.some.inj H; have hcz23_0 : wc.cell? ⟨gb512, 0, none⟩ = some (.bool a0_0) := (blk_cell BK512.out 0).trans rfl; have hcz23_1 : wc.cell? ⟨gb512, 1, none⟩ = some (.int .i64 a0_1) := (blk_cell BK512.out 1).trans rfl; have hcz23_2 : wc.cell? ⟨gb512, 2, none⟩ = some (.int .i64 a0_2) := (blk_cell BK512.out 2).trans rfl; have hcz23_3 : wc.cell? ⟨gb512, 3, none⟩ = some (.int .i64 a0_3) := (blk_cell BK512.out 3).trans rfl; have hcz23_4 : wc.cell? ⟨gb512, 4, none⟩ = some (.int .i64 a0_4) := (blk_cell BK512.out 4).trans rfl; have hcz23_5 : wc.cell? ⟨gb512, 5, none⟩ = some (.int .i64 a0_5) := (blk_cell BK512.out 5).trans rfl; have hfz23_0 := blk_frozen BK512.out 0; have hfz23_1 := blk_frozen BK512.out 1; have hfz23_2 := blk_frozen BK512.out 2; have hfz23_3 := blk_frozen BK512.out 3; have hfz23_4 := blk_frozen BK512.out 4; have hfz23_5 := blk_frozen BK512.out 5
      go_wp2_with (first | ((with_reducible refine gate_callee (f := 16) rfl ?_); refine goesLA_ (some 26) rfl rfl Tryd.func16 rfl #[.agg #[.bool a0_0, .int .i64 a0_1, .int .i64 a0_2, .int .i64 a0_3, .int .i64 a0_4, .int .i64 a0_5], .int .i64 a1] rfl ?_; (with_reducible refine (sawtoothref12_AtS.calls a0_0 a0_1 a0_2 a0_3 a0_4 a0_5 a1 t514 _ A14.out).mono ?_); rintro e w24 ⟨rfl, hb⟩; refine ⟨_, rfl, ?_⟩; replace BK512 := bdZ BK512 hb; replace HB := stA hb; clear hb) | ((with_reducible refine gate_callee (f := 42) rfl ?_); refine goesLA_ (some 34) rfl rfl Tryd.func42 rfl #[.int .i64 a2, .int .i64 (wrap64 (Int.tdiv a2 2))] rfl ?_; (with_reducible refine (sawtoothref01_AddS.calls a2 (wrap64 (Int.tdiv a2 2)) t515 _ A18.out).mono ?_); rintro e w25 ⟨rfl, hb⟩; refine ⟨_, rfl, ?_⟩; replace BK512 := bdZ BK512 hb; replace HB := stA hb; clear hb))
      go_ret
      exact ⟨by first | rfl | (simp [errW_none, errW_some] <;> rfl) | (simp [*, errW_none, errW_some] <;> rfl), by repeat (first | (with_reducible first | exact HB.out | apply below_alloc | apply pw_below_drewN | apply below_drew1 | refine below_set ?_ GE512.out) | exact HB.out)⟩

/-! ### sawtoothref12_TargetS: pure, behind function 18 -/
section
open Go.Proofs.YtgakpcfmgcpeaaaDoor.Sp
noncomputable def sawtoothref12_TargetS.f (on : Bool) (s : Int) (f : Int) (m : Int) (k : Int) (e : Int) (now : Int) (w : Int) : Option (Int) := need ((I s) ∧ (I f) ∧ (I m) ∧ (I k) ∧ (I now) ∧ (I w)) (some (targetQ on s f m k e now w))
theorem sawtoothref12_TargetS.eq {on : Bool} {s : Int} {f : Int} {m : Int} {k : Int} {e : Int} {now : Int} {w : Int} (h1 : I s) (h2 : I f) (h3 : I m) (h4 : I k) (h5 : I now) (h6 : I w) : sawtoothref12_TargetS.f on s f m k e now w = some (targetQ on s f m k e now w) := need_pos ⟨h1, h2, h3, h4, h5, h6⟩
theorem sawtoothref12_Target.main {on : Bool} {s : Int} {f : Int} {m : Int} {k : Int} {e : Int} {now : Int} {w : Int} (h1 : I s) (h2 : I f) (h3 : I m) (h4 : I k) (h5 : I now) (h6 : I w) : sawtoothref12_Target.f 1 on s f m k e now w = some (targetQ on s f m k e now w) := by
 unfold sawtoothref12_Target.f
 simp only [sawtoothref12_Target.j0]
 rw [sawtoothref11_CheckS.eq h1 h2 h3]
 simp only [Option.bind_some]
 unfold targetQ
 by_cases c : on = true ∧ eOk on s f m k e = true
 ·rw [if_pos c.2, if_pos c.1]
  by_cases c1 : w < 0
  ·rw [if_pos (decide_eq_true c1), if_pos (show w < 0 ∨ ¬ (on = true ∧ eOk on s f m k e = true) from Or.inl c1)]
  ·have n : ¬ (w < 0 ∨ ¬ (on = true ∧ eOk on s f m k e = true)) := fun x => x.elim c1 (fun y => y c)
   have wd : RowKit.wrap64 (Int.tdiv w 2) = w / 2 := by rw [Int.tdiv_eq_ediv_of_nonneg (by omega), w64 (by omega)]
   rw [if_neg n, if_neg (show ¬ decide (w < 0) = true by simpa using c1), sawtoothref12_AtS.eq h1 h2 h3 h4 h5, wd, sawtoothref01_AddS.eq h6 (by omega)]
   simp only [Option.bind_some]
   unfold clamp
   (repeat' split) <;> first | rfl | (exfalso; omega)
 ·rw [if_pos (show w < 0 ∨ ¬ (on = true ∧ eOk on s f m k e = true) from Or.inr c)]
  by_cases c2 : eOk on s f m k e = true
  ·rw [if_pos c2, if_neg (fun x => c ⟨x, c2⟩)]; rfl
  ·rw [if_neg c2]; rfl
end
theorem sawtoothref12_TargetS.calls (a0_0 : Bool) (a0_1 : Int) (a0_2 : Int) (a0_3 : Int) (a0_4 : Int) (a0_5 : Int) (a1 : Int) (a2 : Int) (r : Int) (w : World) (h : sawtoothref12_TargetS.f a0_0 a0_1 a0_2 a0_3 a0_4 a0_5 a1 a2 = some r) :
  Calls Tryd.prog 18 #[.agg #[.bool a0_0, .int .i64 a0_1, .int .i64 a0_2, .int .i64 a0_3, .int .i64 a0_4, .int .i64 a0_5], .int .i64 a1, .int .i64 a2] w fun e w' => e = .returned (.int .i64 r) ∧ Below w.heap.size w w' := by
 obtain ⟨hc, h⟩ := Sp.need_some h; obtain ⟨h1, h2, h3, h4, h5, h6⟩ := hc; exact sawtoothref12_Target.calls 1 a0_0 a0_1 a0_2 a0_3 a0_4 a0_5 a1 a2 r w (by rw [sawtoothref12_Target.main h1 h2 h3 h4 h5 h6]; exact h)

/-! ### sawtoothlaw12_CubicTells: function 3 -/
noncomputable def sawtoothlaw12_CubicTells.f (a0_0 : Bool) (a0_1 : Int) (a0_2 : Int) (a0_3 : Int) (a0_4 : Int) (a0_5 : Int) (a1 : Int) (a2 : Int) (a3 : Int) : Option (Bool) := (sawtoothlaw12_awakeS.f).bind fun t517 => ((cubic_Reach.f a0_0 a0_1 a0_2 a0_3 a0_4 a0_5 a3).bind fun bt518 => ((sawtoothref12_ReachS.f a0_0 a0_1 a0_2 a0_3 a0_4 a0_5 a3).bind fun bt520 => (if t517 = true then ((cubic_RiseS.f a1).bind fun t522 => ((sawtoothref12_RiseS.f a1).bind fun t523 => (if t522 = t523 then ((cubic_AtS.f a0_0 a0_1 a0_2 a0_3 a0_4 a0_5 a2).bind fun t524 => ((sawtoothref12_AtS.f a0_0 a0_1 a0_2 a0_3 a0_4 a0_5 a2).bind fun t525 => (if t524 = t525 then ((cubic_TargetS.f a0_0 a0_1 a0_2 a0_3 a0_4 a0_5 a2 a3).bind fun t526 => ((sawtoothref12_TargetS.f a0_0 a0_1 a0_2 a0_3 a0_4 a0_5 a2 a3).bind fun t527 => (if t526 = t527 then (if bt518.1 = bt520.1 then (some (bt518.2 == bt520.2)) else (none)) else (none)))) else (none)))) else (none)))) else (none))))
def sawtoothlaw12_CubicTells.T4 : Bool × List (List Nat × List Nat) := (true, [([], []), ([0], [0]), ([1], [1]), ([2, 1, 1], [1, 2]), ([1], [1]), ([4, 3, 1], [1, 4]), ([3, 5, 1], [1, 3, 5]), ([1, 6], [1, 6]), ([7, 5], [7]), ([8], [8]), ([8], [8]), ([9, 10, 8, 8], [8, 9, 10]), ([8], [8]), ([8], [8]), ([12, 13, 11, 8], [8, 12, 13]), ([11, 14, 8], [8, 11, 14]), ([8, 15], [8, 15]), ([16, 14], [16]), ([17], [17]), ([17], [17]), ([17], [17]), ([18, 19, 20, 17, 17], [17, 18, 19, 20]), ([17], [17]), ([17], [17]), ([17], [17]), ([22, 23, 24, 21, 17], [17, 22, 23, 24]), ([21, 25, 17], [17, 21, 25]), ([17, 26], [17, 26]), ([27, 25], [27]), ([28], [28]), ([28], [28]), ([29, 30, 28], [28, 29, 30]), ([28, 31], [28, 31]), ([32, 28], [32]), ([33], [33]), ([33], [33]), ([34, 35, 33], [33, 34, 35]), ([33, 36], [33, 36]), ([37, 33, 0, 1, 2, 3, 4, 5, 6, 7, 8, 9, 10, 11, 12, 13, 14, 15, 16, 17, 18, 19, 20, 21, 22, 23, 24, 25, 26, 27, 28, 29, 30, 31, 32, 33, 34, 35, 36, 37], [37])])
def sawtoothlaw12_CubicTells.B4 : List Nat := [0, 1, 3, 7, 3, 31, 63, 127, 255, 511, 511, 2047, 511, 511, 16383, 32767, 65535, 131071, 262143, 262143, 262143, 2097151, 262143, 262143, 262143, 33554431, 67108863, 134217727, 268435455, 536870911, 536870911, 2147483647, 4294967295, 8589934591, 17179869183, 17179869183, 68719476735, 137438953471, 274877906943]
theorem sawtoothlaw12_CubicTells.tab4 : rtab .any (opsOf Tryd.f3 4) = sawtoothlaw12_CubicTells.T4 := by kernel_rfl
theorem sawtoothlaw12_CubicTells.bits4 : waitsOk sawtoothlaw12_CubicTells.T4.2 sawtoothlaw12_CubicTells.B4 = true := by kernel_rfl
set_option maxHeartbeats 8000000 in
set_option maxRecDepth 100000 in
theorem sawtoothlaw12_CubicTells.calls (a0_0 : Bool) (a0_1 : Int) (a0_2 : Int) (a0_3 : Int) (a0_4 : Int) (a0_5 : Int) (a1 : Int) (a2 : Int) (a3 : Int) (r : Bool) (w : World) (h : sawtoothlaw12_CubicTells.f a0_0 a0_1 a0_2 a0_3 a0_4 a0_5 a1 a2 a3 = some r) (hL : Tens w) :
  Calls Tryd.prog 3 #[.agg #[.bool a0_0, .int .i64 a0_1, .int .i64 a0_2, .int .i64 a0_3, .int .i64 a0_4, .int .i64 a0_5], .int .i64 a1, .int .i64 a2, .int .i64 a3] w fun e w' => e = .returned (.bool r) ∧ Below w.heap.size w w' := by
 have hu23 := Tryd.underlying23; have HB := Aside0.mk (Below.refl w.heap.size w); have H : ((sawtoothlaw12_awakeS.f).bind fun t517 => ((cubic_Reach.f a0_0 a0_1 a0_2 a0_3 a0_4 a0_5 a3).bind fun bt518 => ((sawtoothref12_ReachS.f a0_0 a0_1 a0_2 a0_3 a0_4 a0_5 a3).bind fun bt520 => (if t517 = true then ((cubic_RiseS.f a1).bind fun t522 => ((sawtoothref12_RiseS.f a1).bind fun t523 => (if t522 = t523 then ((cubic_AtS.f a0_0 a0_1 a0_2 a0_3 a0_4 a0_5 a2).bind fun t524 => ((sawtoothref12_AtS.f a0_0 a0_1 a0_2 a0_3 a0_4 a0_5 a2).bind fun t525 => (if t524 = t525 then ((cubic_TargetS.f a0_0 a0_1 a0_2 a0_3 a0_4 a0_5 a2 a3).bind fun t526 => ((sawtoothref12_TargetS.f a0_0 a0_1 a0_2 a0_3 a0_4 a0_5 a2 a3).bind fun t527 => (if t526 = t527 then (if bt518.1 = bt520.1 then (some (bt518.2 == bt520.2)) else (none)) else (none)))) else (none)))) else (none)))) else (none))))) = some r := h; clear h; replace H := Option.bind_eq_some_iff.mp H; obtain ⟨t517, A50, H⟩ := H; (try dsimp only at H); have A5 := Aside0.mk A50; clear A50; replace H := Option.bind_eq_some_iff.mp H; obtain ⟨⟨t518, t519⟩, A60, H⟩ := H; (try dsimp only at H); have A6 := Aside0.mk A60; clear A60; replace H := Option.bind_eq_some_iff.mp H; obtain ⟨⟨t520, t521⟩, A70, H⟩ := H; (try dsimp only at H); have A7 := Aside0.mk A70; clear A70
 by_cases c8 : t517 = true
 ·subst c8
  have H1 : ((cubic_RiseS.f a1).bind fun t522 => ((sawtoothref12_RiseS.f a1).bind fun t523 => (if t522 = t523 then ((cubic_AtS.f a0_0 a0_1 a0_2 a0_3 a0_4 a0_5 a2).bind fun t524 => ((sawtoothref12_AtS.f a0_0 a0_1 a0_2 a0_3 a0_4 a0_5 a2).bind fun t525 => (if t524 = t525 then ((cubic_TargetS.f a0_0 a0_1 a0_2 a0_3 a0_4 a0_5 a2 a3).bind fun t526 => ((sawtoothref12_TargetS.f a0_0 a0_1 a0_2 a0_3 a0_4 a0_5 a2 a3).bind fun t527 => (if t526 = t527 then (if t518 = t520 then (some (t519 == t521)) else (none)) else (none)))) else (none)))) else (none)))) = some r := by rw [if_pos rfl] at H; exact H
  clear H; have H := H1; clear H1; replace H := Option.bind_eq_some_iff.mp H; obtain ⟨t522, A90, H⟩ := H; (try dsimp only at H); have A9 := Aside0.mk A90; clear A90; replace H := Option.bind_eq_some_iff.mp H; obtain ⟨t523, A100, H⟩ := H; (try dsimp only at H); have A10 := Aside0.mk A100; clear A100
  by_cases c11 : t522 = t523
  ·rw [if_pos c11] at H
   have c11b0 : (t522 == t523) = true := beq_iff_eq.mpr c11; have c11b1 : (t522 != t523) = false := bne_eq_false_iff_eq.mpr c11; clear c11; replace H := Option.bind_eq_some_iff.mp H; obtain ⟨t524, A120, H⟩ := H; (try dsimp only at H); have A12 := Aside0.mk A120; clear A120; replace H := Option.bind_eq_some_iff.mp H; obtain ⟨t525, A130, H⟩ := H; (try dsimp only at H); have A13 := Aside0.mk A130; clear A130
   by_cases c14 : t524 = t525
   ·rw [if_pos c14] at H
    have c14b0 : (t524 == t525) = true := beq_iff_eq.mpr c14; have c14b1 : (t524 != t525) = false := bne_eq_false_iff_eq.mpr c14; clear c14; replace H := Option.bind_eq_some_iff.mp H; obtain ⟨t526, A150, H⟩ := H; replace H : ((sawtoothref12_TargetS.f a0_0 a0_1 a0_2 a0_3 a0_4 a0_5 a2 a3).bind fun t527 => (if t526 = t527 then (if t518 = t520 then (some (t519 == t521)) else (none)) else (none))) = some r := H; have A15 := Aside0.mk A150; clear A150; replace H := Option.bind_eq_some_iff.mp H; obtain ⟨t527, A160, H⟩ := H; replace H : (if t526 = t527 then (if t518 = t520 then (some (t519 == t521)) else (none)) else (none)) = some r := H; have A16 := Aside0.mk A160; clear A160
    by_cases c17 : t526 = t527
    ·rw [if_pos c17] at H
     have c17b0 : (t526 == t527) = true := beq_iff_eq.mpr c17; have c17b1 : (t526 != t527) = false := bne_eq_false_iff_eq.mpr c17; clear c17
     by_cases c18 : t518 = t520
     ·rw [if_pos c18] at H
      have c18b0 : (t518 == t520) = true := beq_iff_eq.mpr c18; have c18b1 : (t518 != t520) = false := bne_eq_false_iff_eq.mpr c18; clear c18; obtain rfl := Option.some.inj H
      go_enter Tryd.func3, Tryd.ntmps3
      try go_wp2_with (first | ((with_reducible refine gate_dst (N := 4) rfl ?_); refine box_event ?hg (N := 4) ?hd (cs := #[.bool a0_0, .int .i64 a0_1, .int .i64 a0_2, .int .i64 a0_3, .int .i64 a0_4, .int .i64 a0_5]) (t := 23) ?hr ?_; (case hd => rfl); (case hg => rfl); (case hr => first | (go_simp; done) | (go_simp; rfl)); intro gb516 hg w19 hbox hb; have BK516 := Aside0.mk (hbox); obtain ⟨GW516, nHB⟩ := geA hg hb; have GE516 := GW516; replace HB := nHB; clear nHB; clear hb hbox hg) | ((with_reducible refine gate_callee (f := 10) rfl ?_); refine goesLA_ (some 14) rfl rfl Tryd.func10 rfl #[] rfl ?_; (with_reducible refine (sawtoothlaw12_awakeS.calls  true _ A5.out ?hT_).mono ?_); (case hT_ => exact tensB hL (by repeat (first | (with_reducible first | exact HB.out | apply below_alloc | apply pw_below_drewN | apply below_drew1 | refine below_set ?_ (Aside0.out (by assumption))) | exact HB.out))); rintro e w20 ⟨rfl, hb⟩; refine ⟨_, rfl, ?_⟩; replace BK516 := bdZ BK516 hb; replace HB := stA hb; clear hb; have hcz21_0 := czZ BK516 0 (.bool a0_0); have hcz21_1 := czZ BK516 1 (.int .i64 a0_1); have hcz21_2 := czZ BK516 2 (.int .i64 a0_2); have hcz21_3 := czZ BK516 3 (.int .i64 a0_3); have hcz21_4 := czZ BK516 4 (.int .i64 a0_4); have hcz21_5 := czZ BK516 5 (.int .i64 a0_5); have hfz21_0 := blk_frozen BK516.out 0; have hfz21_1 := blk_frozen BK516.out 1; have hfz21_2 := blk_frozen BK516.out 2; have hfz21_3 := blk_frozen BK516.out 3; have hfz21_4 := blk_frozen BK516.out 4; have hfz21_5 := blk_frozen BK516.out 5) | ((with_reducible refine gate_callee (f := 11) rfl ?_); refine goesLA_ (some 18) rfl rfl Tryd.func11 rfl #[.agg #[.bool a0_0, .int .i64 a0_1, .int .i64 a0_2, .int .i64 a0_3, .int .i64 a0_4, .int .i64 a0_5], .int .i64 a3] rfl ?_; (with_reducible refine (cubic_Reach.calls a0_0 a0_1 a0_2 a0_3 a0_4 a0_5 a3 t518 t519 _ A6.out ?hT_).mono ?_); (case hT_ => exact tensB hL (by repeat (first | (with_reducible first | exact HB.out | apply below_alloc | apply pw_below_drewN | apply below_drew1 | refine below_set ?_ (Aside0.out (by assumption))) | exact HB.out))); rintro e w22 ⟨rfl, hb⟩; refine ⟨_, rfl, ?_⟩; replace BK516 := bdZ BK516 hb; replace HB := stA hb; clear hb; have hcz23_0 := czZ BK516 0 (.bool a0_0); have hcz23_1 := czZ BK516 1 (.int .i64 a0_1); have hcz23_2 := czZ BK516 2 (.int .i64 a0_2); have hcz23_3 := czZ BK516 3 (.int .i64 a0_3); have hcz23_4 := czZ BK516 4 (.int .i64 a0_4); have hcz23_5 := czZ BK516 5 (.int .i64 a0_5); have hfz23_0 := blk_frozen BK516.out 0; have hfz23_1 := blk_frozen BK516.out 1; have hfz23_2 := blk_frozen BK516.out 2; have hfz23_3 := blk_frozen BK516.out 3; have hfz23_4 := blk_frozen BK516.out 4; have hfz23_5 := blk_frozen BK516.out 5) | ((with_reducible refine gate_callee (f := 12) rfl ?_); refine goesLA_ (some 24) rfl rfl Tryd.func12 rfl #[.agg #[.bool a0_0, .int .i64 a0_1, .int .i64 a0_2, .int .i64 a0_3, .int .i64 a0_4, .int .i64 a0_5], .int .i64 a3] rfl ?_; (with_reducible refine (sawtoothref12_ReachS.calls a0_0 a0_1 a0_2 a0_3 a0_4 a0_5 a3 t520 t521 _ A7.out).mono ?_); rintro e w24 ⟨rfl, hb⟩; refine ⟨_, rfl, ?_⟩; replace BK516 := bdZ BK516 hb; replace HB := stA hb; clear hb))
      replace BK516 := Aside0.mk (blk_drew BK516.out); replace HB := Aside0.mk (below_drew1 HB.out); refine start_ (n := 39) (S := fun w' => w'.cell? ⟨gb516, 0, none⟩ = some (.bool a0_0) ∧ w'.cell? ⟨gb516, 1, none⟩ = some (.int .i64 a0_1) ∧ w'.cell? ⟨gb516, 2, none⟩ = some (.int .i64 a0_2) ∧ w'.cell? ⟨gb516, 3, none⟩ = some (.int .i64 a0_3) ∧ w'.cell? ⟨gb516, 4, none⟩ = some (.int .i64 a0_4) ∧ w'.cell? ⟨gb516, 5, none⟩ = some (.int .i64 a0_5)) (ds := []) #[N,N,N,N,N,N,N,N,N,N,N,N,N,N,N,N,N,N,N,N,N,N,N,N,N,N,N,N,N,N,N,N,N,N,N,N,N,N,N] (by kernel_rfl) rfl rfl ⟨(blk_cell BK516.out 0).trans rfl, (blk_cell BK516.out 1).trans rfl, (blk_cell BK516.out 2).trans rfl, (blk_cell BK516.out 3).trans rfl, (blk_cell BK516.out 4).trans rfl, (blk_cell BK516.out 5).trans rfl⟩ (fun hHeld => ?_); refine with_tabW sawtoothlaw12_CubicTells.tab4 sawtoothlaw12_CubicTells.bits4 (fun HT_ HW_ => ?_)
      generalize w24.drew = w25 at BK516 HB hHeld ⊢
      refine pureA_ (i := 0) (N := some 27) #[Y,N,N,N,N,N,N,N,N,N,N,N,N,N,N,N,N,N,N,N,N,N,N,N,N,N,N,N,N,N,N,N,N,N,N,N,N,N,N] rfl rfl (any_of HT_.out (by kernel_rfl)) ?_
      refine pureA_ (i := 1) (N := some 28) #[Y,Y,N,N,N,N,N,N,N,N,N,N,N,N,N,N,N,N,N,N,N,N,N,N,N,N,N,N,N,N,N,N,N,N,N,N,N,N,N] rfl rfl (any_of HT_.out (by kernel_rfl)) ?_
      refine pureA_ (i := 2) (N := some 29) #[Y,Y,Y,N,N,N,N,N,N,N,N,N,N,N,N,N,N,N,N,N,N,N,N,N,N,N,N,N,N,N,N,N,N,N,N,N,N,N,N] rfl rfl (any_of HT_.out (by kernel_rfl)) ?_
      refine pureA_ (i := 4) (N := some 31) #[Y,Y,Y,N,Y,N,N,N,N,N,N,N,N,N,N,N,N,N,N,N,N,N,N,N,N,N,N,N,N,N,N,N,N,N,N,N,N,N,N] rfl rfl (any_of HT_.out (by kernel_rfl)) ?_
      refine one_ (i := 3) (N := some 30) #[Y,Y,Y,Y,Y,N,N,N,N,N,N,N,N,N,N,N,N,N,N,N,N,N,N,N,N,N,N,N,N,N,N,N,N,N,N,N,N,N,N] rfl rfl (one_of HT_.out (by kernel_rfl)) (by decide) (fun K hK => ?_); refine goesA_ Tryd.func13 rfl #[.int .i64 a1] (by rfl) rfl rfl ?_
      with_reducible refine (cubic_RiseS.calls a1 t522 _ A9.out).mono ?_
      rintro e w26 ⟨rfl, hb⟩; refine ⟨_, rfl, ?_⟩; replace BK516 := bbZ BK516 hb; replace HB := Aside0.mk (below_step HB.out hb); clear hb; refine hK.out _ _ ⟨(blk_cell BK516.out 0).trans rfl, (blk_cell BK516.out 1).trans rfl, (blk_cell BK516.out 2).trans rfl, (blk_cell BK516.out 3).trans rfl, (blk_cell BK516.out 4).trans rfl, (blk_cell BK516.out 5).trans rfl⟩ (fun hHeld => ?_); clear hK K; refine normA_ (some 30) ?_
      refine one_ (i := 5) (N := some 32) #[Y,Y,Y,Y,Y,Y,N,N,N,N,N,N,N,N,N,N,N,N,N,N,N,N,N,N,N,N,N,N,N,N,N,N,N,N,N,N,N,N,N] rfl rfl (one_of HT_.out (by kernel_rfl)) (by decide) (fun K hK => ?_); refine goesA_ Tryd.func14 rfl #[.int .i64 a1] (by rfl) rfl rfl ?_
      with_reducible refine (sawtoothref12_RiseS.calls a1 t523 _ A10.out).mono ?_
      rintro e w27 ⟨rfl, hb⟩; refine ⟨_, rfl, ?_⟩; replace BK516 := bbZ BK516 hb; replace HB := Aside0.mk (below_step HB.out hb); clear hb; refine hK.out _ _ ⟨(blk_cell BK516.out 0).trans rfl, (blk_cell BK516.out 1).trans rfl, (blk_cell BK516.out 2).trans rfl, (blk_cell BK516.out 3).trans rfl, (blk_cell BK516.out 4).trans rfl, (blk_cell BK516.out 5).trans rfl⟩ (fun hHeld => ?_); clear hK K; refine normA_ (some 32) ?_
      refine pureA_ (i := 6) (N := some 33) #[Y,Y,Y,Y,Y,Y,Y,N,N,N,N,N,N,N,N,N,N,N,N,N,N,N,N,N,N,N,N,N,N,N,N,N,N,N,N,N,N,N,N] rfl rfl (any_of HT_.out (by kernel_rfl)) ?_
      refine pureA_ (i := 7) (N := some 34) #[Y,Y,Y,Y,Y,Y,Y,Y,N,N,N,N,N,N,N,N,N,N,N,N,N,N,N,N,N,N,N,N,N,N,N,N,N,N,N,N,N,N,N] rfl rfl (any_of HT_.out (by kernel_rfl)) ?_
      refine pureA_ (i := 8) (N := some 35) #[Y,Y,Y,Y,Y,Y,Y,Y,Y,N,N,N,N,N,N,N,N,N,N,N,N,N,N,N,N,N,N,N,N,N,N,N,N,N,N,N,N,N,N] rfl rfl (any_of HT_.out (by kernel_rfl)) ?_
      refine pureA_ (i := 10) (N := some 37) #[Y,Y,Y,Y,Y,Y,Y,Y,Y,N,Y,N,N,N,N,N,N,N,N,N,N,N,N,N,N,N,N,N,N,N,N,N,N,N,N,N,N,N,N] rfl rfl (any_of HT_.out (by kernel_rfl)) ?_
      refine pureA_ (i := 13) (N := some 40) #[Y,Y,Y,Y,Y,Y,Y,Y,Y,N,Y,N,N,Y,N,N,N,N,N,N,N,N,N,N,N,N,N,N,N,N,N,N,N,N,N,N,N,N,N] rfl rfl (any_of HT_.out (by kernel_rfl)) ?_
      refine take_ (i := 9) (N := some 36) (v := ?_) (a' := ?_) #[Y,Y,Y,Y,Y,Y,Y,Y,Y,Y,Y,N,N,Y,N,N,N,N,N,N,N,N,N,N,N,N,N,N,N,N,N,N,N,N,N,N,N,N,N] rfl rfl (take_ofW HT_.out HW_.out (by kernel_rfl)) (fun _ _ _ h => h) (Or.inl ⟨by rfl, ?_⟩) hHeld ?_ ?_; rotate_left
      ·rintro w' ⟨s0, s1, s2, s3, s4, s5⟩; go_simp
       with_reducible rfl
      rotate_left
      ·simp only [Act.put, sA, sB, sC, i64_w, i32_w]
       rfl
      refine take_ (i := 12) (N := some 39) (v := ?_) (a' := ?_) #[Y,Y,Y,Y,Y,Y,Y,Y,Y,Y,Y,N,Y,Y,N,N,N,N,N,N,N,N,N,N,N,N,N,N,N,N,N,N,N,N,N,N,N,N,N] rfl rfl (take_ofW HT_.out HW_.out (by kernel_rfl)) (fun _ _ _ h => h) (Or.inl ⟨by rfl, ?_⟩) hHeld ?_ ?_; rotate_left
      ·rintro w' ⟨s0, s1, s2, s3, s4, s5⟩; go_simp
       with_reducible rfl
      rotate_left
      ·simp only [Act.put, sA, sB, sC, i64_w, i32_w]
       rfl
      refine one_ (i := 11) (N := some 38) #[Y,Y,Y,Y,Y,Y,Y,Y,Y,Y,Y,Y,Y,Y,N,N,N,N,N,N,N,N,N,N,N,N,N,N,N,N,N,N,N,N,N,N,N,N,N] rfl rfl (one_of HT_.out (by kernel_rfl)) (by decide) (fun K hK => ?_); refine goesA_ Tryd.func15 rfl #[.agg #[.bool a0_0, .int .i64 a0_1, .int .i64 a0_2, .int .i64 a0_3, .int .i64 a0_4, .int .i64 a0_5], .int .i64 a2] (by rfl) rfl rfl ?_
      (with_reducible refine (cubic_AtS.calls a0_0 a0_1 a0_2 a0_3 a0_4 a0_5 a2 t524 _ A12.out ?hT_).mono ?_); (case hT_ => exact tensB hL (by repeat (first | (with_reducible first | exact HB.out | apply below_alloc | apply pw_below_drewN | apply below_drew1 | refine below_set ?_ (Aside0.out (by assumption))) | exact HB.out)))
      rintro e w28 ⟨rfl, hb⟩; refine ⟨_, rfl, ?_⟩; replace BK516 := bbZ BK516 hb; replace HB := Aside0.mk (below_step HB.out hb); clear hb; refine hK.out _ _ ⟨(blk_cell BK516.out 0).trans rfl, (blk_cell BK516.out 1).trans rfl, (blk_cell BK516.out 2).trans rfl, (blk_cell BK516.out 3).trans rfl, (blk_cell BK516.out 4).trans rfl, (blk_cell BK516.out 5).trans rfl⟩ (fun hHeld => ?_); clear hK K; refine normA_ (some 38) ?_
      refine one_ (i := 14) (N := some 41) #[Y,Y,Y,Y,Y,Y,Y,Y,Y,Y,Y,Y,Y,Y,Y,N,N,N,N,N,N,N,N,N,N,N,N,N,N,N,N,N,N,N,N,N,N,N,N] rfl rfl (one_of HT_.out (by kernel_rfl)) (by decide) (fun K hK => ?_); refine goesA_ Tryd.func16 rfl #[.agg #[.bool a0_0, .int .i64 a0_1, .int .i64 a0_2, .int .i64 a0_3, .int .i64 a0_4, .int .i64 a0_5], .int .i64 a2] (by rfl) rfl rfl ?_
      with_reducible refine (sawtoothref12_AtS.calls a0_0 a0_1 a0_2 a0_3 a0_4 a0_5 a2 t525 _ A13.out).mono ?_
      rintro e w29 ⟨rfl, hb⟩; refine ⟨_, rfl, ?_⟩; replace BK516 := bbZ BK516 hb; replace HB := Aside0.mk (below_step HB.out hb); clear hb; refine hK.out _ _ ⟨(blk_cell BK516.out 0).trans rfl, (blk_cell BK516.out 1).trans rfl, (blk_cell BK516.out 2).trans rfl, (blk_cell BK516.out 3).trans rfl, (blk_cell BK516.out 4).trans rfl, (blk_cell BK516.out 5).trans rfl⟩ (fun hHeld => ?_); clear hK K; refine normA_ (some 41) ?_
      refine pureA_ (i := 15) (N := some 42) #[Y,Y,Y,Y,Y,Y,Y,Y,Y,Y,Y,Y,Y,Y,Y,Y,N,N,N,N,N,N,N,N,N,N,N,N,N,N,N,N,N,N,N,N,N,N,N] rfl rfl (any_of HT_.out (by kernel_rfl)) ?_
      refine pureA_ (i := 16) (N := some 43) #[Y,Y,Y,Y,Y,Y,Y,Y,Y,Y,Y,Y,Y,Y,Y,Y,Y,N,N,N,N,N,N,N,N,N,N,N,N,N,N,N,N,N,N,N,N,N,N] rfl rfl (any_of HT_.out (by kernel_rfl)) ?_
      refine pureA_ (i := 17) (N := some 44) #[Y,Y,Y,Y,Y,Y,Y,Y,Y,Y,Y,Y,Y,Y,Y,Y,Y,Y,N,N,N,N,N,N,N,N,N,N,N,N,N,N,N,N,N,N,N,N,N] rfl rfl (any_of HT_.out (by kernel_rfl)) ?_
      refine pureA_ (i := 19) (N := some 46) #[Y,Y,Y,Y,Y,Y,Y,Y,Y,Y,Y,Y,Y,Y,Y,Y,Y,Y,N,Y,N,N,N,N,N,N,N,N,N,N,N,N,N,N,N,N,N,N,N] rfl rfl (any_of HT_.out (by kernel_rfl)) ?_
      refine pureA_ (i := 20) (N := some 47) #[Y,Y,Y,Y,Y,Y,Y,Y,Y,Y,Y,Y,Y,Y,Y,Y,Y,Y,N,Y,Y,N,N,N,N,N,N,N,N,N,N,N,N,N,N,N,N,N,N] rfl rfl (any_of HT_.out (by kernel_rfl)) ?_
      refine pureA_ (i := 23) (N := some 50) #[Y,Y,Y,Y,Y,Y,Y,Y,Y,Y,Y,Y,Y,Y,Y,Y,Y,Y,N,Y,Y,N,N,Y,N,N,N,N,N,N,N,N,N,N,N,N,N,N,N] rfl rfl (any_of HT_.out (by kernel_rfl)) ?_
      refine pureA_ (i := 24) (N := some 51) #[Y,Y,Y,Y,Y,Y,Y,Y,Y,Y,Y,Y,Y,Y,Y,Y,Y,Y,N,Y,Y,N,N,Y,Y,N,N,N,N,N,N,N,N,N,N,N,N,N,N] rfl rfl (any_of HT_.out (by kernel_rfl)) ?_
      refine take_ (i := 18) (N := some 45) (v := ?_) (a' := ?_) #[Y,Y,Y,Y,Y,Y,Y,Y,Y,Y,Y,Y,Y,Y,Y,Y,Y,Y,Y,Y,Y,N,N,Y,Y,N,N,N,N,N,N,N,N,N,N,N,N,N,N] rfl rfl (take_ofW HT_.out HW_.out (by kernel_rfl)) (fun _ _ _ h => h) (Or.inl ⟨by rfl, ?_⟩) hHeld ?_ ?_; rotate_left
      ·rintro w' ⟨s0, s1, s2, s3, s4, s5⟩; go_simp
       with_reducible rfl
      rotate_left
      ·simp only [Act.put, sA, sB, sC, i64_w, i32_w]
       rfl
      refine take_ (i := 22) (N := some 49) (v := ?_) (a' := ?_) #[Y,Y,Y,Y,Y,Y,Y,Y,Y,Y,Y,Y,Y,Y,Y,Y,Y,Y,Y,Y,Y,N,Y,Y,Y,N,N,N,N,N,N,N,N,N,N,N,N,N,N] rfl rfl (take_ofW HT_.out HW_.out (by kernel_rfl)) (fun _ _ _ h => h) (Or.inl ⟨by rfl, ?_⟩) hHeld ?_ ?_; rotate_left
      ·rintro w' ⟨s0, s1, s2, s3, s4, s5⟩; go_simp
       with_reducible rfl
      rotate_left
      ·simp only [Act.put, sA, sB, sC, i64_w, i32_w]
       rfl
      refine one_ (i := 21) (N := some 48) #[Y,Y,Y,Y,Y,Y,Y,Y,Y,Y,Y,Y,Y,Y,Y,Y,Y,Y,Y,Y,Y,Y,Y,Y,Y,N,N,N,N,N,N,N,N,N,N,N,N,N,N] rfl rfl (one_of HT_.out (by kernel_rfl)) (by decide) (fun K hK => ?_); refine goesA_ Tryd.func17 rfl #[.agg #[.bool a0_0, .int .i64 a0_1, .int .i64 a0_2, .int .i64 a0_3, .int .i64 a0_4, .int .i64 a0_5], .int .i64 a2, .int .i64 a3] (by rfl) rfl rfl ?_
      (with_reducible refine (cubic_TargetS.calls a0_0 a0_1 a0_2 a0_3 a0_4 a0_5 a2 a3 t526 _ A15.out ?hT_).mono ?_); (case hT_ => exact tensB hL (by repeat (first | (with_reducible first | exact HB.out | apply below_alloc | apply pw_below_drewN | apply below_drew1 | refine below_set ?_ (Aside0.out (by assumption))) | exact HB.out)))
      rintro e w30 ⟨rfl, hb⟩; refine ⟨_, rfl, ?_⟩; replace BK516 := bbZ BK516 hb; replace HB := Aside0.mk (below_step HB.out hb); clear hb; refine hK.out _ _ ⟨(blk_cell BK516.out 0).trans rfl, (blk_cell BK516.out 1).trans rfl, (blk_cell BK516.out 2).trans rfl, (blk_cell BK516.out 3).trans rfl, (blk_cell BK516.out 4).trans rfl, (blk_cell BK516.out 5).trans rfl⟩ (fun hHeld => ?_); clear hK K; refine normA_ (some 48) ?_
      refine one_ (i := 25) (N := some 52) #[Y,Y,Y,Y,Y,Y,Y,Y,Y,Y,Y,Y,Y,Y,Y,Y,Y,Y,Y,Y,Y,Y,Y,Y,Y,Y,N,N,N,N,N,N,N,N,N,N,N,N,N] rfl rfl (one_of HT_.out (by kernel_rfl)) (by decide) (fun K hK => ?_); refine goesA_ Tryd.func18 rfl #[.agg #[.bool a0_0, .int .i64 a0_1, .int .i64 a0_2, .int .i64 a0_3, .int .i64 a0_4, .int .i64 a0_5], .int .i64 a2, .int .i64 a3] (by rfl) rfl rfl ?_
      with_reducible refine (sawtoothref12_TargetS.calls a0_0 a0_1 a0_2 a0_3 a0_4 a0_5 a2 a3 t527 _ A16.out).mono ?_
      rintro e w31 ⟨rfl, hb⟩; refine ⟨_, rfl, ?_⟩; replace BK516 := bbZ BK516 hb; replace HB := Aside0.mk (below_step HB.out hb); clear hb; refine hK.out _ _ ⟨(blk_cell BK516.out 0).trans rfl, (blk_cell BK516.out 1).trans rfl, (blk_cell BK516.out 2).trans rfl, (blk_cell BK516.out 3).trans rfl, (blk_cell BK516.out 4).trans rfl, (blk_cell BK516.out 5).trans rfl⟩ (fun hHeld => ?_); clear hK K; refine normA_ (some 52) ?_
      refine pureA_ (i := 26) (N := some 53) #[Y,Y,Y,Y,Y,Y,Y,Y,Y,Y,Y,Y,Y,Y,Y,Y,Y,Y,Y,Y,Y,Y,Y,Y,Y,Y,Y,N,N,N,N,N,N,N,N,N,N,N,N] rfl rfl (any_of HT_.out (by kernel_rfl)) ?_
      refine pureA_ (i := 27) (N := some 54) #[Y,Y,Y,Y,Y,Y,Y,Y,Y,Y,Y,Y,Y,Y,Y,Y,Y,Y,Y,Y,Y,Y,Y,Y,Y,Y,Y,Y,N,N,N,N,N,N,N,N,N,N,N] rfl rfl (any_of HT_.out (by kernel_rfl)) ?_
      refine pureA_ (i := 28) (N := some 55) #[Y,Y,Y,Y,Y,Y,Y,Y,Y,Y,Y,Y,Y,Y,Y,Y,Y,Y,Y,Y,Y,Y,Y,Y,Y,Y,Y,Y,Y,N,N,N,N,N,N,N,N,N,N] rfl rfl (any_of HT_.out (by kernel_rfl)) ?_
      refine pureA_ (i := 29) (N := some 56) #[Y,Y,Y,Y,Y,Y,Y,Y,Y,Y,Y,Y,Y,Y,Y,Y,Y,Y,Y,Y,Y,Y,Y,Y,Y,Y,Y,Y,Y,Y,N,N,N,N,N,N,N,N,N] rfl rfl (any_of HT_.out (by kernel_rfl)) ?_
      refine pureA_ (i := 30) (N := some 57) #[Y,Y,Y,Y,Y,Y,Y,Y,Y,Y,Y,Y,Y,Y,Y,Y,Y,Y,Y,Y,Y,Y,Y,Y,Y,Y,Y,Y,Y,Y,Y,N,N,N,N,N,N,N,N] rfl rfl (any_of HT_.out (by kernel_rfl)) ?_
      refine pureA_ (i := 31) (N := some 58) #[Y,Y,Y,Y,Y,Y,Y,Y,Y,Y,Y,Y,Y,Y,Y,Y,Y,Y,Y,Y,Y,Y,Y,Y,Y,Y,Y,Y,Y,Y,Y,Y,N,N,N,N,N,N,N] rfl rfl (any_of HT_.out (by kernel_rfl)) ?_
      refine pureA_ (i := 32) (N := some 59) #[Y,Y,Y,Y,Y,Y,Y,Y,Y,Y,Y,Y,Y,Y,Y,Y,Y,Y,Y,Y,Y,Y,Y,Y,Y,Y,Y,Y,Y,Y,Y,Y,Y,N,N,N,N,N,N] rfl rfl (any_of HT_.out (by kernel_rfl)) ?_
      refine pureA_ (i := 33) (N := some 60) #[Y,Y,Y,Y,Y,Y,Y,Y,Y,Y,Y,Y,Y,Y,Y,Y,Y,Y,Y,Y,Y,Y,Y,Y,Y,Y,Y,Y,Y,Y,Y,Y,Y,Y,N,N,N,N,N] rfl rfl (any_of HT_.out (by kernel_rfl)) ?_
      refine pureA_ (i := 34) (N := some 61) #[Y,Y,Y,Y,Y,Y,Y,Y,Y,Y,Y,Y,Y,Y,Y,Y,Y,Y,Y,Y,Y,Y,Y,Y,Y,Y,Y,Y,Y,Y,Y,Y,Y,Y,Y,N,N,N,N] rfl rfl (any_of HT_.out (by kernel_rfl)) ?_
      refine pureA_ (i := 35) (N := some 62) #[Y,Y,Y,Y,Y,Y,Y,Y,Y,Y,Y,Y,Y,Y,Y,Y,Y,Y,Y,Y,Y,Y,Y,Y,Y,Y,Y,Y,Y,Y,Y,Y,Y,Y,Y,Y,N,N,N] rfl rfl (any_of HT_.out (by kernel_rfl)) ?_
      refine pureA_ (i := 36) (N := some 63) #[Y,Y,Y,Y,Y,Y,Y,Y,Y,Y,Y,Y,Y,Y,Y,Y,Y,Y,Y,Y,Y,Y,Y,Y,Y,Y,Y,Y,Y,Y,Y,Y,Y,Y,Y,Y,Y,N,N] rfl rfl (any_of HT_.out (by kernel_rfl)) ?_
      refine pureA_ (i := 37) (N := some 64) #[Y,Y,Y,Y,Y,Y,Y,Y,Y,Y,Y,Y,Y,Y,Y,Y,Y,Y,Y,Y,Y,Y,Y,Y,Y,Y,Y,Y,Y,Y,Y,Y,Y,Y,Y,Y,Y,Y,N] rfl rfl (any_of HT_.out (by kernel_rfl)) ?_
      refine pureA_ (i := 38) (N := some 8) #[Y,Y,Y,Y,Y,Y,Y,Y,Y,Y,Y,Y,Y,Y,Y,Y,Y,Y,Y,Y,Y,Y,Y,Y,Y,Y,Y,Y,Y,Y,Y,Y,Y,Y,Y,Y,Y,Y,Y] rfl rfl (any_of HT_.out (by kernel_rfl)) ?_
      refine done_ (done_of HT_.out (by kernel_rfl)) ?_
      try go_wp2
      go_ret
      exact ⟨by first | rfl | (simp [errW_none, errW_some] <;> rfl) | (simp [*, errW_none, errW_some] <;> rfl), by repeat (first | (with_reducible first | exact HB.out | apply below_alloc | apply pw_below_drewN | apply below_drew1 | refine below_set ?_ GE516.out) | exact HB.out)⟩
     ·rw [if_neg c18] at H
      have c18b0 : (t518 == t520) = false := beq_eq_false_iff_ne.mpr c18; have c18b1 : (t518 != t520) = true := bne_iff_ne.mpr c18; exact absurd H (by simp)
    ·rw [if_neg c17] at H
     have c17b0 : (t526 == t527) = false := beq_eq_false_iff_ne.mpr c17; have c17b1 : (t526 != t527) = true := bne_iff_ne.mpr c17; exact absurd H (by simp)
   ·rw [if_neg c14] at H
    have c14b0 : (t524 == t525) = false := beq_eq_false_iff_ne.mpr c14; have c14b1 : (t524 != t525) = true := bne_iff_ne.mpr c14; exact absurd H (by simp)
  ·rw [if_neg c11] at H
   have c11b0 : (t522 == t523) = false := beq_eq_false_iff_ne.mpr c11; have c11b1 : (t522 != t523) = true := bne_iff_ne.mpr c11; exact absurd H (by simp)
 ·replace c8 := Bool.eq_false_iff.mpr c8
  subst c8
  have H1 : (none) = some r := by rw [if_neg (show ¬ (false = true) by decide)] at H; exact H
  clear H; have H := H1; clear H1; exact absurd H (by simp)

end Go.Proofs.YtgakpcfmgcpeaaaDoor.Px
