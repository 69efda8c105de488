/- Printed by px.py, over the kit's print. Conditions: none beside the theorems' own. -/
import Derived.Test.YtceiakiihkaamaaDoorPx0
import Derived.Test.YtceiakiihkaamaaDoorPx23
import Derived.Test.YtceiakiihkaamaaDoorPx27
import Derived.Test.YtceiakiihkaamaaDoorPx28
import Derived.Test.YtceiakiihkaamaaDoorPx29
import Derived.Test.YtceiakiihkaamaaDoorSpec
namespace Go.Proofs.YtceiakiihkaamaaDoor.Px
open Go.RowKit Go.Proofs.YtceiakiihkaamaaDoorW.PrintWords Go.Proofs.YtceiakiihkaamaaDoorW.PrintLast Go.Proofs.YtceiakiihkaamaaDoorW.PrintMore
attribute [local go_sem] max2_int min2_int max_two min_two max_three min_three max_four min_four
set_option linter.unusedVariables false
set_option linter.unusedSimpArgs false

/-! ### sawtoothlaw11_awakeS: pure, behind function 10 -/
section
open Go.Proofs.YtceiakiihkaamaaDoor.Sp
noncomputable def sawtoothlaw11_awakeS.f  : Option (Bool) := some true
theorem sawtoothlaw11_awakeS.eq   : sawtoothlaw11_awakeS.f  = some true := rfl
theorem sawtoothlaw11_awake.main   : sawtoothlaw11_awake.f  = some true := by
 unfold sawtoothlaw11_awake.f
 have k1 : kQ 26214 = 999994 := kQ_eq (by omega) (by omega) (by omega) (by omega) (by omega); have k2 : kQ 262144 = 2154434 := kQ_eq (by omega) (by omega) (by omega) (by omega) (by omega)
 have b1 : beginQ 5 196608 589824 = (true, 5, 196608, 589824, kQ 393216, 196608, 0) := by simp [beginQ, max2]
 have b2 : beginQ 5 589824 196608 = (true, 5, 589824, 589824, 0, 589824, 0) := by simp [beginQ, max2, kQ_low]
 have b3 : beginQ (-1) 0 0 = (false, 0, 0, 0, 0, 0, 201) := by simp [beginQ]
 have b4 : beginQ 0 68719476737 0 = (false, 0, 0, 0, 0, 0, 201) := by simp [beginQ]
 have f1 : fastQ 10 20 = 20 := by simp [fastQ]
 have f2 : fastQ 21 20 = 17 := by simp [fastQ]
 have f3 : fastQ 0 (-20) = 0 := by simp [fastQ]
 have e1 : eOk true 5 196608 589824 (kQ 393216) 196608 = true := eOk_on.2 (by unfold eOn; simp); have e2 : eOk false 0 0 0 0 0 = true := eOk_off.2 (by simp)
 have e3 : eOk false 0 0 0 1 0 = false := by
  cases x : eOk false 0 0 0 1 0
  ·rfl
  ·have := eOk_off.1 x; omega
 have kb := kQ_bd 393216
 rw [epoch_BeginS.eq (by omega) (by omega) (by omega), b1, epoch_BeginS.eq (by omega) (by omega) (by omega), b2, epoch_BeginS.eq (by omega) (by omega) (by omega), b3, epoch_BeginS.eq (by omega) (by omega) (by omega), b4, epoch_K.eq (by omega), kQ_low (g := 0) (by omega), epoch_K.eq (by omega), kQ_low (g := -5) (by omega), epoch_K.eq (by omega), k1, epoch_K.eq (by omega), k2, epoch_FastS.eq (by omega) (by omega), f1, epoch_FastS.eq (by omega) (by omega), f2, epoch_FastS.eq (by omega) (by omega), f3, epoch_K.eq (by omega)]
 simp only [Option.bind_some, if_true]
 rw [epoch_CheckS.eq (by omega) (by omega) (by omega), e1, epoch_CheckS.eq (by omega) (by omega) (by omega), e2, epoch_CheckS.eq (by omega) (by omega) (by omega), e3, epoch_ShiftS.eq (by omega) (by omega), epoch_ShiftS.eq (by omega) (by omega)]
 simp [laterQ]
end
theorem sawtoothlaw11_awakeS.calls  (r : Bool) (w : World) (h : sawtoothlaw11_awakeS.f  = some r) (hL : Tens w) :
  Calls Tryd.prog 10 #[] w fun e w' => e = .returned (.bool r) ∧ Below w.heap.size w w' := by
 exact sawtoothlaw11_awake.calls  r w (by rw [sawtoothlaw11_awake.main ]; exact h) hL

/-! ### sawtoothref01_Clamp: function 31 -/
noncomputable def sawtoothref01_Clamp.f (a0 : Int) (a1 : Int) (a2 : Int) : Option (Int) := if a0 < a1 then (some a1) else (if a0 > a2 then (some a2) else (some a0))
set_option maxHeartbeats 8000000 in
set_option maxRecDepth 100000 in
theorem sawtoothref01_Clamp.calls (a0 : Int) (a1 : Int) (a2 : Int) (r : Int) (w : World) (h : sawtoothref01_Clamp.f a0 a1 a2 = some r) :
  Calls Tryd.prog 31 #[.int .i64 a0, .int .i64 a1, .int .i64 a2] w fun e w' => e = .returned (.int .i64 r) ∧ Drawn0 w w' := by
 have H : (if a0 < a1 then (some a1) else (if a0 > a2 then (some a2) else (some a0))) = some r := h; clear h
 by_cases c4 : a0 < a1
 ·rw [if_pos c4] at H
  have c4b0 : decide (a0 < a1) = true := decide_eq_true c4; clear c4; obtain rfl := Option.some.inj H
  go_enter Tryd.func31, Tryd.ntmps31
  go_wp2
  go_ret
  exact ⟨by first | rfl | (simp; done) | (simp [*]; done), by repeat (first | exact Drawn0.refl _ | apply Drawn0.step)⟩
 ·rw [if_neg c4] at H
  have c4b0 : decide (a0 < a1) = false := decide_eq_false c4; clear c4
  by_cases c5 : a0 > a2
  ·rw [if_pos c5] at H
   have c5b0 : decide (a2 < a0) = true := decide_eq_true c5; clear c5; obtain rfl := Option.some.inj H
   go_enter Tryd.func31, Tryd.ntmps31
   go_wp2
   go_ret
   exact ⟨by first | rfl | (simp; done) | (simp [*]; done), by repeat (first | exact Drawn0.refl _ | apply Drawn0.step)⟩
  ·rw [if_neg c5] at H
   have c5b0 : decide (a2 < a0) = false := decide_eq_false c5; clear c5; obtain rfl := Option.some.inj H
   go_enter Tryd.func31, Tryd.ntmps31
   go_wp2
   go_ret
   exact ⟨by first | rfl | (simp; done) | (simp [*]; done), by repeat (first | exact Drawn0.refl _ | apply Drawn0.step)⟩

/-! ### sawtoothref01_ClampS: pure, behind function 31 -/
section
open Go.Proofs.YtceiakiihkaamaaDoor.Sp
noncomputable def sawtoothref01_ClampS.f (a : Int) (b : Int) (c : Int) : Option (Int) := some (clamp a b c)
theorem sawtoothref01_ClampS.eq {a : Int} {b : Int} {c : Int}  : sawtoothref01_ClampS.f a b c = some (clamp a b c) := rfl
theorem sawtoothref01_Clamp.main {a : Int} {b : Int} {c : Int}  : sawtoothref01_Clamp.f a b c = some (clamp a b c) := by
 unfold sawtoothref01_Clamp.f clamp
 (repeat' split) <;> first | rfl | (exfalso; omega)
end
theorem sawtoothref01_ClampS.calls (a0 : Int) (a1 : Int) (a2 : Int) (r : Int) (w : World) (h : sawtoothref01_ClampS.f a0 a1 a2 = some r) :
  Calls Tryd.prog 31 #[.int .i64 a0, .int .i64 a1, .int .i64 a2] w fun e w' => e = .returned (.int .i64 r) ∧ Below w.heap.size w w' := by
 refine (sawtoothref01_Clamp.calls a0 a1 a2 r w (by rw [sawtoothref01_Clamp.main ]; exact h)).mono (fun e w' hq => ⟨hq.1, ?_⟩); obtain ⟨nd, rfl⟩ := hq.2; exact pw_below_drewN (Below.refl _ _) nd

/-! ### sawtoothref02_digits: function 66 -/
noncomputable def sawtoothref02_digits.f (a0_0 : Bool) (a0_1 : Int) (a0_2 : Int) : Option (Int × Int × Int × Int) := some (Int.tmod a0_2 4294967296, IntKind.u64.wrap (Int.tdiv a0_2 4294967296), Int.tmod a0_1 4294967296, IntKind.u64.wrap (Int.tdiv a0_1 4294967296))
set_option maxHeartbeats 8000000 in
set_option maxRecDepth 100000 in
theorem sawtoothref02_digits.calls (a0_0 : Bool) (a0_1 : Int) (a0_2 : Int) (r1 : Int) (r2 : Int) (r3 : Int) (r4 : Int) (w : World) (h : sawtoothref02_digits.f a0_0 a0_1 a0_2 = some (r1, r2, r3, r4)) :
  Calls Tryd.prog 66 #[.agg #[.bool a0_0, .int .u64 a0_1, .int .u64 a0_2]] w fun e w' => e = .returned (.agg #[.int .u64 r1, .int .u64 r2, .int .u64 r3, .int .u64 r4]) ∧ Below w.heap.size w w' := by
 have hu35 := Tryd.underlying35; have hu82 := Tryd.underlying82; have HB := Aside0.mk (Below.refl w.heap.size w); have H : (some (Int.tmod a0_2 4294967296, IntKind.u64.wrap (Int.tdiv a0_2 4294967296), Int.tmod a0_1 4294967296, IntKind.u64.wrap (Int.tdiv a0_1 4294967296))) = some (r1, r2, r3, r4) := h; clear h; simp only [Option.some.injEq, Prod.mk.injEq] at H; obtain ⟨rfl, rfl, rfl, rfl⟩ := H
 go_enter Tryd.func66, Tryd.ntmps66
 go_wp2_with (first | ((with_reducible refine gate_dst (N := 1) rfl ?_); refine box_event ?hg (N := 1) ?hd (cs := #[.bool a0_0, .int .u64 a0_1, .int .u64 a0_2]) (t := 35) ?hr ?_; (case hd => rfl); (case hg => rfl); (case hr => first | (go_simp; done) | (go_simp; rfl)); intro gb345 hg w2 hbox hb; have BK345 := Aside0.mk (hbox); obtain ⟨GW345, nHB⟩ := geA hg hb; have GE345 := GW345; replace HB := nHB; clear nHB; clear hb hbox hg) | ((with_reducible refine gate_dst (N := 2) rfl ?_); refine box_event ?hg (N := 2) ?hd (cs := #[.int .u64 0, .int .u64 0, .int .u64 0, .int .u64 0]) (t := 82) ?hr ?_; (case hd => rfl); (case hg => rfl); (case hr => first | (go_simp; done) | (go_simp; rfl)); intro gb346 hg w3 hbox hb; have BK346 := Aside0.mk (hbox); obtain ⟨GW346, nHB⟩ := geA hg hb; have GE346 := GW346; obtain ⟨NB345_346, NB346_345, nBK⟩ := nbA BK345 hg hb; replace BK345 := nBK; clear nBK; replace HB := nHB; clear nHB; clear hb hbox hg; have hnb4 := NB345_346.out; have hnc4 := NB346_345.out; have hcz5_0 := czZ BK345 0 (.bool a0_0); have hcz5_1 := czZ BK345 1 (.int .u64 a0_1); have hcz5_2 := czZ BK345 2 (.int .u64 a0_2); have hfz5_0 := blk_frozen BK345.out 0; have hfz5_1 := blk_frozen BK345.out 1; have hfz5_2 := blk_frozen BK345.out 2; have hcz6_0 := czZ BK346 0 (.int .u64 0); have hcz6_1 := czZ BK346 1 (.int .u64 0); have hcz6_2 := czZ BK346 2 (.int .u64 0); have hcz6_3 := czZ BK346 3 (.int .u64 0); have hfz6_0 := blk_frozen BK346.out 0; have hfz6_1 := blk_frozen BK346.out 1; have hfz6_2 := blk_frozen BK346.out 2; have hfz6_3 := blk_frozen BK346.out 3))
 refine bodyPost_ret (results_cell_row rfl _ _ gb346 82 #[.int .u64 (Int.tmod a0_2 4294967296), .int .u64 (IntKind.u64.wrap (Int.tdiv a0_2 4294967296)), .int .u64 (Int.tmod a0_1 4294967296), .int .u64 (IntKind.u64.wrap (Int.tdiv a0_1 4294967296))] (0, 0) _ rfl (by (with_reducible repeat first | apply blk_drewN | apply blk_drew | apply blk_alloc); refine blk_put (cs := #[.int .u64 (Int.tmod a0_2 4294967296), .int .u64 (IntKind.u64.wrap (Int.tdiv a0_2 4294967296)), .int .u64 (Int.tmod a0_1 4294967296), .int .u64 0]) ?_ 3 _ rfl; (with_reducible repeat first | apply blk_drewN | apply blk_drew | apply blk_alloc); refine blk_put (cs := #[.int .u64 (Int.tmod a0_2 4294967296), .int .u64 (IntKind.u64.wrap (Int.tdiv a0_2 4294967296)), .int .u64 0, .int .u64 0]) ?_ 2 _ rfl; (with_reducible repeat first | apply blk_drewN | apply blk_drew | apply blk_alloc); refine blk_put (cs := #[.int .u64 (Int.tmod a0_2 4294967296), .int .u64 0, .int .u64 0, .int .u64 0]) ?_ 1 _ rfl; (with_reducible repeat first | apply blk_drewN | apply blk_drew | apply blk_alloc); refine blk_put (cs := #[.int .u64 0, .int .u64 0, .int .u64 0, .int .u64 0]) ?_ 0 _ rfl; (with_reducible repeat first | apply blk_drewN | apply blk_drew | apply blk_alloc); exact BK346.out) Tryd.underlying82 rfl (by kernel_rfl)) rfl ?_; exact ⟨by first | rfl | (simp [errW_none, errW_some] <;> rfl) | (simp [*, errW_none, errW_some] <;> rfl), by repeat (first | (with_reducible first | exact HB.out | apply below_alloc | apply pw_below_drewN | apply below_drew1 | refine below_set ?_ (Aside0.out (by assumption))) | exact HB.out)⟩

/-! ### sawtoothref02_whole: function 67 -/
noncomputable def sawtoothref02_whole.f (a0_0 : Int) (a0_1 : Int) (a0_2 : Int) (a0_3 : Int) (a1 : Bool) : Option (Bool × Int × Int) := if a1 = true then (if (IntKind.u64.wrap ((IntKind.u64.wrap (a0_3 * 4294967296)) + a0_2)) > 0 then (some (true, IntKind.u64.wrap ((IntKind.u64.wrap (a0_3 * 4294967296)) + a0_2), IntKind.u64.wrap ((IntKind.u64.wrap (a0_1 * 4294967296)) + a0_0))) else (some (decide ((IntKind.u64.wrap ((IntKind.u64.wrap (a0_1 * 4294967296)) + a0_0)) > 0), IntKind.u64.wrap ((IntKind.u64.wrap (a0_3 * 4294967296)) + a0_2), IntKind.u64.wrap ((IntKind.u64.wrap (a0_1 * 4294967296)) + a0_0)))) else (some (false, IntKind.u64.wrap ((IntKind.u64.wrap (a0_3 * 4294967296)) + a0_2), IntKind.u64.wrap ((IntKind.u64.wrap (a0_1 * 4294967296)) + a0_0)))
set_option maxHeartbeats 8000000 in
set_option maxRecDepth 100000 in
theorem sawtoothref02_whole.calls (a0_0 : Int) (a0_1 : Int) (a0_2 : Int) (a0_3 : Int) (a1 : Bool) (r1 : Bool) (r2 : Int) (r3 : Int) (w : World) (h : sawtoothref02_whole.f a0_0 a0_1 a0_2 a0_3 a1 = some (r1, r2, r3)) :
  Calls Tryd.prog 67 #[.agg #[.int .u64 a0_0, .int .u64 a0_1, .int .u64 a0_2, .int .u64 a0_3], .bool a1] w fun e w' => e = .returned (.agg #[.bool r1, .int .u64 r2, .int .u64 r3]) ∧ Below w.heap.size w w' := by
 have hu82 := Tryd.underlying82; have hu35 := Tryd.underlying35; have HB := Aside0.mk (Below.refl w.heap.size w); have H : (if a1 = true then (if (IntKind.u64.wrap ((IntKind.u64.wrap (a0_3 * 4294967296)) + a0_2)) > 0 then (some (true, IntKind.u64.wrap ((IntKind.u64.wrap (a0_3 * 4294967296)) + a0_2), IntKind.u64.wrap ((IntKind.u64.wrap (a0_1 * 4294967296)) + a0_0))) else (some (decide ((IntKind.u64.wrap ((IntKind.u64.wrap (a0_1 * 4294967296)) + a0_0)) > 0), IntKind.u64.wrap ((IntKind.u64.wrap (a0_3 * 4294967296)) + a0_2), IntKind.u64.wrap ((IntKind.u64.wrap (a0_1 * 4294967296)) + a0_0)))) else (some (false, IntKind.u64.wrap ((IntKind.u64.wrap (a0_3 * 4294967296)) + a0_2), IntKind.u64.wrap ((IntKind.u64.wrap (a0_1 * 4294967296)) + a0_0)))) = some (r1, r2, r3) := h; clear h
 by_cases c3 : a1 = true
 ·subst c3
  have H1 : (if (IntKind.u64.wrap ((IntKind.u64.wrap (a0_3 * 4294967296)) + a0_2)) > 0 then (some (true, IntKind.u64.wrap ((IntKind.u64.wrap (a0_3 * 4294967296)) + a0_2), IntKind.u64.wrap ((IntKind.u64.wrap (a0_1 * 4294967296)) + a0_0))) else (some (decide ((IntKind.u64.wrap ((IntKind.u64.wrap (a0_1 * 4294967296)) + a0_0)) > 0), IntKind.u64.wrap ((IntKind.u64.wrap (a0_3 * 4294967296)) + a0_2), IntKind.u64.wrap ((IntKind.u64.wrap (a0_1 * 4294967296)) + a0_0)))) = some (r1, r2, r3) := by rw [if_pos rfl] at H; exact H
  clear H; have H := H1; clear H1
  by_cases c4 : (IntKind.u64.wrap ((IntKind.u64.wrap (a0_3 * 4294967296)) + a0_2)) > 0
  ·rw [if_pos c4] at H
   have c4b0 : decide (0 < (IntKind.u64.wrap ((IntKind.u64.wrap (a0_3 * 4294967296)) + a0_2))) = true := decide_eq_true c4; clear c4; simp only [Option.some.injEq, Prod.mk.injEq] at H; obtain ⟨rfl, rfl, rfl⟩ := H
   go_enter Tryd.func67, Tryd.ntmps67
   go_wp2_with (first | ((with_reducible refine gate_dst (N := 2) rfl ?_); refine box_event ?hg (N := 2) ?hd (cs := #[.int .u64 a0_0, .int .u64 a0_1, .int .u64 a0_2, .int .u64 a0_3]) (t := 82) ?hr ?_; (case hd => rfl); (case hg => rfl); (case hr => first | (go_simp; done) | (go_simp; rfl)); intro gb347 hg w5 hbox hb; have BK347 := Aside0.mk (hbox); obtain ⟨GW347, nHB⟩ := geA hg hb; have GE347 := GW347; replace HB := nHB; clear nHB; clear hb hbox hg) | ((with_reducible refine gate_dst (N := 4) rfl ?_); refine box_event ?hg (N := 4) ?hd (cs := #[.bool false, .int .u64 0, .int .u64 0]) (t := 35) ?hr ?_; (case hd => rfl); (case hg => rfl); (case hr => first | (go_simp; done) | (go_simp; rfl)); intro gb348 hg w6 hbox hb; have BK348 := Aside0.mk (hbox); obtain ⟨GW348, nHB⟩ := geA hg hb; have GE348 := GW348; obtain ⟨NB347_348, NB348_347, nBK⟩ := nbA BK347 hg hb; replace BK347 := nBK; clear nBK; replace HB := nHB; clear nHB; clear hb hbox hg; have hnb7 := NB347_348.out; have hnc7 := NB348_347.out; have hcz8_0 := czZ BK347 0 (.int .u64 a0_0); have hcz8_1 := czZ BK347 1 (.int .u64 a0_1); have hcz8_2 := czZ BK347 2 (.int .u64 a0_2); have hcz8_3 := czZ BK347 3 (.int .u64 a0_3); have hfz8_0 := blk_frozen BK347.out 0; have hfz8_1 := blk_frozen BK347.out 1; have hfz8_2 := blk_frozen BK347.out 2; have hfz8_3 := blk_frozen BK347.out 3) | ((with_reducible refine gate_dst (N := 5) rfl ?_); refine box_event ?hg (N := 5) ?hd (cs := #[.bool false, .int .u64 0, .int .u64 0]) (t := 35) ?hr ?_; (case hd => rfl); (case hg => rfl); (case hr => first | (go_simp; done) | (go_simp; rfl)); intro gb349 hg w9 hbox hb; have BK349 := Aside0.mk (hbox); obtain ⟨GW349, nHB⟩ := geA hg hb; have GE349 := GW349; obtain ⟨NB347_349, NB349_347, nBK⟩ := nbA BK347 hg hb; replace BK347 := nBK; clear nBK; obtain ⟨NB348_349, NB349_348, nBK⟩ := nbA BK348 hg hb; replace BK348 := nBK; clear nBK; replace HB := nHB; clear nHB; clear hb hbox hg; have hnb10 := NB349_347.out; have hnc10 := NB347_349.out; have hnb11 := NB349_348.out; have hnc11 := NB348_349.out; have hcz12_0 := czZ BK349 0 (.bool false); have hcz12_1 := czZ BK349 1 (.int .u64 0); have hcz12_2 := czZ BK349 2 (.int .u64 0); have hfz12_0 := blk_frozen BK349.out 0; have hfz12_1 := blk_frozen BK349.out 1; have hfz12_2 := blk_frozen BK349.out 2; have hcz13_0 := czZ BK348 0 (.bool false); have hcz13_1 := czZ BK348 1 (.int .u64 0); have hcz13_2 := czZ BK348 2 (.int .u64 0); have hfz13_0 := blk_frozen BK348.out 0; have hfz13_1 := blk_frozen BK348.out 1; have hfz13_2 := blk_frozen BK348.out 2))
   refine bodyPost_ret (results_cell_row rfl _ _ gb348 35 #[.bool true, .int .u64 (IntKind.u64.wrap ((IntKind.u64.wrap (a0_3 * 4294967296)) + a0_2)), .int .u64 (IntKind.u64.wrap ((IntKind.u64.wrap (a0_1 * 4294967296)) + a0_0))] (0, 0) _ rfl (by (with_reducible repeat first | apply blk_drewN | apply blk_drew | apply blk_alloc); refine blk_put (cs := #[.bool true, .int .u64 (IntKind.u64.wrap ((IntKind.u64.wrap (a0_3 * 4294967296)) + a0_2)), .int .u64 0]) ?_ 2 _ rfl; (with_reducible repeat first | apply blk_drewN | apply blk_drew | apply blk_alloc); refine blk_put (cs := #[.bool true, .int .u64 0, .int .u64 0]) ?_ 1 _ rfl; (with_reducible repeat first | apply blk_drewN | apply blk_drew | apply blk_alloc); refine blk_put (cs := #[.bool false, .int .u64 0, .int .u64 0]) ?_ 0 _ rfl; (with_reducible repeat first | apply blk_drewN | apply blk_drew | apply blk_alloc); refine blk_far ?_ NB348_349.out _; (with_reducible repeat first | apply blk_drewN | apply blk_drew | apply blk_alloc); refine blk_far ?_ NB348_349.out _; (with_reducible repeat first | apply blk_drewN | apply blk_drew | apply blk_alloc); refine blk_far ?_ NB348_349.out _; (with_reducible repeat first | apply blk_drewN | apply blk_drew | apply blk_alloc); refine blk_far ?_ NB348_349.out _; (with_reducible repeat first | apply blk_drewN | apply blk_drew | apply blk_alloc); exact BK348.out) Tryd.underlying35 rfl (by kernel_rfl)) rfl ?_; exact ⟨by first | rfl | (simp [errW_none, errW_some] <;> rfl) | (simp [*, errW_none, errW_some] <;> rfl), by repeat (first | (with_reducible first | exact HB.out | apply below_alloc | apply pw_below_drewN | apply below_drew1 | refine below_set ?_ (Aside0.out (by assumption))) | exact HB.out)⟩
  ·rw [if_neg c4] at H
   have c4b0 : decide (0 < (IntKind.u64.wrap ((IntKind.u64.wrap (a0_3 * 4294967296)) + a0_2))) = false := decide_eq_false c4; clear c4; simp only [Option.some.injEq, Prod.mk.injEq] at H; obtain ⟨rfl, rfl, rfl⟩ := H
   go_enter Tryd.func67, Tryd.ntmps67
   go_wp2_with (first | ((with_reducible refine gate_dst (N := 2) rfl ?_); refine box_event ?hg (N := 2) ?hd (cs := #[.int .u64 a0_0, .int .u64 a0_1, .int .u64 a0_2, .int .u64 a0_3]) (t := 82) ?hr ?_; (case hd => rfl); (case hg => rfl); (case hr => first | (go_simp; done) | (go_simp; rfl)); intro gb347 hg w14 hbox hb; have BK347 := Aside0.mk (hbox); obtain ⟨GW347, nHB⟩ := geA hg hb; have GE347 := GW347; replace HB := nHB; clear nHB; clear hb hbox hg) | ((with_reducible refine gate_dst (N := 4) rfl ?_); refine box_event ?hg (N := 4) ?hd (cs := #[.bool false, .int .u64 0, .int .u64 0]) (t := 35) ?hr ?_; (case hd => rfl); (case hg => rfl); (case hr => first | (go_simp; done) | (go_simp; rfl)); intro gb348 hg w15 hbox hb; have BK348 := Aside0.mk (hbox); obtain ⟨GW348, nHB⟩ := geA hg hb; have GE348 := GW348; obtain ⟨NB347_348, NB348_347, nBK⟩ := nbA BK347 hg hb; replace BK347 := nBK; clear nBK; replace HB := nHB; clear nHB; clear hb hbox hg; have hnb16 := NB347_348.out; have hnc16 := NB348_347.out; have hcz17_0 := czZ BK347 0 (.int .u64 a0_0); have hcz17_1 := czZ BK347 1 (.int .u64 a0_1); have hcz17_2 := czZ BK347 2 (.int .u64 a0_2); have hcz17_3 := czZ BK347 3 (.int .u64 a0_3); have hfz17_0 := blk_frozen BK347.out 0; have hfz17_1 := blk_frozen BK347.out 1; have hfz17_2 := blk_frozen BK347.out 2; have hfz17_3 := blk_frozen BK347.out 3) | ((with_reducible refine gate_dst (N := 5) rfl ?_); refine box_event ?hg (N := 5) ?hd (cs := #[.bool false, .int .u64 0, .int .u64 0]) (t := 35) ?hr ?_; (case hd => rfl); (case hg => rfl); (case hr => first | (go_simp; done) | (go_simp; rfl)); intro gb349 hg w18 hbox hb; have BK349 := Aside0.mk (hbox); obtain ⟨GW349, nHB⟩ := geA hg hb; have GE349 := GW349; obtain ⟨NB347_349, NB349_347, nBK⟩ := nbA BK347 hg hb; replace BK347 := nBK; clear nBK; obtain ⟨NB348_349, NB349_348, nBK⟩ := nbA BK348 hg hb; replace BK348 := nBK; clear nBK; replace HB := nHB; clear nHB; clear hb hbox hg; have hnb19 := NB349_347.out; have hnc19 := NB347_349.out; have hnb20 := NB349_348.out; have hnc20 := NB348_349.out; have hcz21_0 := czZ BK349 0 (.bool false); have hcz21_1 := czZ BK349 1 (.int .u64 0); have hcz21_2 := czZ BK349 2 (.int .u64 0); have hfz21_0 := blk_frozen BK349.out 0; have hfz21_1 := blk_frozen BK349.out 1; have hfz21_2 := blk_frozen BK349.out 2; have hcz22_0 := czZ BK348 0 (.bool false); have hcz22_1 := czZ BK348 1 (.int .u64 0); have hcz22_2 := czZ BK348 2 (.int .u64 0); have hfz22_0 := blk_frozen BK348.out 0; have hfz22_1 := blk_frozen BK348.out 1; have hfz22_2 := blk_frozen BK348.out 2))
   refine bodyPost_ret (results_cell_row rfl _ _ gb348 35 #[.bool (decide ((IntKind.u64.wrap ((IntKind.u64.wrap (a0_1 * 4294967296)) + a0_0)) > 0)), .int .u64 (IntKind.u64.wrap ((IntKind.u64.wrap (a0_3 * 4294967296)) + a0_2)), .int .u64 (IntKind.u64.wrap ((IntKind.u64.wrap (a0_1 * 4294967296)) + a0_0))] (0, 0) _ rfl (by (with_reducible repeat first | apply blk_drewN | apply blk_drew | apply blk_alloc); refine blk_put (cs := #[.bool (decide ((IntKind.u64.wrap ((IntKind.u64.wrap (a0_1 * 4294967296)) + a0_0)) > 0)), .int .u64 (IntKind.u64.wrap ((IntKind.u64.wrap (a0_3 * 4294967296)) + a0_2)), .int .u64 0]) ?_ 2 _ rfl; (with_reducible repeat first | apply blk_drewN | apply blk_drew | apply blk_alloc); refine blk_put (cs := #[.bool (decide ((IntKind.u64.wrap ((IntKind.u64.wrap (a0_1 * 4294967296)) + a0_0)) > 0)), .int .u64 0, .int .u64 0]) ?_ 1 _ rfl; (with_reducible repeat first | apply blk_drewN | apply blk_drew | apply blk_alloc); refine blk_put (cs := #[.bool false, .int .u64 0, .int .u64 0]) ?_ 0 _ rfl; (with_reducible repeat first | apply blk_drewN | apply blk_drew | apply blk_alloc); refine blk_far ?_ NB348_349.out _; (with_reducible repeat first | apply blk_drewN | apply blk_drew | apply blk_alloc); refine blk_far ?_ NB348_349.out _; (with_reducible repeat first | apply blk_drewN | apply blk_drew | apply blk_alloc); refine blk_far ?_ NB348_349.out _; (with_reducible repeat first | apply blk_drewN | apply blk_drew | apply blk_alloc); refine blk_far ?_ NB348_349.out _; (with_reducible repeat first | apply blk_drewN | apply blk_drew | apply blk_alloc); exact BK348.out) Tryd.underlying35 rfl (by kernel_rfl)) rfl ?_; exact ⟨by first | rfl | (simp [errW_none, errW_some] <;> rfl) | (simp [*, errW_none, errW_some] <;> rfl), by repeat (first | (with_reducible first | exact HB.out | apply below_alloc | apply pw_below_drewN | apply below_drew1 | refine below_set ?_ (Aside0.out (by assumption))) | exact HB.out)⟩
 ·replace c3 := Bool.eq_false_iff.mpr c3
  subst c3
  have H1 : (some (false, IntKind.u64.wrap ((IntKind.u64.wrap (a0_3 * 4294967296)) + a0_2), IntKind.u64.wrap ((IntKind.u64.wrap (a0_1 * 4294967296)) + a0_0))) = some (r1, r2, r3) := by rw [if_neg (show ¬ (false = true) by decide)] at H; exact H
  clear H; have H := H1; clear H1; simp only [Option.some.injEq, Prod.mk.injEq] at H; obtain ⟨rfl, rfl, rfl⟩ := H
  go_enter Tryd.func67, Tryd.ntmps67
  go_wp2_with (first | ((with_reducible refine gate_dst (N := 2) rfl ?_); refine box_event ?hg (N := 2) ?hd (cs := #[.int .u64 a0_0, .int .u64 a0_1, .int .u64 a0_2, .int .u64 a0_3]) (t := 82) ?hr ?_; (case hd => rfl); (case hg => rfl); (case hr => first | (go_simp; done) | (go_simp; rfl)); intro gb347 hg w23 hbox hb; have BK347 := Aside0.mk (hbox); obtain ⟨GW347, nHB⟩ := geA hg hb; have GE347 := GW347; replace HB := nHB; clear nHB; clear hb hbox hg) | ((with_reducible refine gate_dst (N := 4) rfl ?_); refine box_event ?hg (N := 4) ?hd (cs := #[.bool false, .int .u64 0, .int .u64 0]) (t := 35) ?hr ?_; (case hd => rfl); (case hg => rfl); (case hr => first | (go_simp; done) | (go_simp; rfl)); intro gb348 hg w24 hbox hb; have BK348 := Aside0.mk (hbox); obtain ⟨GW348, nHB⟩ := geA hg hb; have GE348 := GW348; obtain ⟨NB347_348, NB348_347, nBK⟩ := nbA BK347 hg hb; replace BK347 := nBK; clear nBK; replace HB := nHB; clear nHB; clear hb hbox hg; have hnb25 := NB347_348.out; have hnc25 := NB348_347.out; have hcz26_0 := czZ BK347 0 (.int .u64 a0_0); have hcz26_1 := czZ BK347 1 (.int .u64 a0_1); have hcz26_2 := czZ BK347 2 (.int .u64 a0_2); have hcz26_3 := czZ BK347 3 (.int .u64 a0_3); have hfz26_0 := blk_frozen BK347.out 0; have hfz26_1 := blk_frozen BK347.out 1; have hfz26_2 := blk_frozen BK347.out 2; have hfz26_3 := blk_frozen BK347.out 3) | ((with_reducible refine gate_dst (N := 5) rfl ?_); refine box_event ?hg (N := 5) ?hd (cs := #[.bool false, .int .u64 0, .int .u64 0]) (t := 35) ?hr ?_; (case hd => rfl); (case hg => rfl); (case hr => first | (go_simp; done) | (go_simp; rfl)); intro gb349 hg w27 hbox hb; have BK349 := Aside0.mk (hbox); obtain ⟨GW349, nHB⟩ := geA hg hb; have GE349 := GW349; obtain ⟨NB347_349, NB349_347, nBK⟩ := nbA BK347 hg hb; replace BK347 := nBK; clear nBK; obtain ⟨NB348_349, NB349_348, nBK⟩ := nbA BK348 hg hb; replace BK348 := nBK; clear nBK; replace HB := nHB; clear nHB; clear hb hbox hg; have hnb28 := NB349_347.out; have hnc28 := NB347_349.out; have hnb29 := NB349_348.out; have hnc29 := NB348_349.out; have hcz30_0 := czZ BK349 0 (.bool false); have hcz30_1 := czZ BK349 1 (.int .u64 0); have hcz30_2 := czZ BK349 2 (.int .u64 0); have hfz30_0 := blk_frozen BK349.out 0; have hfz30_1 := blk_frozen BK349.out 1; have hfz30_2 := blk_frozen BK349.out 2; have hcz31_0 := czZ BK348 0 (.bool false); have hcz31_1 := czZ BK348 1 (.int .u64 0); have hcz31_2 := czZ BK348 2 (.int .u64 0); have hfz31_0 := blk_frozen BK348.out 0; have hfz31_1 := blk_frozen BK348.out 1; have hfz31_2 := blk_frozen BK348.out 2))
  refine bodyPost_ret (results_cell_row rfl _ _ gb348 35 #[.bool false, .int .u64 (IntKind.u64.wrap ((IntKind.u64.wrap (a0_3 * 4294967296)) + a0_2)), .int .u64 (IntKind.u64.wrap ((IntKind.u64.wrap (a0_1 * 4294967296)) + a0_0))] (0, 0) _ rfl (by (with_reducible repeat first | apply blk_drewN | apply blk_drew | apply blk_alloc); refine blk_put (cs := #[.bool false, .int .u64 (IntKind.u64.wrap ((IntKind.u64.wrap (a0_3 * 4294967296)) + a0_2)), .int .u64 0]) ?_ 2 _ rfl; (with_reducible repeat first | apply blk_drewN | apply blk_drew | apply blk_alloc); refine blk_put (cs := #[.bool false, .int .u64 0, .int .u64 0]) ?_ 1 _ rfl; (with_reducible repeat first | apply blk_drewN | apply blk_drew | apply blk_alloc); refine blk_put (cs := #[.bool false, .int .u64 0, .int .u64 0]) ?_ 0 _ rfl; (with_reducible repeat first | apply blk_drewN | apply blk_drew | apply blk_alloc); refine blk_far ?_ NB348_349.out _; (with_reducible repeat first | apply blk_drewN | apply blk_drew | apply blk_alloc); refine blk_far ?_ NB348_349.out _; (with_reducible repeat first | apply blk_drewN | apply blk_drew | apply blk_alloc); refine blk_far ?_ NB348_349.out _; (with_reducible repeat first | apply blk_drewN | apply blk_drew | apply blk_alloc); refine blk_far ?_ NB348_349.out _; (with_reducible repeat first | apply blk_drewN | apply blk_drew | apply blk_alloc); exact BK348.out) Tryd.underlying35 rfl (by kernel_rfl)) rfl ?_; exact ⟨by first | rfl | (simp [errW_none, errW_some] <;> rfl) | (simp [*, errW_none, errW_some] <;> rfl), by repeat (first | (with_reducible first | exact HB.out | apply below_alloc | apply pw_below_drewN | apply below_drew1 | refine below_set ?_ (Aside0.out (by assumption))) | exact HB.out)⟩

/-! ### sawtoothref02_wholeS: four digits and a sign: pure, behind function 67 -/
noncomputable def sawtoothref02_wholeS.f (a b c d : Int) (s : Bool) : Option (Bool × Int × Int) := Sp.need (Sp.Dg a ∧ Sp.Dg b ∧ Sp.Dg c ∧ Sp.Dg d) (some (Sp.encN (Sp.val s (d * 4294967296 + c) (b * 4294967296 + a)), Sp.encH (Sp.val s (d * 4294967296 + c) (b * 4294967296 + a)), Sp.encL (Sp.val s (d * 4294967296 + c) (b * 4294967296 + a))))
section Ref02Whole
open Go.Proofs.YtceiakiihkaamaaDoor.Sp
theorem sawtoothref02_digits.eq {n : Bool} {h l : Int} (h1 : U h) (h2 : U l) : sawtoothref02_digits.f n h l = some (l % 4294967296, l / 4294967296, h % 4294967296, h / 4294967296) := by
 have tm : ∀ {x : Int}, U x → Int.tmod x 4294967296 = x % 4294967296 := fun h => Int.tmod_eq_emod_of_nonneg h.1
 have td : ∀ {x : Int}, U x → IntKind.u64.wrap (Int.tdiv x 4294967296) = x / 4294967296 := fun h => by rw [Int.tdiv_eq_ediv_of_nonneg h.1]; exact u64w_in (by omega)
 unfold sawtoothref02_digits.f; rw [tm h2, td h2, tm h1, td h1]
theorem sawtoothref02_wholeS.eq {a b c d : Int} {s : Bool} (h1 : Dg a) (h2 : Dg b) (h3 : Dg c) (h4 : Dg d) : sawtoothref02_wholeS.f a b c d s = some (encN (val s (d * 4294967296 + c) (b * 4294967296 + a)), encH (val s (d * 4294967296 + c) (b * 4294967296 + a)), encL (val s (d * 4294967296 + c) (b * 4294967296 + a))) := need_pos ⟨h1, h2, h3, h4⟩
theorem sawtoothref02_whole.main {a b c d : Int} {s : Bool} (h1 : Dg a) (h2 : Dg b) (h3 : Dg c) (h4 : Dg d) : sawtoothref02_whole.f a b c d s = some (encN (val s (d * 4294967296 + c) (b * 4294967296 + a)), encH (val s (d * 4294967296 + c) (b * 4294967296 + a)), encL (val s (d * 4294967296 + c) (b * 4294967296 + a))) := by
 unfold sawtoothref02_whole.f
 have e1 : IntKind.u64.wrap (IntKind.u64.wrap (d * 4294967296) + c) = d * 4294967296 + c := by rw [u64w, u64w]; omega
 have e2 : IntKind.u64.wrap (IntKind.u64.wrap (b * 4294967296) + a) = b * 4294967296 + a := by rw [u64w, u64w]; omega
 rw [e1, e2]
 have u1 : U (d * 4294967296 + c) := by omega
 have u2 : U (b * 4294967296 + a) := by omega
 clear e1 e2 h1 h2 h3 h4
 generalize d * 4294967296 + c = h at *
 generalize b * 4294967296 + a = l at *
 cases s with
 | false =>
  obtain ⟨k1, k2, k3⟩ := enc_of (n := false) u1 u2 (by simp)
  rw [if_neg (by simp), k1, k2, k3]
 | true =>
  rw [if_pos rfl]
  by_cases hz : h = 0 ∧ l = 0
  ·obtain ⟨rfl, rfl⟩ := hz
   rw [val_t]; simp [encN, encH, encL]
  ·obtain ⟨k1, k2, k3⟩ := enc_of (n := true) u1 u2 (fun _ => hz)
   rw [k1, k2, k3]
   by_cases hp : h > 0
   ·rw [if_pos hp]
   ·rw [if_neg hp, decide_eq_true (by omega)]
end Ref02Whole
theorem sawtoothref02_wholeS.calls (a b c d : Int) (s : Bool) (r1 : Bool) (r2 r3 : Int) (w : World) (h : sawtoothref02_wholeS.f a b c d s = some (r1, r2, r3)) :
  Calls Tryd.prog 67 #[.agg #[.int .u64 a, .int .u64 b, .int .u64 c, .int .u64 d], .bool s] w fun e w' => e = .returned (.agg #[.bool r1, .int .u64 r2, .int .u64 r3]) ∧ Below w.heap.size w w' := by
 obtain ⟨hc, h⟩ := Sp.need_some h; obtain ⟨h1, h2, h3, h4⟩ := hc; exact sawtoothref02_whole.calls a b c d s r1 r2 r3 w (by rw [sawtoothref02_whole.main h1 h2 h3 h4]; exact h)

end Go.Proofs.YtceiakiihkaamaaDoor.Px
