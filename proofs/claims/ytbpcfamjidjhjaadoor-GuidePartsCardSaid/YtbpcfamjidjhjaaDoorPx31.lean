/- Printed by px.py, over the kit's print. Conditions: none beside the theorems' own. -/
import Derived.Test.YtbpcfamjidjhjaaDoorPx0
import Derived.Test.YtbpcfamjidjhjaaDoorPx7
import Derived.Test.YtbpcfamjidjhjaaDoorPx8
import Derived.Test.YtbpcfamjidjhjaaDoorPx17
import Derived.Test.YtbpcfamjidjhjaaDoorPx29
import Derived.Test.YtbpcfamjidjhjaaDoorPx30
import Derived.Test.YtbpcfamjidjhjaaDoorSpec
namespace Go.Proofs.YtbpcfamjidjhjaaDoor.Px
open Go.RowKit Go.Proofs.YtbpcfamjidjhjaaDoorW.PrintWords Go.Proofs.YtbpcfamjidjhjaaDoorW.PrintLast Go.Proofs.YtbpcfamjidjhjaaDoorW.PrintMore
attribute [local go_sem] max2_int min2_int max_two min_two max_three min_three max_four min_four
set_option linter.unusedVariables false
set_option linter.unusedSimpArgs false

/-! ### sawtoothlaw19_awakeS: pure, behind function 9 -/
section
open Go.Proofs.YtbpcfamjidjhjaaDoor.Sp
noncomputable def sawtoothlaw19_awakeS.f  : Option (Bool) := some true
theorem sawtoothlaw19_awakeS.eq   : sawtoothlaw19_awakeS.f  = some true := rfl
theorem sawtoothlaw19_awake.main   : sawtoothlaw19_awake.f  = some true := by
 unfold sawtoothlaw19_awake.f
 have b1 : beginQ 5 131072 589824 = (true, 5, 131072, 589824, kQ 458752, 131072, 0) := by simp [beginQ, max2]
 have c1 : chkQ 1500 1000 10 1000 200000 60000000 10 = 0 := chkQ_ok (by unfold cfgOk; omega); have c2 : chkQ 0 0 0 0 0 0 0 = 210 := chkQ_bad (by unfold cfgOk; omega)
 have C1 : guide_Check.f 1500 1000 10 1000 200000 60000000 10 = some 0 := by unfold guide_Check.f; rw [c1]
 have C2 : guide_Check.f 0 0 0 0 0 0 0 = some 210 := by unfold guide_Check.f; rw [c2]
 have F1 : guide_First.f 1500 1000 10 1000 200000 60000000 10 = some 655360 := by unfold guide_First.f; rw [C1, Option.bind_some, if_pos rfl, w64 (by omega)]; rfl
 have F2 : guide_First.f 0 0 0 0 0 0 0 = some 131072 := by unfold guide_First.f; rw [C2, Option.bind_some, if_neg (by omega)]
 have I1 : guide_Idle.f 6553600 2 5 2 1500 1000 10 1000 200000 60000000 10 = some 655360 := by unfold guide_Idle.f; rw [safe_SubS.eq (by omega) (by omega), near_in (by omega), Option.bind_some, if_neg (by omega), F1, Option.bind_some]; simp [mx, mn]
 have I2 : guide_Idle.f 6553600 2 4 2 1500 1000 10 1000 200000 60000000 10 = some 6553600 := by unfold guide_Idle.f; rw [safe_SubS.eq (by omega) (by omega), near_in (by omega), Option.bind_some, if_pos (by omega)]
 have I3 : guide_Idle.f 5 2 9 2 1500 1000 10 1000 200000 60000000 10 = some 131072 := by unfold guide_Idle.f; rw [safe_SubS.eq (by omega) (by omega), near_in (by omega), Option.bind_some, if_neg (by omega), F1, Option.bind_some]; simp [mx, mn]
 have kb := kQ_bd 458752
 have P1 : ∀ K, guide_Pause.f true 5 131072 589824 K 131072 3 10 = some (true, 12, 131072, 589824, K, 131072) := by intro K; unfold guide_Pause.f; rw [safe_SubS.eq (by omega) (by omega), near_in (by omega), Option.bind_some, epoch_ShiftS.eq (by omega) (by omega)]; simp [laterQ]
 have P2 : ∀ K, guide_Pause.f true 5 131072 589824 K 131072 10 3 = some (true, 5, 131072, 589824, K, 131072) := by intro K; unfold guide_Pause.f; rw [safe_SubS.eq (by omega) (by omega), near_in (by omega), Option.bind_some, epoch_ShiftS.eq (by omega) (by omega)]; simp [laterQ]
 have U1 : guide_UsedS.f 655360 7500 1500 = some true := by rw [guide_UsedS.eq (by omega) (by omega) (by omega)]; simp [usedQ]
 have U2 : guide_UsedS.f 655360 7499 1500 = some false := by rw [guide_UsedS.eq (by omega) (by omega) (by omega)]; simp [usedQ]
 have U3 : guide_UsedS.f (-1) 5 5 = some false := by rw [guide_UsedS.eq (by omega) (by omega) (by omega)]; simp [usedQ]
 have o1 : guide_Parts.ok ⟨1500, 1000, 10, 1000, 200000, 60000000, 10⟩ = true := by unfold guide_Parts.ok guide_Parts.chk; simp [c1]
 have o2 : guide_Parts.ok ⟨0, 0, 0, 0, 0, 0, 0⟩ = false := by unfold guide_Parts.ok guide_Parts.chk; simp [c2]
 rw [epoch_BeginS.eq (by omega) (by omega) (by omega), b1]
 generalize kQ 458752 = K at *
 rw [guide_Parts.eq (by simp)]
 simp only [Option.bind_some]
 rw [C1, C2, F1, F2, I1, I2, I3, P1, P2, U1, U2, U3]
 simp [o1, o2]
end
theorem sawtoothlaw19_awakeS.calls  (r : Bool) (w : World) (h : sawtoothlaw19_awakeS.f  = some r) (hL : Tens w) :
  Calls Tryd.prog 9 #[] w fun e w' => e = .returned (.bool r) ∧ Below w.heap.size w w' := by
 exact sawtoothlaw19_awake.calls  r w (by rw [sawtoothlaw19_awake.main ]; exact h) hL

/-! ### sawtoothref19_Check: function 12 -/
noncomputable def sawtoothref19_Check.j0 : Nat → Bool → Int → Int → Int → Int → Int → Int → Int → Option (Int)
 | 0, _, _, _, _, _, _, _, _ => none
 | k + 1, x32, x311000, x311001, x311002, x311003, x311004, x311005, x311006 => if x32 = true then (some 210) else (if x311003 < 1 then (some 210) else (if x311003 > 1000000 then (some 210) else (if x311004 < 1 then (some 210) else (if x311004 > x311005 then (some 210) else (if x311005 > 1099511627776 then (some 210) else (if x311006 < 1 then (some 210) else (if x311006 > 1000 then (some 210) else (some 0))))))))
noncomputable def sawtoothref19_Check.f (k : Nat) (a0_0 : Int) (a0_1 : Int) (a0_2 : Int) (a0_3 : Int) (a0_4 : Int) (a0_5 : Int) (a0_6 : Int) : Option (Int) := if a0_0 < 1 then (sawtoothref19_Check.j0 k true a0_0 a0_1 a0_2 a0_3 a0_4 a0_5 a0_6) else (if a0_0 > 9000 then (sawtoothref19_Check.j0 k true a0_0 a0_1 a0_2 a0_3 a0_4 a0_5 a0_6) else (if a0_1 < 4 then (sawtoothref19_Check.j0 k true a0_0 a0_1 a0_2 a0_3 a0_4 a0_5 a0_6) else (if a0_1 > 1048576 then (sawtoothref19_Check.j0 k true a0_0 a0_1 a0_2 a0_3 a0_4 a0_5 a0_6) else (if a0_2 < 2 then (sawtoothref19_Check.j0 k true a0_0 a0_1 a0_2 a0_3 a0_4 a0_5 a0_6) else (sawtoothref19_Check.j0 k (decide (a0_2 > a0_1)) a0_0 a0_1 a0_2 a0_3 a0_4 a0_5 a0_6)))))
set_option maxHeartbeats 8000000 in
set_option maxRecDepth 100000 in
theorem sawtoothref19_Check.calls (k : Nat) (a0_0 : Int) (a0_1 : Int) (a0_2 : Int) (a0_3 : Int) (a0_4 : Int) (a0_5 : Int) (a0_6 : Int) (r : Int) (w : World) (h : sawtoothref19_Check.f k a0_0 a0_1 a0_2 a0_3 a0_4 a0_5 a0_6 = some r) :
  Calls Tryd.prog 12 #[.agg #[.int .i64 a0_0, .int .i64 a0_1, .int .i64 a0_2, .int .i64 a0_3, .int .i64 a0_4, .int .i64 a0_5, .int .i64 a0_6]] w fun e w' => e = .returned (.int .i64 r) ∧ Below w.heap.size w w' := by
 have hu23 := Tryd.underlying23; have HB := Aside0.mk (Below.refl w.heap.size w); have H : (if a0_0 < 1 then (sawtoothref19_Check.j0 k true a0_0 a0_1 a0_2 a0_3 a0_4 a0_5 a0_6) else (if a0_0 > 9000 then (sawtoothref19_Check.j0 k true a0_0 a0_1 a0_2 a0_3 a0_4 a0_5 a0_6) else (if a0_1 < 4 then (sawtoothref19_Check.j0 k true a0_0 a0_1 a0_2 a0_3 a0_4 a0_5 a0_6) else (if a0_1 > 1048576 then (sawtoothref19_Check.j0 k true a0_0 a0_1 a0_2 a0_3 a0_4 a0_5 a0_6) else (if a0_2 < 2 then (sawtoothref19_Check.j0 k true a0_0 a0_1 a0_2 a0_3 a0_4 a0_5 a0_6) else (sawtoothref19_Check.j0 k (decide (a0_2 > a0_1)) a0_0 a0_1 a0_2 a0_3 a0_4 a0_5 a0_6)))))) = some r := h; clear h; have HC2 := Aside0.mk H; clear H
 go_enter Tryd.func12, Tryd.ntmps12
 go_upto_region 1 with (first | ((with_reducible refine gate_dst (N := 1) rfl ?_); refine box_event ?hg (N := 1) ?hd (cs := #[.int .i64 a0_0, .int .i64 a0_1, .int .i64 a0_2, .int .i64 a0_3, .int .i64 a0_4, .int .i64 a0_5, .int .i64 a0_6]) (t := 23) ?hr ?_; (case hd => rfl); (case hg => rfl); (case hr => first | (go_simp; done) | (go_simp; rfl)); intro gb310 hg w3 hbox hb; have BK310 := Aside0.mk (hbox); obtain ⟨GW310, nHB⟩ := geA hg hb; have GE310 := GW310; replace HB := nHB; clear nHB; clear hb hbox hg))
 (try simp only [Act.put, sA, sB, sC])
 go_cut [32] (fun v32 wc => ∃ (kq : Nat) (x32_1 : Bool), v32 = .bool x32_1 ∧ Aside0 (sawtoothref19_Check.j0 kq x32_1 a0_0 a0_1 a0_2 a0_3 a0_4 a0_5 a0_6 = some r) ∧ Aside0 (kq ≤ k) ∧ Aside0 (wc.heap[gb310]? = some (.cells #[.int .i64 a0_0, .int .i64 a0_1, .int .i64 a0_2, .int .i64 a0_3, .int .i64 a0_4, .int .i64 a0_5, .int .i64 a0_6] 23 (0, 0))) ∧ Aside0 (Below w.heap.size w wc))
 case first =>
  have H := HC2.out; clear HC2
  by_cases c4 : a0_0 < 1
  ·rw [if_pos c4] at H
   have c4b0 : decide (a0_0 < 1) = true := decide_eq_true c4; clear c4
   (first | rw [c4b0] | (simp only [i64_w, i32_w]; rw [c4b0]) | skip)
   have H' := Aside0.mk H; clear H; have hcz5_0 := czZ BK310 0 (.int .i64 a0_0); have hcz5_1 := czZ BK310 1 (.int .i64 a0_1); have hcz5_2 := czZ BK310 2 (.int .i64 a0_2); have hcz5_3 := czZ BK310 3 (.int .i64 a0_3); have hcz5_4 := czZ BK310 4 (.int .i64 a0_4); have hcz5_5 := czZ BK310 5 (.int .i64 a0_5); have hcz5_6 := czZ BK310 6 (.int .i64 a0_6); have hfz5_0 := blk_frozen BK310.out 0; have hfz5_1 := blk_frozen BK310.out 1; have hfz5_2 := blk_frozen BK310.out 2; have hfz5_3 := blk_frozen BK310.out 3; have hfz5_4 := blk_frozen BK310.out 4; have hfz5_5 := blk_frozen BK310.out 5; have hfz5_6 := blk_frozen BK310.out 6
   go_wp2
   go_meet
   case rel => exact ⟨_, (true), (by first | rfl | (simp; done) | (simp [*]; done)), H', ⟨by first | omega | exact Nat.le_refl _⟩, ⟨by (with_reducible repeat first | apply blk_drewN | apply blk_drew | apply blk_alloc); exact BK310.out⟩, ⟨by repeat (first | (with_reducible first | exact HB.out | apply below_alloc | apply pw_below_drewN | apply below_drew1 | refine below_set ?_ GE310.out) | exact HB.out)⟩⟩
  ·rw [if_neg c4] at H
   have c4b0 : decide (a0_0 < 1) = false := decide_eq_false c4; clear c4
   (first | rw [c4b0] | (simp only [i64_w, i32_w]; rw [c4b0]) | skip)
   by_cases c6 : a0_0 > 9000
   ·rw [if_pos c6] at H
    have c6b0 : decide (9000 < a0_0) = true := decide_eq_true c6; clear c6; have H' := Aside0.mk H; clear H; have hcz7_0 := czZ BK310 0 (.int .i64 a0_0); have hcz7_1 := czZ BK310 1 (.int .i64 a0_1); have hcz7_2 := czZ BK310 2 (.int .i64 a0_2); have hcz7_3 := czZ BK310 3 (.int .i64 a0_3); have hcz7_4 := czZ BK310 4 (.int .i64 a0_4); have hcz7_5 := czZ BK310 5 (.int .i64 a0_5); have hcz7_6 := czZ BK310 6 (.int .i64 a0_6); have hfz7_0 := blk_frozen BK310.out 0; have hfz7_1 := blk_frozen BK310.out 1; have hfz7_2 := blk_frozen BK310.out 2; have hfz7_3 := blk_frozen BK310.out 3; have hfz7_4 := blk_frozen BK310.out 4; have hfz7_5 := blk_frozen BK310.out 5; have hfz7_6 := blk_frozen BK310.out 6
    go_wp2
    go_meet
    case rel => exact ⟨_, (true), (by first | rfl | (simp; done) | (simp [*]; done)), H', ⟨by first | omega | exact Nat.le_refl _⟩, ⟨by (with_reducible repeat first | apply blk_drewN | apply blk_drew | apply blk_alloc); exact BK310.out⟩, ⟨by repeat (first | (with_reducible first | exact HB.out | apply below_alloc | apply pw_below_drewN | apply below_drew1 | refine below_set ?_ GE310.out) | exact HB.out)⟩⟩
   ·rw [if_neg c6] at H
    have c6b0 : decide (9000 < a0_0) = false := decide_eq_false c6; clear c6
    by_cases c8 : a0_1 < 4
    ·rw [if_pos c8] at H
     have c8b0 : decide (a0_1 < 4) = true := decide_eq_true c8; clear c8; have H' := Aside0.mk H; clear H; have hcz9_0 := czZ BK310 0 (.int .i64 a0_0); have hcz9_1 := czZ BK310 1 (.int .i64 a0_1); have hcz9_2 := czZ BK310 2 (.int .i64 a0_2); have hcz9_3 := czZ BK310 3 (.int .i64 a0_3); have hcz9_4 := czZ BK310 4 (.int .i64 a0_4); have hcz9_5 := czZ BK310 5 (.int .i64 a0_5); have hcz9_6 := czZ BK310 6 (.int .i64 a0_6); have hfz9_0 := blk_frozen BK310.out 0; have hfz9_1 := blk_frozen BK310.out 1; have hfz9_2 := blk_frozen BK310.out 2; have hfz9_3 := blk_frozen BK310.out 3; have hfz9_4 := blk_frozen BK310.out 4; have hfz9_5 := blk_frozen BK310.out 5; have hfz9_6 := blk_frozen BK310.out 6
     go_wp2
     go_meet
     case rel => exact ⟨_, (true), (by first | rfl | (simp; done) | (simp [*]; done)), H', ⟨by first | omega | exact Nat.le_refl _⟩, ⟨by (with_reducible repeat first | apply blk_drewN | apply blk_drew | apply blk_alloc); exact BK310.out⟩, ⟨by repeat (first | (with_reducible first | exact HB.out | apply below_alloc | apply pw_below_drewN | apply below_drew1 | refine below_set ?_ GE310.out) | exact HB.out)⟩⟩
    ·rw [if_neg c8] at H
     have c8b0 : decide (a0_1 < 4) = false := decide_eq_false c8; clear c8
     by_cases c10 : a0_1 > 1048576
     ·rw [if_pos c10] at H
      have c10b0 : decide (1048576 < a0_1) = true := decide_eq_true c10; clear c10; have H' := Aside0.mk H; clear H; have hcz11_0 := czZ BK310 0 (.int .i64 a0_0); have hcz11_1 := czZ BK310 1 (.int .i64 a0_1); have hcz11_2 := czZ BK310 2 (.int .i64 a0_2); have hcz11_3 := czZ BK310 3 (.int .i64 a0_3); have hcz11_4 := czZ BK310 4 (.int .i64 a0_4); have hcz11_5 := czZ BK310 5 (.int .i64 a0_5); have hcz11_6 := czZ BK310 6 (.int .i64 a0_6); have hfz11_0 := blk_frozen BK310.out 0; have hfz11_1 := blk_frozen BK310.out 1; have hfz11_2 := blk_frozen BK310.out 2; have hfz11_3 := blk_frozen BK310.out 3; have hfz11_4 := blk_frozen BK310.out 4; have hfz11_5 := blk_frozen BK310.out 5; have hfz11_6 := blk_frozen BK310.out 6
      go_wp2
      go_meet
      case rel => exact ⟨_, (true), (by first | rfl | (simp; done) | (simp [*]; done)), H', ⟨by first | omega | exact Nat.le_refl _⟩, ⟨by (with_reducible repeat first | apply blk_drewN | apply blk_drew | apply blk_alloc); exact BK310.out⟩, ⟨by repeat (first | (with_reducible first | exact HB.out | apply below_alloc | apply pw_below_drewN | apply below_drew1 | refine below_set ?_ GE310.out) | exact HB.out)⟩⟩
     ·rw [if_neg c10] at H
      have c10b0 : decide (1048576 < a0_1) = false := decide_eq_false c10; clear c10
      by_cases c12 : a0_2 < 2
      ·rw [if_pos c12] at H
       have c12b0 : decide (a0_2 < 2) = true := decide_eq_true c12; clear c12; have H' := Aside0.mk H; clear H; have hcz13_0 := czZ BK310 0 (.int .i64 a0_0); have hcz13_1 := czZ BK310 1 (.int .i64 a0_1); have hcz13_2 := czZ BK310 2 (.int .i64 a0_2); have hcz13_3 := czZ BK310 3 (.int .i64 a0_3); have hcz13_4 := czZ BK310 4 (.int .i64 a0_4); have hcz13_5 := czZ BK310 5 (.int .i64 a0_5); have hcz13_6 := czZ BK310 6 (.int .i64 a0_6); have hfz13_0 := blk_frozen BK310.out 0; have hfz13_1 := blk_frozen BK310.out 1; have hfz13_2 := blk_frozen BK310.out 2; have hfz13_3 := blk_frozen BK310.out 3; have hfz13_4 := blk_frozen BK310.out 4; have hfz13_5 := blk_frozen BK310.out 5; have hfz13_6 := blk_frozen BK310.out 6
       go_wp2
       go_meet
       case rel => exact ⟨_, (true), (by first | rfl | (simp; done) | (simp [*]; done)), H', ⟨by first | omega | exact Nat.le_refl _⟩, ⟨by (with_reducible repeat first | apply blk_drewN | apply blk_drew | apply blk_alloc); exact BK310.out⟩, ⟨by repeat (first | (with_reducible first | exact HB.out | apply below_alloc | apply pw_below_drewN | apply below_drew1 | refine below_set ?_ GE310.out) | exact HB.out)⟩⟩
      ·rw [if_neg c12] at H
       have c12b0 : decide (a0_2 < 2) = false := decide_eq_false c12; clear c12; have H' := Aside0.mk H; clear H; have hcz14_0 := czZ BK310 0 (.int .i64 a0_0); have hcz14_1 := czZ BK310 1 (.int .i64 a0_1); have hcz14_2 := czZ BK310 2 (.int .i64 a0_2); have hcz14_3 := czZ BK310 3 (.int .i64 a0_3); have hcz14_4 := czZ BK310 4 (.int .i64 a0_4); have hcz14_5 := czZ BK310 5 (.int .i64 a0_5); have hcz14_6 := czZ BK310 6 (.int .i64 a0_6); have hfz14_0 := blk_frozen BK310.out 0; have hfz14_1 := blk_frozen BK310.out 1; have hfz14_2 := blk_frozen BK310.out 2; have hfz14_3 := blk_frozen BK310.out 3; have hfz14_4 := blk_frozen BK310.out 4; have hfz14_5 := blk_frozen BK310.out 5; have hfz14_6 := blk_frozen BK310.out 6
       go_wp2
       go_meet
       case rel => exact ⟨_, (decide (a0_2 > a0_1)), (by first | rfl | (simp; done) | (simp [*]; done)), H', ⟨by first | omega | exact Nat.le_refl _⟩, ⟨by (with_reducible repeat first | apply blk_drewN | apply blk_drew | apply blk_alloc); exact BK310.out⟩, ⟨by repeat (first | (with_reducible first | exact HB.out | apply below_alloc | apply pw_below_drewN | apply below_drew1 | refine below_set ?_ GE310.out) | exact HB.out)⟩⟩
 case rest =>
  clear HC2
  try clear c1
  try clear p2
  try clear c4
  try clear c4b0
  try clear c6
  try clear c6b0
  try clear c8
  try clear c8b0
  try clear c10
  try clear c10b0
  try clear c12
  try clear c12b0
  try clear hcz11_0
  try clear hcz11_1
  try clear hcz11_2
  try clear hcz11_3
  try clear hcz11_4
  try clear hcz11_5
  try clear hcz11_6
  try clear hcz13_0
  try clear hcz13_1
  try clear hcz13_2
  try clear hcz13_3
  try clear hcz13_4
  try clear hcz13_5
  try clear hcz13_6
  try clear hcz14_0
  try clear hcz14_1
  try clear hcz14_2
  try clear hcz14_3
  try clear hcz14_4
  try clear hcz14_5
  try clear hcz14_6
  try clear hcz5_0
  try clear hcz5_1
  try clear hcz5_2
  try clear hcz5_3
  try clear hcz5_4
  try clear hcz5_5
  try clear hcz5_6
  try clear hcz7_0
  try clear hcz7_1
  try clear hcz7_2
  try clear hcz7_3
  try clear hcz7_4
  try clear hcz7_5
  try clear hcz7_6
  try clear hcz9_0
  try clear hcz9_1
  try clear hcz9_2
  try clear hcz9_3
  try clear hcz9_4
  try clear hcz9_5
  try clear hcz9_6
  try clear hfz11_0
  try clear hfz11_1
  try clear hfz11_2
  try clear hfz11_3
  try clear hfz11_4
  try clear hfz11_5
  try clear hfz11_6
  try clear hfz13_0
  try clear hfz13_1
  try clear hfz13_2
  try clear hfz13_3
  try clear hfz13_4
  try clear hfz13_5
  try clear hfz13_6
  try clear hfz14_0
  try clear hfz14_1
  try clear hfz14_2
  try clear hfz14_3
  try clear hfz14_4
  try clear hfz14_5
  try clear hfz14_6
  try clear hfz5_0
  try clear hfz5_1
  try clear hfz5_2
  try clear hfz5_3
  try clear hfz5_4
  try clear hfz5_5
  try clear hfz5_6
  try clear hfz7_0
  try clear hfz7_1
  try clear hfz7_2
  try clear hfz7_3
  try clear hfz7_4
  try clear hfz7_5
  try clear hfz7_6
  try clear hfz9_0
  try clear hfz9_1
  try clear hfz9_2
  try clear hfz9_3
  try clear hfz9_4
  try clear hfz9_5
  try clear hfz9_6
  obtain ⟨kq, x32_1, rfl, HA, HJ1, BK310, HB⟩ := hcut
  cases kq with
  | zero => exact absurd HA.out (by simp [sawtoothref19_Check.j0])
  | succ kj1 =>
   have H := HA.out; clear HA; simp only [sawtoothref19_Check.j0] at H
   by_cases c15 : x32_1 = true
   ·subst c15
    have H1 : (some 210) = some r := by rw [if_pos rfl] at H; exact H
    clear H; have H := H1; clear H1; obtain rfl := Option.some.inj H
    go_wp2
    go_ret
    exact ⟨by first | rfl | (simp [errW_none, errW_some] <;> rfl) | (simp [*, errW_none, errW_some] <;> rfl), by repeat (first | (with_reducible first | exact HB.out | apply below_alloc | apply pw_below_drewN | apply below_drew1 | refine below_set ?_ GE310.out) | exact HB.out)⟩
   ·replace c15 := Bool.eq_false_iff.mpr c15
    subst c15
    have H1 : (if a0_3 < 1 then (some 210) else (if a0_3 > 1000000 then (some 210) else (if a0_4 < 1 then (some 210) else (if a0_4 > a0_5 then (some 210) else (if a0_5 > 1099511627776 then (some 210) else (if a0_6 < 1 then (some 210) else (if a0_6 > 1000 then (some 210) else (some 0)))))))) = some r := by rw [if_neg (show ¬ (false = true) by decide)] at H; exact H
    clear H; have H := H1; clear H1
    by_cases c16 : a0_3 < 1
    ·rw [if_pos c16] at H
     have c16b0 : decide (a0_3 < 1) = true := decide_eq_true c16; clear c16; obtain rfl := Option.some.inj H; have hcz17_0 : wc.cell? ⟨gb310, 0, none⟩ = some (.int .i64 a0_0) := (blk_cell BK310.out 0).trans rfl; have hcz17_1 : wc.cell? ⟨gb310, 1, none⟩ = some (.int .i64 a0_1) := (blk_cell BK310.out 1).trans rfl; have hcz17_2 : wc.cell? ⟨gb310, 2, none⟩ = some (.int .i64 a0_2) := (blk_cell BK310.out 2).trans rfl; have hcz17_3 : wc.cell? ⟨gb310, 3, none⟩ = some (.int .i64 a0_3) := (blk_cell BK310.out 3).trans rfl; have hcz17_4 : wc.cell? ⟨gb310, 4, none⟩ = some (.int .i64 a0_4) := (blk_cell BK310.out 4).trans rfl; have hcz17_5 : wc.cell? ⟨gb310, 5, none⟩ = some (.int .i64 a0_5) := (blk_cell BK310.out 5).trans rfl; have hcz17_6 : wc.cell? ⟨gb310, 6, none⟩ = some (.int .i64 a0_6) := (blk_cell BK310.out 6).trans rfl; have hfz17_0 := blk_frozen BK310.out 0; have hfz17_1 := blk_frozen BK310.out 1; have hfz17_2 := blk_frozen BK310.out 2; have hfz17_3 := blk_frozen BK310.out 3; have hfz17_4 := blk_frozen BK310.out 4; have hfz17_5 := blk_frozen BK310.out 5; have hfz17_6 := blk_frozen BK310.out 6
     go_wp2
     go_ret
     exact ⟨by first | rfl | (simp [errW_none, errW_some] <;> rfl) | (simp [*, errW_none, errW_some] <;> rfl), by repeat (first | (with_reducible first | exact HB.out | apply below_alloc | apply pw_below_drewN | apply below_drew1 | refine below_set ?_ GE310.out) | exact HB.out)⟩
    ·rw [if_neg c16] at H
     have c16b0 : decide (a0_3 < 1) = false := decide_eq_false c16; clear c16
     by_cases c18 : a0_3 > 1000000
     ·rw [if_pos c18] at H
      have c18b0 : decide (1000000 < a0_3) = true := decide_eq_true c18; clear c18; obtain rfl := Option.some.inj H; have hcz19_0 : wc.cell? ⟨gb310, 0, none⟩ = some (.int .i64 a0_0) := (blk_cell BK310.out 0).trans rfl; have hcz19_1 : wc.cell? ⟨gb310, 1, none⟩ = some (.int .i64 a0_1) := (blk_cell BK310.out 1).trans rfl; have hcz19_2 : wc.cell? ⟨gb310, 2, none⟩ = some (.int .i64 a0_2) := (blk_cell BK310.out 2).trans rfl; have hcz19_3 : wc.cell? ⟨gb310, 3, none⟩ = some (.int .i64 a0_3) := (blk_cell BK310.out 3).trans rfl; have hcz19_4 : wc.cell? ⟨gb310, 4, none⟩ = some (.int .i64 a0_4) := (blk_cell BK310.out 4).trans rfl; have hcz19_5 : wc.cell? ⟨gb310, 5, none⟩ = some (.int .i64 a0_5) := (blk_cell BK310.out 5).trans rfl; have hcz19_6 : wc.cell? ⟨gb310, 6, none⟩ = some (.int .i64 a0_6) := (blk_cell BK310.out 6).trans rfl; have hfz19_0 := blk_frozen BK310.out 0; have hfz19_1 := blk_frozen BK310.out 1; have hfz19_2 := blk_frozen BK310.out 2; have hfz19_3 := blk_frozen BK310.out 3; have hfz19_4 := blk_frozen BK310.out 4; have hfz19_5 := blk_frozen BK310.out 5; have hfz19_6 := blk_frozen BK310.out 6
      go_wp2
      go_ret
      exact ⟨by first | rfl | (simp [errW_none, errW_some] <;> rfl) | (simp [*, errW_none, errW_some] <;> rfl), by repeat (first | (with_reducible first | exact HB.out | apply below_alloc | apply pw_below_drewN | apply below_drew1 | refine below_set ?_ GE310.out) | exact HB.out)⟩
     ·rw [if_neg c18] at H
      have c18b0 : decide (1000000 < a0_3) = false := decide_eq_false c18; clear c18
      by_cases c20 : a0_4 < 1
      ·rw [if_pos c20] at H
       have c20b0 : decide (a0_4 < 1) = true := decide_eq_true c20; clear c20; obtain rfl := Option.some.inj H; have hcz21_0 : wc.cell? ⟨gb310, 0, none⟩ = some (.int .i64 a0_0) := (blk_cell BK310.out 0).trans rfl; have hcz21_1 : wc.cell? ⟨gb310, 1, none⟩ = some (.int .i64 a0_1) := (blk_cell BK310.out 1).trans rfl; have hcz21_2 : wc.cell? ⟨gb310, 2, none⟩ = some (.int .i64 a0_2) := (blk_cell BK310.out 2).trans rfl; have hcz21_3 : wc.cell? ⟨gb310, 3, none⟩ = some (.int .i64 a0_3) := (blk_cell BK310.out 3).trans rfl; have hcz21_4 : wc.cell? ⟨gb310, 4, none⟩ = some (.int .i64 a0_4) := (blk_cell BK310.out 4).trans rfl; have hcz21_5 : wc.cell? ⟨gb310, 5, none⟩ = some (.int .i64 a0_5) := (blk_cell BK310.out 5).trans rfl; have hcz21_6 : wc.cell? ⟨gb310, 6, none⟩ = some (.int .i64 a0_6) := (blk_cell BK310.out 6).trans rfl; have hfz21_0 := blk_frozen BK310.out 0; have hfz21_1 := blk_frozen BK310.out 1; have hfz21_2 := blk_frozen BK310.out 2; have hfz21_3 := blk_frozen BK310.out 3; have hfz21_4 := blk_frozen BK310.out 4; have hfz21_5 := blk_frozen BK310.out 5; have hfz21_6 := blk_frozen BK310.out 6
       go_wp2
       go_ret
       exact ⟨by first | rfl | (simp [errW_none, errW_some] <;> rfl) | (simp [*, errW_none, errW_some] <;> rfl), by repeat (first | (with_reducible first | exact HB.out | apply below_alloc | apply pw_below_drewN | apply below_drew1 | refine below_set ?_ GE310.out) | exact HB.out)⟩
      ·rw [if_neg c20] at H
       have c20b0 : decide (a0_4 < 1) = false := decide_eq_false c20; clear c20
       by_cases c22 : a0_4 > a0_5
       ·rw [if_pos c22] at H
        have c22b0 : decide (a0_5 < a0_4) = true := decide_eq_true c22; clear c22; obtain rfl := Option.some.inj H; have hcz23_0 : wc.cell? ⟨gb310, 0, none⟩ = some (.int .i64 a0_0) := (blk_cell BK310.out 0).trans rfl; have hcz23_1 : wc.cell? ⟨gb310, 1, none⟩ = some (.int .i64 a0_1) := (blk_cell BK310.out 1).trans rfl; have hcz23_2 : wc.cell? ⟨gb310, 2, none⟩ = some (.int .i64 a0_2) := (blk_cell BK310.out 2).trans rfl; have hcz23_3 : wc.cell? ⟨gb310, 3, none⟩ = some (.int .i64 a0_3) := (blk_cell BK310.out 3).trans rfl; have hcz23_4 : wc.cell? ⟨gb310, 4, none⟩ = some (.int .i64 a0_4) := (blk_cell BK310.out 4).trans rfl; have hcz23_5 : wc.cell? ⟨gb310, 5, none⟩ = some (.int .i64 a0_5) := (blk_cell BK310.out 5).trans rfl; have hcz23_6 : wc.cell? ⟨gb310, 6, none⟩ = some (.int .i64 a0_6) := (blk_cell BK310.out 6).trans rfl; have hfz23_0 := blk_frozen BK310.out 0; have hfz23_1 := blk_frozen BK310.out 1; have hfz23_2 := blk_frozen BK310.out 2; have hfz23_3 := blk_frozen BK310.out 3; have hfz23_4 := blk_frozen BK310.out 4; have hfz23_5 := blk_frozen BK310.out 5; have hfz23_6 := blk_frozen BK310.out 6
        go_wp2
        go_ret
        exact ⟨by first | rfl | (simp [errW_none, errW_some] <;> rfl) | (simp [*, errW_none, errW_some] <;> rfl), by repeat (first | (with_reducible first | exact HB.out | apply below_alloc | apply pw_below_drewN | apply below_drew1 | refine below_set ?_ GE310.out) | exact HB.out)⟩
       ·rw [if_neg c22] at H
        have c22b0 : decide (a0_5 < a0_4) = false := decide_eq_false c22; clear c22
        by_cases c24 : a0_5 > 1099511627776
        ·rw [if_pos c24] at H
         have c24b0 : decide (1099511627776 < a0_5) = true := decide_eq_true c24; clear c24; obtain rfl := Option.some.inj H; have hcz25_0 : wc.cell? ⟨gb310, 0, none⟩ = some (.int .i64 a0_0) := (blk_cell BK310.out 0).trans rfl; have hcz25_1 : wc.cell? ⟨gb310, 1, none⟩ = some (.int .i64 a0_1) := (blk_cell BK310.out 1).trans rfl; have hcz25_2 : wc.cell? ⟨gb310, 2, none⟩ = some (.int .i64 a0_2) := (blk_cell BK310.out 2).trans rfl; have hcz25_3 : wc.cell? ⟨gb310, 3, none⟩ = some (.int .i64 a0_3) := (blk_cell BK310.out 3).trans rfl; have hcz25_4 : wc.cell? ⟨gb310, 4, none⟩ = some (.int .i64 a0_4) := (blk_cell BK310.out 4).trans rfl; have hcz25_5 : wc.cell? ⟨gb310, 5, none⟩ = some (.int .i64 a0_5) := (blk_cell BK310.out 5).trans rfl; have hcz25_6 : wc.cell? ⟨gb310, 6, none⟩ = some (.int .i64 a0_6) := (blk_cell BK310.out 6).trans rfl; have hfz25_0 := blk_frozen BK310.out 0; have hfz25_1 := blk_frozen BK310.out 1; have hfz25_2 := blk_frozen BK310.out 2; have hfz25_3 := blk_frozen BK310.out 3; have hfz25_4 := blk_frozen BK310.out 4; have hfz25_5 := blk_frozen BK310.out 5; have hfz25_6 := blk_frozen BK310.out 6
         go_wp2
         go_ret
         exact ⟨by first | rfl | (simp [errW_none, errW_some] <;> rfl) | (simp [*, errW_none, errW_some] <;> rfl), by repeat (first | (with_reducible first | exact HB.out | apply below_alloc | apply pw_below_drewN | apply below_drew1 | refine below_set ?_ GE310.out) | exact HB.out)⟩
        ·rw [if_neg c24] at H
         have c24b0 : decide (1099511627776 < a0_5) = false := decide_eq_false c24; clear c24
         by_cases c26 : a0_6 < 1
         ·rw [if_pos c26] at H
          have c26b0 : decide (a0_6 < 1) = true := decide_eq_true c26; clear c26; obtain rfl := Option.some.inj H; have hcz27_0 : wc.cell? ⟨gb310, 0, none⟩ = some (.int .i64 a0_0) := (blk_cell BK310.out 0).trans rfl; have hcz27_1 : wc.cell? ⟨gb310, 1, none⟩ = some (.int .i64 a0_1) := (blk_cell BK310.out 1).trans rfl; have hcz27_2 : wc.cell? ⟨gb310, 2, none⟩ = some (.int .i64 a0_2) := (blk_cell BK310.out 2).trans rfl; have hcz27_3 : wc.cell? ⟨gb310, 3, none⟩ = some (.int .i64 a0_3) := (blk_cell BK310.out 3).trans rfl; have hcz27_4 : wc.cell? ⟨gb310, 4, none⟩ = some (.int .i64 a0_4) := (blk_cell BK310.out 4).trans rfl; have hcz27_5 : wc.cell? ⟨gb310, 5, none⟩ = some (.int .i64 a0_5) := (blk_cell BK310.out 5).trans rfl; have hcz27_6 : wc.cell? ⟨gb310, 6, none⟩ = some (.int .i64 a0_6) := (blk_cell BK310.out 6).trans rfl; have hfz27_0 := blk_frozen BK310.out 0; have hfz27_1 := blk_frozen BK310.out 1; have hfz27_2 := blk_frozen BK310.out 2; have hfz27_3 := blk_frozen BK310.out 3; have hfz27_4 := blk_frozen BK310.out 4; have hfz27_5 := blk_frozen BK310.out 5; have hfz27_6 := blk_frozen BK310.out 6
          go_wp2
          go_ret
          exact ⟨by first | rfl | (simp [errW_none, errW_some] <;> rfl) | (simp [*, errW_none, errW_some] <;> rfl), by repeat (first | (with_reducible first | exact HB.out | apply below_alloc | apply pw_below_drewN | apply below_drew1 | refine below_set ?_ GE310.out) | exact HB.out)⟩
         ·rw [if_neg c26] at H
          have c26b0 : decide (a0_6 < 1) = false := decide_eq_false c26; clear c26
          by_cases c28 : a0_6 > 1000
          ·rw [if_pos c28] at H
           have c28b0 : decide (1000 < a0_6) = true := decide_eq_true c28; clear c28; obtain rfl := Option.some.inj H; have hcz29_0 : wc.cell? ⟨gb310, 0, none⟩ = some (.int .i64 a0_0) := (blk_cell BK310.out 0).trans rfl; have hcz29_1 : wc.cell? ⟨gb310, 1, none⟩ = some (.int .i64 a0_1) := (blk_cell BK310.out 1).trans rfl; have hcz29_2 : wc.cell? ⟨gb310, 2, none⟩ = some (.int .i64 a0_2) := (blk_cell BK310.out 2).trans rfl; have hcz29_3 : wc.cell? ⟨gb310, 3, none⟩ = some (.int .i64 a0_3) := (blk_cell BK310.out 3).trans rfl; have hcz29_4 : wc.cell? ⟨gb310, 4, none⟩ = some (.int .i64 a0_4) := (blk_cell BK310.out 4).trans rfl; have hcz29_5 : wc.cell? ⟨gb310, 5, none⟩ = some (.int .i64 a0_5) := (blk_cell BK310.out 5).trans rfl; have hcz29_6 : wc.cell? ⟨gb310, 6, none⟩ = some (.int .i64 a0_6) := (blk_cell BK310.out 6).trans rfl; have hfz29_0 := blk_frozen BK310.out 0; have hfz29_1 := blk_frozen BK310.out 1; have hfz29_2 := blk_frozen BK310.out 2; have hfz29_3 := blk_frozen BK310.out 3; have hfz29_4 := blk_frozen BK310.out 4; have hfz29_5 := blk_frozen BK310.out 5; have hfz29_6 := blk_frozen BK310.out 6
           go_wp2
           go_ret
           exact ⟨by first | rfl | (simp [errW_none, errW_some] <;> rfl) | (simp [*, errW_none, errW_some] <;> rfl), by repeat (first | (with_reducible first | exact HB.out | apply below_alloc | apply pw_below_drewN | apply below_drew1 | refine below_set ?_ GE310.out) | exact HB.out)⟩
          ·rw [if_neg c28] at H
           have c28b0 : decide (1000 < a0_6) = false := decide_eq_false c28; clear c28; obtain rfl := Option.some.inj H; have hcz30_0 : wc.cell? ⟨gb310, 0, none⟩ = some (.int .i64 a0_0) := (blk_cell BK310.out 0).trans rfl; have hcz30_1 : wc.cell? ⟨gb310, 1, none⟩ = some (.int .i64 a0_1) := (blk_cell BK310.out 1).trans rfl; have hcz30_2 : wc.cell? ⟨gb310, 2, none⟩ = some (.int .i64 a0_2) := (blk_cell BK310.out 2).trans rfl; have hcz30_3 : wc.cell? ⟨gb310, 3, none⟩ = some (.int .i64 a0_3) := (blk_cell BK310.out 3).trans rfl; have hcz30_4 : wc.cell? ⟨gb310, 4, none⟩ = some (.int .i64 a0_4) := (blk_cell BK310.out 4).trans rfl; have hcz30_5 : wc.cell? ⟨gb310, 5, none⟩ = some (.int .i64 a0_5) := (blk_cell BK310.out 5).trans rfl; have hcz30_6 : wc.cell? ⟨gb310, 6, none⟩ = some (.int .i64 a0_6) := (blk_cell BK310.out 6).trans rfl; have hfz30_0 := blk_frozen BK310.out 0; have hfz30_1 := blk_frozen BK310.out 1; have hfz30_2 := blk_frozen BK310.out 2; have hfz30_3 := blk_frozen BK310.out 3; have hfz30_4 := blk_frozen BK310.out 4; have hfz30_5 := blk_frozen BK310.out 5; have hfz30_6 := blk_frozen BK310.out 6
           go_wp2
           go_ret
           exact ⟨by first | rfl | (simp [errW_none, errW_some] <;> rfl) | (simp [*, errW_none, errW_some] <;> rfl), by repeat (first | (with_reducible first | exact HB.out | apply below_alloc | apply pw_below_drewN | apply below_drew1 | refine below_set ?_ GE310.out) | exact HB.out)⟩

/-! ### sawtoothref19_First: function 14 -/
noncomputable def sawtoothref19_First.f (k : Nat) (a0_0 : Int) (a0_1 : Int) (a0_2 : Int) (a0_3 : Int) (a0_4 : Int) (a0_5 : Int) (a0_6 : Int) : Option (Int) := (sawtoothref19_Check.f k a0_0 a0_1 a0_2 a0_3 a0_4 a0_5 a0_6).bind fun t312 => (if t312 = 0 then (some (wrap64 (65536 * a0_2))) else (some 131072))
set_option maxHeartbeats 8000000 in
set_option maxRecDepth 100000 in
theorem sawtoothref19_First.calls (k : Nat) (a0_0 : Int) (a0_1 : Int) (a0_2 : Int) (a0_3 : Int) (a0_4 : Int) (a0_5 : Int) (a0_6 : Int) (r : Int) (w : World) (h : sawtoothref19_First.f k a0_0 a0_1 a0_2 a0_3 a0_4 a0_5 a0_6 = some r) :
  Calls Tryd.prog 14 #[.agg #[.int .i64 a0_0, .int .i64 a0_1, .int .i64 a0_2, .int .i64 a0_3, .int .i64 a0_4, .int .i64 a0_5, .int .i64 a0_6]] w fun e w' => e = .returned (.int .i64 r) ∧ Below w.heap.size w w' := by
 have hu23 := Tryd.underlying23; have HB := Aside0.mk (Below.refl w.heap.size w); have H : ((sawtoothref19_Check.f k a0_0 a0_1 a0_2 a0_3 a0_4 a0_5 a0_6).bind fun t312 => (if t312 = 0 then (some (wrap64 (65536 * a0_2))) else (some 131072))) = some r := h; clear h; replace H := Option.bind_eq_some_iff.mp H; obtain ⟨t312, A20, H⟩ := H; replace H : (if t312 = 0 then (some (wrap64 (65536 * a0_2))) else (some 131072)) = some r := H; have A2 := Aside0.mk A20; clear A20
 by_cases c3 : t312 = 0
 ·rw [if_pos c3] at H
  have c3b0 : (t312 == 0) = true := beq_iff_eq.mpr c3; have c3b1 : (t312 != 0) = false := bne_eq_false_iff_eq.mpr c3; clear c3; obtain rfl := Option.some.inj H
  go_enter Tryd.func14, Tryd.ntmps14
  go_wp2_with (first | ((with_reducible refine gate_dst (N := 1) rfl ?_); refine box_event ?hg (N := 1) ?hd (cs := #[.int .i64 a0_0, .int .i64 a0_1, .int .i64 a0_2, .int .i64 a0_3, .int .i64 a0_4, .int .i64 a0_5, .int .i64 a0_6]) (t := 23) ?hr ?_; (case hd => rfl); (case hg => rfl); (case hr => first | (go_simp; done) | (go_simp; rfl)); intro gb311 hg w4 hbox hb; have BK311 := Aside0.mk (hbox); obtain ⟨GW311, nHB⟩ := geA hg hb; have GE311 := GW311; replace HB := nHB; clear nHB; clear hb hbox hg; have hcz5_0 := czZ BK311 0 (.int .i64 a0_0); have hcz5_1 := czZ BK311 1 (.int .i64 a0_1); have hcz5_2 := czZ BK311 2 (.int .i64 a0_2); have hcz5_3 := czZ BK311 3 (.int .i64 a0_3); have hcz5_4 := czZ BK311 4 (.int .i64 a0_4); have hcz5_5 := czZ BK311 5 (.int .i64 a0_5); have hcz5_6 := czZ BK311 6 (.int .i64 a0_6); have hfz5_0 := blk_frozen BK311.out 0; have hfz5_1 := blk_frozen BK311.out 1; have hfz5_2 := blk_frozen BK311.out 2; have hfz5_3 := blk_frozen BK311.out 3; have hfz5_4 := blk_frozen BK311.out 4; have hfz5_5 := blk_frozen BK311.out 5; have hfz5_6 := blk_frozen BK311.out 6) | ((with_reducible refine gate_callee (f := 12) rfl ?_); refine goesLA_ (some 4) rfl rfl Tryd.func12 rfl #[.agg #[.int .i64 a0_0, .int .i64 a0_1, .int .i64 a0_2, .int .i64 a0_3, .int .i64 a0_4, .int .i64 a0_5, .int .i64 a0_6]] rfl ?_; (with_reducible refine (sawtoothref19_Check.calls k a0_0 a0_1 a0_2 a0_3 a0_4 a0_5 a0_6 t312 _ A2.out).mono ?_); rintro e w6 ⟨rfl, hb⟩; refine ⟨_, rfl, ?_⟩; replace BK311 := bdZ BK311 hb; replace HB := stA hb; clear hb; have hcz7_0 := czZ BK311 0 (.int .i64 a0_0); have hcz7_1 := czZ BK311 1 (.int .i64 a0_1); have hcz7_2 := czZ BK311 2 (.int .i64 a0_2); have hcz7_3 := czZ BK311 3 (.int .i64 a0_3); have hcz7_4 := czZ BK311 4 (.int .i64 a0_4); have hcz7_5 := czZ BK311 5 (.int .i64 a0_5); have hcz7_6 := czZ BK311 6 (.int .i64 a0_6); have hfz7_0 := blk_frozen BK311.out 0; have hfz7_1 := blk_frozen BK311.out 1; have hfz7_2 := blk_frozen BK311.out 2; have hfz7_3 := blk_frozen BK311.out 3; have hfz7_4 := blk_frozen BK311.out 4; have hfz7_5 := blk_frozen BK311.out 5; have hfz7_6 := blk_frozen BK311.out 6))
  go_ret
  exact ⟨by first | rfl | (simp [errW_none, errW_some] <;> rfl) | (simp [*, errW_none, errW_some] <;> rfl), by repeat (first | (with_reducible first | exact HB.out | apply below_alloc | apply pw_below_drewN | apply below_drew1 | refine below_set ?_ GE311.out) | exact HB.out)⟩
 ·rw [if_neg c3] at H
  have c3b0 : (t312 == 0) = false := beq_eq_false_iff_ne.mpr c3; have c3b1 : (t312 != 0) = true := bne_iff_ne.mpr c3; obtain rfl := Option.some.inj H
  go_enter Tryd.func14, Tryd.ntmps14
  go_wp2_with (first | ((with_reducible refine gate_dst (N := 1) rfl ?_); refine box_event ?hg (N := 1) ?hd (cs := #[.int .i64 a0_0, .int .i64 a0_1, .int .i64 a0_2, .int .i64 a0_3, .int .i64 a0_4, .int .i64 a0_5, .int .i64 a0_6]) (t := 23) ?hr ?_; (case hd => rfl); (case hg => rfl); (case hr => first | (go_simp; done) | (go_simp; rfl)); intro gb311 hg w8 hbox hb; have BK311 := Aside0.mk (hbox); obtain ⟨GW311, nHB⟩ := geA hg hb; have GE311 := GW311; replace HB := nHB; clear nHB; clear hb hbox hg; have hcz9_0 := czZ BK311 0 (.int .i64 a0_0); have hcz9_1 := czZ BK311 1 (.int .i64 a0_1); have hcz9_2 := czZ BK311 2 (.int .i64 a0_2); have hcz9_3 := czZ BK311 3 (.int .i64 a0_3); have hcz9_4 := czZ BK311 4 (.int .i64 a0_4); have hcz9_5 := czZ BK311 5 (.int .i64 a0_5); have hcz9_6 := czZ BK311 6 (.int .i64 a0_6); have hfz9_0 := blk_frozen BK311.out 0; have hfz9_1 := blk_frozen BK311.out 1; have hfz9_2 := blk_frozen BK311.out 2; have hfz9_3 := blk_frozen BK311.out 3; have hfz9_4 := blk_frozen BK311.out 4; have hfz9_5 := blk_frozen BK311.out 5; have hfz9_6 := blk_frozen BK311.out 6) | ((with_reducible refine gate_callee (f := 12) rfl ?_); refine goesLA_ (some 4) rfl rfl Tryd.func12 rfl #[.agg #[.int .i64 a0_0, .int .i64 a0_1, .int .i64 a0_2, .int .i64 a0_3, .int .i64 a0_4, .int .i64 a0_5, .int .i64 a0_6]] rfl ?_; (with_reducible refine (sawtoothref19_Check.calls k a0_0 a0_1 a0_2 a0_3 a0_4 a0_5 a0_6 t312 _ A2.out).mono ?_); rintro e w10 ⟨rfl, hb⟩; refine ⟨_, rfl, ?_⟩; replace BK311 := bdZ BK311 hb; replace HB := stA hb; clear hb))
  go_ret
  exact ⟨by first | rfl | (simp [errW_none, errW_some] <;> rfl) | (simp [*, errW_none, errW_some] <;> rfl), by repeat (first | (with_reducible first | exact HB.out | apply below_alloc | apply pw_below_drewN | apply below_drew1 | refine below_set ?_ GE311.out) | exact HB.out)⟩

/-! ### sawtoothref01_minus: function 42 -/
noncomputable def sawtoothref01_minus.f (a0 : Int) (a1 : Int) : Option (Int × Int) := if a1 > 0 then (if a0 < (wrap64 ((-9223372036854775808) + a1)) then (some (0, 10)) else (if a1 < 0 then (if a0 > (wrap64 (9223372036854775807 + a1)) then (some (0, 10)) else (some (wrap64 (a0 - a1), 0))) else (some (wrap64 (a0 - a1), 0)))) else (if a1 < 0 then (if a0 > (wrap64 (9223372036854775807 + a1)) then (some (0, 10)) else (some (wrap64 (a0 - a1), 0))) else (some (wrap64 (a0 - a1), 0)))
set_option maxHeartbeats 8000000 in
set_option maxRecDepth 100000 in
theorem sawtoothref01_minus.calls (a0 : Int) (a1 : Int) (r1 : Int) (r2 : Int) (w : World) (h : sawtoothref01_minus.f a0 a1 = some (r1, r2)) :
  Calls Tryd.prog 42 #[.int .i64 a0, .int .i64 a1] w fun e w' => e = .returned (.tuple #[.int .i64 r1, .int .i64 r2]) ∧ Drawn0 w w' := by
 have H : (if a1 > 0 then (if a0 < (wrap64 ((-9223372036854775808) + a1)) then (some (0, 10)) else (if a1 < 0 then (if a0 > (wrap64 (9223372036854775807 + a1)) then (some (0, 10)) else (some (wrap64 (a0 - a1), 0))) else (some (wrap64 (a0 - a1), 0)))) else (if a1 < 0 then (if a0 > (wrap64 (9223372036854775807 + a1)) then (some (0, 10)) else (some (wrap64 (a0 - a1), 0))) else (some (wrap64 (a0 - a1), 0)))) = some (r1, r2) := h; clear h
 by_cases c3 : a1 > 0
 ·rw [if_pos c3] at H
  have c3b0 : decide (0 < a1) = true := decide_eq_true c3; clear c3
  by_cases c4 : a0 < (wrap64 ((-9223372036854775808) + a1))
  ·rw [if_pos c4] at H
   have c4b0 : decide (a0 < (wrap64 ((-9223372036854775808) + a1))) = true := decide_eq_true c4; clear c4; simp only [Option.some.injEq, Prod.mk.injEq] at H; obtain ⟨rfl, rfl⟩ := H
   go_enter Tryd.func42, Tryd.ntmps42
   go_wp2
   go_ret2
   exact ⟨by first | rfl | (simp; done) | (simp [*]; done), by repeat (first | exact Drawn0.refl _ | apply Drawn0.step)⟩
  ·rw [if_neg c4] at H
   have c4b0 : decide (a0 < (wrap64 ((-9223372036854775808) + a1))) = false := decide_eq_false c4; clear c4
   by_cases c5 : a1 < 0
   ·rw [if_pos c5] at H
    have c5b0 : decide (a1 < 0) = true := decide_eq_true c5; clear c5
    by_cases c6 : a0 > (wrap64 (9223372036854775807 + a1))
    ·rw [if_pos c6] at H
     have c6b0 : decide ((wrap64 (9223372036854775807 + a1)) < a0) = true := decide_eq_true c6; clear c6; simp only [Option.some.injEq, Prod.mk.injEq] at H; obtain ⟨rfl, rfl⟩ := H
     go_enter Tryd.func42, Tryd.ntmps42
     go_wp2
     go_ret2
     exact ⟨by first | rfl | (simp; done) | (simp [*]; done), by repeat (first | exact Drawn0.refl _ | apply Drawn0.step)⟩
    ·rw [if_neg c6] at H
     have c6b0 : decide ((wrap64 (9223372036854775807 + a1)) < a0) = false := decide_eq_false c6; clear c6; simp only [Option.some.injEq, Prod.mk.injEq] at H; obtain ⟨rfl, rfl⟩ := H
     go_enter Tryd.func42, Tryd.ntmps42
     go_wp2
     go_ret2
     exact ⟨by first | rfl | (simp; done) | (simp [*]; done), by repeat (first | exact Drawn0.refl _ | apply Drawn0.step)⟩
   ·rw [if_neg c5] at H
    have c5b0 : decide (a1 < 0) = false := decide_eq_false c5; clear c5; simp only [Option.some.injEq, Prod.mk.injEq] at H; obtain ⟨rfl, rfl⟩ := H
    go_enter Tryd.func42, Tryd.ntmps42
    go_wp2
    go_ret2
    exact ⟨by first | rfl | (simp; done) | (simp [*]; done), by repeat (first | exact Drawn0.refl _ | apply Drawn0.step)⟩
 ·rw [if_neg c3] at H
  have c3b0 : decide (0 < a1) = false := decide_eq_false c3; clear c3
  by_cases c7 : a1 < 0
  ·rw [if_pos c7] at H
   have c7b0 : decide (a1 < 0) = true := decide_eq_true c7; clear c7
   by_cases c8 : a0 > (wrap64 (9223372036854775807 + a1))
   ·rw [if_pos c8] at H
    have c8b0 : decide ((wrap64 (9223372036854775807 + a1)) < a0) = true := decide_eq_true c8; clear c8; simp only [Option.some.injEq, Prod.mk.injEq] at H; obtain ⟨rfl, rfl⟩ := H
    go_enter Tryd.func42, Tryd.ntmps42
    go_wp2
    go_ret2
    exact ⟨by first | rfl | (simp; done) | (simp [*]; done), by repeat (first | exact Drawn0.refl _ | apply Drawn0.step)⟩
   ·rw [if_neg c8] at H
    have c8b0 : decide ((wrap64 (9223372036854775807 + a1)) < a0) = false := decide_eq_false c8; clear c8; simp only [Option.some.injEq, Prod.mk.injEq] at H; obtain ⟨rfl, rfl⟩ := H
    go_enter Tryd.func42, Tryd.ntmps42
    go_wp2
    go_ret2
    exact ⟨by first | rfl | (simp; done) | (simp [*]; done), by repeat (first | exact Drawn0.refl _ | apply Drawn0.step)⟩
  ·rw [if_neg c7] at H
   have c7b0 : decide (a1 < 0) = false := decide_eq_false c7; clear c7; simp only [Option.some.injEq, Prod.mk.injEq] at H; obtain ⟨rfl, rfl⟩ := H
   go_enter Tryd.func42, Tryd.ntmps42
   go_wp2
   go_ret2
   exact ⟨by first | rfl | (simp; done) | (simp [*]; done), by repeat (first | exact Drawn0.refl _ | apply Drawn0.step)⟩

/-! ### sawtoothref01_minusS: pure, behind function 42 -/
section
open Go.Proofs.YtbpcfamjidjhjaaDoor.Sp
noncomputable def sawtoothref01_minusS.f (a : Int) (b : Int) : Option (Int × Int) := need ((I a) ∧ (I b)) (fit (a - b))
theorem sawtoothref01_minusS.eq {a : Int} {b : Int} (h1 : I a) (h2 : I b) : sawtoothref01_minusS.f a b = fit (a - b) := need_pos ⟨h1, h2⟩
theorem sawtoothref01_minus.main {a : Int} {b : Int} (h1 : I a) (h2 : I b) : sawtoothref01_minus.f a b = fit (a - b) := by
 unfold sawtoothref01_minus.f fit
 by_cases p : b > 0
 ·have q : ¬ b < 0 := by omega
  simp only [if_pos p, if_neg q]
  rw [w64 (x := -9223372036854775808 + b) (by omega)]
  by_cases c : I (a - b)
  ·rw [if_neg (by omega), if_pos c, w64 c]
  ·rw [if_pos (by omega), if_neg c]
 ·simp only [if_neg p]
  by_cases q : b < 0
  ·rw [if_pos q, w64 (x := 9223372036854775807 + b) (by omega)]
   by_cases c : I (a - b)
   ·rw [if_neg (by omega), if_pos c, w64 c]
   ·rw [if_pos (by omega), if_neg c]
  ·rw [if_neg q, if_pos (by omega), w64 (by omega)]
end
theorem sawtoothref01_minusS.calls (a0 : Int) (a1 : Int) (r1 : Int) (r2 : Int) (w : World) (h : sawtoothref01_minusS.f a0 a1 = some (r1, r2)) :
  Calls Tryd.prog 42 #[.int .i64 a0, .int .i64 a1] w fun e w' => e = .returned (.tuple #[.int .i64 r1, .int .i64 r2]) ∧ Drawn0 w w' := by
 obtain ⟨hc, h⟩ := Sp.need_some h; obtain ⟨h1, h2⟩ := hc; exact sawtoothref01_minus.calls a0 a1 r1 r2 w (by rw [sawtoothref01_minus.main h1 h2]; exact h)

/-! ### sawtoothref01_Sub: function 29 -/
noncomputable def sawtoothref01_Sub.j0 : Nat → Int → Int → Bool → Option (Int)
 | 0, _, _, _ => none
 | k + 1, x5, x6, x18 => if x18 = true then (some (-9223372036854775808)) else (if x6 = 0 then (some x5) else (some 9223372036854775807))
noncomputable def sawtoothref01_Sub.f (k : Nat) (a0 : Int) (a1 : Int) : Option (Int) := (sawtoothref01_minusS.f a0 a1).bind fun bt313 => (if bt313.2 = 0 then (sawtoothref01_Sub.j0 k bt313.1 bt313.2 false) else (sawtoothref01_Sub.j0 k bt313.1 bt313.2 (decide (a0 < 0))))
set_option maxHeartbeats 8000000 in
set_option maxRecDepth 100000 in
theorem sawtoothref01_Sub.calls (k : Nat) (a0 : Int) (a1 : Int) (r : Int) (w : World) (h : sawtoothref01_Sub.f k a0 a1 = some r) :
  Calls Tryd.prog 29 #[.int .i64 a0, .int .i64 a1] w fun e w' => e = .returned (.int .i64 r) ∧ Drawn0 w w' := by
 have H : ((sawtoothref01_minusS.f a0 a1).bind fun bt313 => (if bt313.2 = 0 then (sawtoothref01_Sub.j0 k bt313.1 bt313.2 false) else (sawtoothref01_Sub.j0 k bt313.1 bt313.2 (decide (a0 < 0))))) = some r := h; clear h; replace H := Option.bind_eq_some_iff.mp H; obtain ⟨⟨t313, t314⟩, A30, H⟩ := H; replace H : (if t314 = 0 then (sawtoothref01_Sub.j0 k t313 t314 false) else (sawtoothref01_Sub.j0 k t313 t314 (decide (a0 < 0)))) = some r := H; have A3 := Aside0.mk A30; clear A30; have HC4 := Aside0.mk H; clear H
 go_enter Tryd.func29, Tryd.ntmps29
 go_upto_region 2 with (first | ((with_reducible refine gate_callee (f := 42) rfl ?_); refine goesLA_ (some 10) rfl rfl Tryd.func42 rfl #[.int .i64 a0, .int .i64 a1] rfl ?_; (with_reducible refine (sawtoothref01_minusS.calls a0 a1 t313 t314 _ A3.out).mono ?_); rintro e w' ⟨rfl, ⟨nd, rfl⟩⟩; refine ⟨_, rfl, ?_⟩))
 (try simp only [Act.put, sA, sB, sC])
 go_cut [18] (fun v18 wc => ∃ (kq : Nat) (x18_3 : Bool), v18 = .bool x18_3 ∧ Aside0 (sawtoothref01_Sub.j0 kq t313 t314 x18_3 = some r) ∧ Aside0 (kq ≤ k) ∧ Drawn0 w wc)
 case first =>
  have H := HC4.out; clear HC4
  by_cases c5 : t314 = 0
  ·rw [if_pos c5] at H
   have c5b0 : (t314 == 0) = true := beq_iff_eq.mpr c5; have c5b1 : (t314 != 0) = false := bne_eq_false_iff_eq.mpr c5; clear c5
   (first | rw [c5b0] | (simp only [i64_w, i32_w]; rw [c5b0]) | skip)
   have H' := Aside0.mk H; clear H
   go_wp2
   go_meet
   case rel => exact ⟨_, (false), (by first | rfl | (simp; done) | (simp [*]; done)), H', ⟨by first | omega | exact Nat.le_refl _⟩, by repeat (first | exact Drawn0.refl _ | apply Drawn0.step)⟩
  ·rw [if_neg c5] at H
   have c5b0 : (t314 == 0) = false := beq_eq_false_iff_ne.mpr c5; have c5b1 : (t314 != 0) = true := bne_iff_ne.mpr c5
   (first | rw [c5b0] | (simp only [i64_w, i32_w]; rw [c5b0]) | skip)
   have H' := Aside0.mk H; clear H
   go_wp2
   go_meet
   case rel => exact ⟨_, (decide (a0 < 0)), (by first | rfl | (simp; done) | (simp [*]; done)), H', ⟨by first | omega | exact Nat.le_refl _⟩, by repeat (first | exact Drawn0.refl _ | apply Drawn0.step)⟩
 case rest =>
  clear HC4
  try clear c2
  try clear p2
  try clear c4
  try clear c5
  try clear c5b0
  try clear c5b1
  obtain ⟨kq, x18_3, rfl, HA, HJ3, ⟨mc3, rfl⟩⟩ := hcut
  cases kq with
  | zero => exact absurd HA.out (by simp [sawtoothref01_Sub.j0])
  | succ kj3 =>
   have H := HA.out; clear HA; simp only [sawtoothref01_Sub.j0] at H
   by_cases c6 : x18_3 = true
   ·subst c6
    have H1 : (some (-9223372036854775808)) = some r := by rw [if_pos rfl] at H; exact H
    clear H; have H := H1; clear H1; obtain rfl := Option.some.inj H
    go_wp2
    go_ret
    exact ⟨by first | rfl | (simp; done) | (simp [*]; done), by repeat (first | exact Drawn0.refl _ | apply Drawn0.step)⟩
   ·replace c6 := Bool.eq_false_iff.mpr c6
    subst c6
    have H1 : (if t314 = 0 then (some t313) else (some 9223372036854775807)) = some r := by rw [if_neg (show ¬ (false = true) by decide)] at H; exact H
    clear H; have H := H1; clear H1
    by_cases c7 : t314 = 0
    ·rw [if_pos c7] at H
     have c7b0 : (t314 == 0) = true := beq_iff_eq.mpr c7; have c7b1 : (t314 != 0) = false := bne_eq_false_iff_eq.mpr c7; clear c7; obtain rfl := Option.some.inj H
     go_wp2
     go_ret
     exact ⟨by first | rfl | (simp; done) | (simp [*]; done), by repeat (first | exact Drawn0.refl _ | apply Drawn0.step)⟩
    ·rw [if_neg c7] at H
     have c7b0 : (t314 == 0) = false := beq_eq_false_iff_ne.mpr c7; have c7b1 : (t314 != 0) = true := bne_iff_ne.mpr c7; obtain rfl := Option.some.inj H
     go_wp2
     go_ret
     exact ⟨by first | rfl | (simp; done) | (simp [*]; done), by repeat (first | exact Drawn0.refl _ | apply Drawn0.step)⟩

/-! ### sawtoothref01_SubS: pure, behind function 29 -/
section
open Go.Proofs.YtbpcfamjidjhjaaDoor.Sp
noncomputable def sawtoothref01_SubS.f (a : Int) (b : Int) : Option (Int) := need ((I a) ∧ (I b)) (some (near (a - b)))
theorem sawtoothref01_SubS.eq {a : Int} {b : Int} (h1 : I a) (h2 : I b) : sawtoothref01_SubS.f a b = some (near (a - b)) := need_pos ⟨h1, h2⟩
theorem sawtoothref01_Sub.main {a : Int} {b : Int} (h1 : I a) (h2 : I b) : sawtoothref01_Sub.f 1 a b = some (near (a - b)) := by
 unfold sawtoothref01_Sub.f
 simp only [sawtoothref01_Sub.j0]
 rw [sawtoothref01_minusS.eq h1 h2]
 by_cases c : I (a - b)
 ·rw [fit_in c, near_in c]; simp
 ·rw [fit_out c]
  by_cases n : a < 0
  ·rw [near_lo (by omega)]; simp [n]
  ·rw [near_hi (by omega)]; simp [n]
end
theorem sawtoothref01_SubS.calls (a0 : Int) (a1 : Int) (r : Int) (w : World) (h : sawtoothref01_SubS.f a0 a1 = some r) :
  Calls Tryd.prog 29 #[.int .i64 a0, .int .i64 a1] w fun e w' => e = .returned (.int .i64 r) ∧ Below w.heap.size w w' := by
 obtain ⟨hc, h⟩ := Sp.need_some h; obtain ⟨h1, h2⟩ := hc; refine (sawtoothref01_Sub.calls 1 a0 a1 r w (by rw [sawtoothref01_Sub.main h1 h2]; exact h)).mono (fun e w' hq => ⟨hq.1, ?_⟩); obtain ⟨nd, rfl⟩ := hq.2; exact pw_below_drewN (Below.refl _ _) nd

end Go.Proofs.YtbpcfamjidjhjaaDoor.Px
