/- Printed by px.py, over the kit's print. Conditions: none beside the theorems' own. -/
import Derived.Test.YtfahbgkoldoflaaGreatDoorEng0
import Derived.Test.YtfahbgkoldoflaaGreatDoorPx0
import Derived.Test.YtfahbgkoldoflaaGreatDoorPx2
import Derived.Test.YtfahbgkoldoflaaGreatDoorPx6
import Derived.Test.YtfahbgkoldoflaaGreatDoorPx11
import Derived.Test.YtfahbgkoldoflaaGreatDoorPx12
import Derived.Test.YtfahbgkoldoflaaGreatDoorPx13
import Derived.Test.YtfahbgkoldoflaaGreatDoorPx14
import Derived.Test.YtfahbgkoldoflaaGreatDoorPx15
import Derived.Test.YtfahbgkoldoflaaGreatDoorSpec
namespace Go.Proofs.YtfahbgkoldoflaaGreatDoor.Px
open Go.RowKit Go.Proofs.YtfahbgkoldoflaaGreatDoorW.PrintWords Go.Proofs.YtfahbgkoldoflaaGreatDoorW.PrintLast Go.Proofs.YtfahbgkoldoflaaGreatDoorW.PrintMore
attribute [local go_sem] max2_int min2_int max_two min_two max_three min_three max_four min_four
set_option linter.unusedVariables false
set_option linter.unusedSimpArgs false

attribute [local go_sem high] eqA39
/-! ### bucket_FillS: pure, behind function 35 -/
section
open Go.Proofs.YtfahbgkoldoflaaGreatDoor.Sp
noncomputable def bucket_FillS.f (t : Int) (h : Int) (u : Int) (r : Int) (m : Int) : Option (Int × Int × Int) := need (I t ∧ I h ∧ I u ∧ I r ∧ I m) (some (fillB t h u r m))
theorem bucket_FillS.eq {t : Int} {h : Int} {u : Int} {r : Int} {m : Int} (h1 : I t) (h2 : I h) (h3 : I u) (h4 : I r) (h5 : I m) : bucket_FillS.f t h u r m = some (fillB t h u r m) := need_pos ⟨h1, h2, h3, h4, h5⟩
theorem bucket_Fill.main {t : Int} {h : Int} {u : Int} {r : Int} {m : Int} (h1 : I t) (h2 : I h) (h3 : I u) (h4 : I r) (h5 : I m) : bucket_Fill.f t h u r m = some (fillB t h u r m) := by
 unfold bucket_Fill.f bucket_taken.f fillB
 rw [bucket_CheckS.eq]
 simp only [Option.bind_some]
 by_cases c : bOk t h = true
 ·obtain ⟨b1, b2, b3, b4⟩ := bOk_iff.1 c
  rw [if_pos c, if_pos c, clock_Step.eq h1 h3]
  simp only [Option.bind_some]
  by_cases cu : 0 ≤ u ∧ u ≤ 1099511627776
  ·rw [if_pos cu, if_pos cu]
   by_cases ct : u < t
   ·rw [if_pos ct, if_pos ct]; simp
   ·rw [if_neg ct, if_neg ct]
    have r1 := clamp_bd (a := r) (low := 0) (high := 1099511627776) (by omega); have m1 := clamp_bd (a := m) (low := 0) (high := 1099511627776) (by omega)
    rw [if_pos rfl, safe_ClampS.eq h5 (by omega) (by omega)]
    simp only [Option.bind_some]
    rw [w64 (x := clamp m 0 1099511627776 * 1000000) (by omega), safe_ClampS.eq h4 (by omega) (by omega)]
    simp only [Option.bind_some]
    rw [w64 (x := u - t) (by omega), safe_Mul.eq (by omega) (by omega)]
    simp only [Option.bind_some]
    rw [safe_Add.eq h2 (near_I _)]
    simp only [Option.bind_some]; have p0 := Int.mul_nonneg r1.1 (show 0 ≤ u - t by omega)
    unfold fillH topB
    generalize clamp r 0 1099511627776 * (u - t) = p at *
    generalize clamp m 0 1099511627776 = q at *
    by_cases c2 : h < q * 1000000
    ·rw [if_pos c2, if_pos c2]
     have e : mn (near (h + near p)) (q * 1000000) = if q * 1000000 < h + p then q * 1000000 else h + p := by unfold mn near; (repeat' split) <;> first | rfl | omega
     rw [e]
    ·rw [if_neg c2, if_neg c2]
  ·rw [if_neg cu, if_neg cu]; simp
 ·rw [if_neg c, if_neg c]
end
theorem bucket_FillS.calls (a0_0 : Int) (a0_1 : Int) (a1 : Int) (a2 : Int) (a3 : Int) (r1 : Int) (r2 : Int) (r3 : Int) (w : World) (h : bucket_FillS.f a0_0 a0_1 a1 a2 a3 = some (r1, r2, r3)) :
  Calls Tryz.prog 35 #[.agg #[.int .i64 a0_0, .int .i64 a0_1], .int .i64 a1, .int .i64 a2, .int .i64 a3] w fun e w' => e = .returned (.tuple #[.agg #[.int .i64 r1, .int .i64 r2], .int .i64 r3]) ∧ Below w.heap.size w w' := by
 obtain ⟨hc, h⟩ := Sp.need_some h; obtain ⟨h1, h2, h3, h4, h5⟩ := hc; exact bucket_Fill.calls a0_0 a0_1 a1 a2 a3 r1 r2 r3 w (by rw [bucket_Fill.main h1 h2 h3 h4 h5]; exact h)

/-! ### engine_between: function 64 -/
noncomputable def engine_between.f (a0 : Int) (a1 : Int) (a2 : Int) : Option (Bool) := if a0 ≥ a1 then (some (decide (a0 ≤ a2))) else (some false)
set_option maxHeartbeats 8000000 in
set_option maxRecDepth 100000 in
theorem engine_between.calls (a0 : Int) (a1 : Int) (a2 : Int) (r : Bool) (w : World) (h : engine_between.f a0 a1 a2 = some r) :
  Calls Tryz.prog 64 #[.int .i64 a0, .int .i64 a1, .int .i64 a2] w fun e w' => e = .returned (.bool r) ∧ Drawn0 w w' := by
 have H : (if a0 ≥ a1 then (some (decide (a0 ≤ a2))) else (some false)) = some r := h; clear h
 by_cases c4 : a0 ≥ a1
 ·rw [if_pos c4] at H
  have c4b0 : decide (a1 ≤ a0) = true := decide_eq_true c4; clear c4; obtain rfl := Option.some.inj H
  go_enter Tryz.func64, Tryz.ntmps64
  go_wp2
  go_ret
  exact ⟨by first | rfl | (simp; done) | (simp [*]; done), by repeat (first | exact Drawn0.refl _ | apply Drawn0.step)⟩
 ·rw [if_neg c4] at H
  have c4b0 : decide (a1 ≤ a0) = false := decide_eq_false c4; clear c4; obtain rfl := Option.some.inj H
  go_enter Tryz.func64, Tryz.ntmps64
  go_wp2
  go_ret
  exact ⟨by first | rfl | (simp; done) | (simp [*]; done), by repeat (first | exact Drawn0.refl _ | apply Drawn0.step)⟩

/-! ### flight_Check: function 65 -/
noncomputable def flight_Check.f (a0_0 : Int) (a0_1 : Int) (a0_2 : Int) : Option (Bool) := if a0_0 ≥ 0 then (if a0_1 ≥ 0 then (if a0_2 ≥ 0 then (if a0_1 ≤ a0_0 then (some (decide (a0_2 ≤ (wrap64 (a0_0 - a0_1))))) else (some false)) else (some false)) else (some false)) else (some false)
set_option maxHeartbeats 8000000 in
set_option maxRecDepth 100000 in
theorem flight_Check.calls (a0_0 : Int) (a0_1 : Int) (a0_2 : Int) (r : Bool) (w : World) (h : flight_Check.f a0_0 a0_1 a0_2 = some r) :
  Calls Tryz.prog 65 #[.agg #[.int .i64 a0_0, .int .i64 a0_1, .int .i64 a0_2]] w fun e w' => e = .returned (.bool r) ∧ Below w.heap.size w w' := by
 have hu37 := Tryz.underlying37; have HB := Aside0.mk (Below.refl w.heap.size w); have H : (if a0_0 ≥ 0 then (if a0_1 ≥ 0 then (if a0_2 ≥ 0 then (if a0_1 ≤ a0_0 then (some (decide (a0_2 ≤ (wrap64 (a0_0 - a0_1))))) else (some false)) else (some false)) else (some false)) else (some false)) = some r := h; clear h
 by_cases c2 : a0_0 ≥ 0
 ·rw [if_pos c2] at H
  have c2b0 : decide (0 ≤ a0_0) = true := decide_eq_true c2; clear c2
  by_cases c3 : a0_1 ≥ 0
  ·rw [if_pos c3] at H
   have c3b0 : decide (0 ≤ a0_1) = true := decide_eq_true c3; clear c3
   by_cases c4 : a0_2 ≥ 0
   ·rw [if_pos c4] at H
    have c4b0 : decide (0 ≤ a0_2) = true := decide_eq_true c4; clear c4
    by_cases c5 : a0_1 ≤ a0_0
    ·rw [if_pos c5] at H
     have c5b0 : decide (a0_1 ≤ a0_0) = true := decide_eq_true c5; clear c5; obtain rfl := Option.some.inj H
     go_enter Tryz.func65, Tryz.ntmps65
     go_wp2_with (first | ((with_reducible refine gate_dst (N := 1) rfl ?_); refine box_event ?hg (N := 1) ?hd (cs := #[.int .i64 a0_0, .int .i64 a0_1, .int .i64 a0_2]) (t := 37) ?hr ?_; (case hd => rfl); (case hg => rfl); (case hr => first | (go_simp; done) | (go_simp; rfl)); intro gb347 hg w6 hbox hb; have BK347 := Aside0.mk (hbox); obtain ⟨GW347, nHB⟩ := geA hg hb; have GE347 := GW347; replace HB := nHB; clear nHB; clear hb hbox hg; have hcz7_0 := czZ BK347 0 (.int .i64 a0_0); have hcz7_1 := czZ BK347 1 (.int .i64 a0_1); have hcz7_2 := czZ BK347 2 (.int .i64 a0_2); have hfz7_0 := blk_frozen BK347.out 0; have hfz7_1 := blk_frozen BK347.out 1; have hfz7_2 := blk_frozen BK347.out 2))
     go_ret
     exact ⟨by first | rfl | (simp [errW_none, errW_some] <;> rfl) | (simp [*, errW_none, errW_some] <;> rfl), by repeat (first | (with_reducible first | exact HB.out | apply below_alloc | apply pw_below_drewN | apply below_drew1 | refine below_set ?_ GE347.out) | exact HB.out)⟩
    ·rw [if_neg c5] at H
     have c5b0 : decide (a0_1 ≤ a0_0) = false := decide_eq_false c5; clear c5; obtain rfl := Option.some.inj H
     go_enter Tryz.func65, Tryz.ntmps65
     go_wp2_with (first | ((with_reducible refine gate_dst (N := 1) rfl ?_); refine box_event ?hg (N := 1) ?hd (cs := #[.int .i64 a0_0, .int .i64 a0_1, .int .i64 a0_2]) (t := 37) ?hr ?_; (case hd => rfl); (case hg => rfl); (case hr => first | (go_simp; done) | (go_simp; rfl)); intro gb347 hg w8 hbox hb; have BK347 := Aside0.mk (hbox); obtain ⟨GW347, nHB⟩ := geA hg hb; have GE347 := GW347; replace HB := nHB; clear nHB; clear hb hbox hg; have hcz9_0 := czZ BK347 0 (.int .i64 a0_0); have hcz9_1 := czZ BK347 1 (.int .i64 a0_1); have hcz9_2 := czZ BK347 2 (.int .i64 a0_2); have hfz9_0 := blk_frozen BK347.out 0; have hfz9_1 := blk_frozen BK347.out 1; have hfz9_2 := blk_frozen BK347.out 2))
     go_ret
     exact ⟨by first | rfl | (simp [errW_none, errW_some] <;> rfl) | (simp [*, errW_none, errW_some] <;> rfl), by repeat (first | (with_reducible first | exact HB.out | apply below_alloc | apply pw_below_drewN | apply below_drew1 | refine below_set ?_ GE347.out) | exact HB.out)⟩
   ·rw [if_neg c4] at H
    have c4b0 : decide (0 ≤ a0_2) = false := decide_eq_false c4; clear c4; obtain rfl := Option.some.inj H
    go_enter Tryz.func65, Tryz.ntmps65
    go_wp2_with (first | ((with_reducible refine gate_dst (N := 1) rfl ?_); refine box_event ?hg (N := 1) ?hd (cs := #[.int .i64 a0_0, .int .i64 a0_1, .int .i64 a0_2]) (t := 37) ?hr ?_; (case hd => rfl); (case hg => rfl); (case hr => first | (go_simp; done) | (go_simp; rfl)); intro gb347 hg w10 hbox hb; have BK347 := Aside0.mk (hbox); obtain ⟨GW347, nHB⟩ := geA hg hb; have GE347 := GW347; replace HB := nHB; clear nHB; clear hb hbox hg; have hcz11_0 := czZ BK347 0 (.int .i64 a0_0); have hcz11_1 := czZ BK347 1 (.int .i64 a0_1); have hcz11_2 := czZ BK347 2 (.int .i64 a0_2); have hfz11_0 := blk_frozen BK347.out 0; have hfz11_1 := blk_frozen BK347.out 1; have hfz11_2 := blk_frozen BK347.out 2))
    go_ret
    exact ⟨by first | rfl | (simp [errW_none, errW_some] <;> rfl) | (simp [*, errW_none, errW_some] <;> rfl), by repeat (first | (with_reducible first | exact HB.out | apply below_alloc | apply pw_below_drewN | apply below_drew1 | refine below_set ?_ GE347.out) | exact HB.out)⟩
  ·rw [if_neg c3] at H
   have c3b0 : decide (0 ≤ a0_1) = false := decide_eq_false c3; clear c3; obtain rfl := Option.some.inj H
   go_enter Tryz.func65, Tryz.ntmps65
   go_wp2_with (first | ((with_reducible refine gate_dst (N := 1) rfl ?_); refine box_event ?hg (N := 1) ?hd (cs := #[.int .i64 a0_0, .int .i64 a0_1, .int .i64 a0_2]) (t := 37) ?hr ?_; (case hd => rfl); (case hg => rfl); (case hr => first | (go_simp; done) | (go_simp; rfl)); intro gb347 hg w12 hbox hb; have BK347 := Aside0.mk (hbox); obtain ⟨GW347, nHB⟩ := geA hg hb; have GE347 := GW347; replace HB := nHB; clear nHB; clear hb hbox hg; have hcz13_0 := czZ BK347 0 (.int .i64 a0_0); have hcz13_1 := czZ BK347 1 (.int .i64 a0_1); have hcz13_2 := czZ BK347 2 (.int .i64 a0_2); have hfz13_0 := blk_frozen BK347.out 0; have hfz13_1 := blk_frozen BK347.out 1; have hfz13_2 := blk_frozen BK347.out 2))
   go_ret
   exact ⟨by first | rfl | (simp [errW_none, errW_some] <;> rfl) | (simp [*, errW_none, errW_some] <;> rfl), by repeat (first | (with_reducible first | exact HB.out | apply below_alloc | apply pw_below_drewN | apply below_drew1 | refine below_set ?_ GE347.out) | exact HB.out)⟩
 ·rw [if_neg c2] at H
  have c2b0 : decide (0 ≤ a0_0) = false := decide_eq_false c2; clear c2; obtain rfl := Option.some.inj H
  go_enter Tryz.func65, Tryz.ntmps65
  go_wp2_with (first | ((with_reducible refine gate_dst (N := 1) rfl ?_); refine box_event ?hg (N := 1) ?hd (cs := #[.int .i64 a0_0, .int .i64 a0_1, .int .i64 a0_2]) (t := 37) ?hr ?_; (case hd => rfl); (case hg => rfl); (case hr => first | (go_simp; done) | (go_simp; rfl)); intro gb347 hg w14 hbox hb; have BK347 := Aside0.mk (hbox); obtain ⟨GW347, nHB⟩ := geA hg hb; have GE347 := GW347; replace HB := nHB; clear nHB; clear hb hbox hg; have hcz15_0 := czZ BK347 0 (.int .i64 a0_0); have hcz15_1 := czZ BK347 1 (.int .i64 a0_1); have hcz15_2 := czZ BK347 2 (.int .i64 a0_2); have hfz15_0 := blk_frozen BK347.out 0; have hfz15_1 := blk_frozen BK347.out 1; have hfz15_2 := blk_frozen BK347.out 2))
  go_ret
  exact ⟨by first | rfl | (simp [errW_none, errW_some] <;> rfl) | (simp [*, errW_none, errW_some] <;> rfl), by repeat (first | (with_reducible first | exact HB.out | apply below_alloc | apply pw_below_drewN | apply below_drew1 | refine below_set ?_ GE347.out) | exact HB.out)⟩

/-! ### rtt_Check: function 66 -/
noncomputable def rtt_Check.f (a0_0 : Bool) (a0_1 : Int) (a0_2 : Int) : Option (Bool) := if a0_0 = true then (if a0_1 ≥ 8 then (if a0_1 ≤ 8589934592 then (if a0_2 ≥ 0 then (some (decide (a0_2 ≤ 4294967296))) else (some false)) else (some false)) else (some false)) else (some (!a0_0 && (a0_1 == 0 && (a0_2 == 0))))
set_option maxHeartbeats 8000000 in
set_option maxRecDepth 100000 in
theorem rtt_Check.calls (a0_0 : Bool) (a0_1 : Int) (a0_2 : Int) (r : Bool) (w : World) (h : rtt_Check.f a0_0 a0_1 a0_2 = some r) :
  Calls Tryz.prog 66 #[.agg #[.bool a0_0, .int .i64 a0_1, .int .i64 a0_2]] w fun e w' => e = .returned (.bool r) ∧ Below w.heap.size w w' := by
 have hu39 := Tryz.underlying39; have HB := Aside0.mk (Below.refl w.heap.size w); have H : (if a0_0 = true then (if a0_1 ≥ 8 then (if a0_1 ≤ 8589934592 then (if a0_2 ≥ 0 then (some (decide (a0_2 ≤ 4294967296))) else (some false)) else (some false)) else (some false)) else (some (!a0_0 && (a0_1 == 0 && (a0_2 == 0))))) = some r := h; clear h
 by_cases c2 : a0_0 = true
 ·subst c2
  have H1 : (if a0_1 ≥ 8 then (if a0_1 ≤ 8589934592 then (if a0_2 ≥ 0 then (some (decide (a0_2 ≤ 4294967296))) else (some false)) else (some false)) else (some false)) = some r := by rw [if_pos rfl] at H; exact H
  clear H; have H := H1; clear H1
  by_cases c3 : a0_1 ≥ 8
  ·rw [if_pos c3] at H
   have c3b0 : decide (8 ≤ a0_1) = true := decide_eq_true c3; clear c3
   by_cases c4 : a0_1 ≤ 8589934592
   ·rw [if_pos c4] at H
    have c4b0 : decide (a0_1 ≤ 8589934592) = true := decide_eq_true c4; clear c4
    by_cases c5 : a0_2 ≥ 0
    ·rw [if_pos c5] at H
     have c5b0 : decide (0 ≤ a0_2) = true := decide_eq_true c5; clear c5; obtain rfl := Option.some.inj H
     go_enter Tryz.func66, Tryz.ntmps66
     go_wp2_with (first | ((with_reducible refine gate_dst (N := 1) rfl ?_); refine box_event ?hg (N := 1) ?hd (cs := #[.bool true, .int .i64 a0_1, .int .i64 a0_2]) (t := 39) ?hr ?_; (case hd => rfl); (case hg => rfl); (case hr => first | (go_simp; done) | (go_simp; rfl)); intro gb348 hg w6 hbox hb; have BK348 := Aside0.mk (hbox); obtain ⟨GW348, nHB⟩ := geA hg hb; have GE348 := GW348; replace HB := nHB; clear nHB; clear hb hbox hg; have hcz7_0 := czZ BK348 0 (.bool true); have hcz7_1 := czZ BK348 1 (.int .i64 a0_1); have hcz7_2 := czZ BK348 2 (.int .i64 a0_2); have hfz7_0 := blk_frozen BK348.out 0; have hfz7_1 := blk_frozen BK348.out 1; have hfz7_2 := blk_frozen BK348.out 2))
     go_ret
     exact ⟨by first | rfl | (simp [errW_none, errW_some] <;> rfl) | (simp [*, errW_none, errW_some] <;> rfl), by repeat (first | (with_reducible first | exact HB.out | apply below_alloc | apply pw_below_drewN | apply below_drew1 | refine below_set ?_ GE348.out) | exact HB.out)⟩
    ·rw [if_neg c5] at H
     have c5b0 : decide (0 ≤ a0_2) = false := decide_eq_false c5; clear c5; obtain rfl := Option.some.inj H
     go_enter Tryz.func66, Tryz.ntmps66
     go_wp2_with (first | ((with_reducible refine gate_dst (N := 1) rfl ?_); refine box_event ?hg (N := 1) ?hd (cs := #[.bool true, .int .i64 a0_1, .int .i64 a0_2]) (t := 39) ?hr ?_; (case hd => rfl); (case hg => rfl); (case hr => first | (go_simp; done) | (go_simp; rfl)); intro gb348 hg w8 hbox hb; have BK348 := Aside0.mk (hbox); obtain ⟨GW348, nHB⟩ := geA hg hb; have GE348 := GW348; replace HB := nHB; clear nHB; clear hb hbox hg; have hcz9_0 := czZ BK348 0 (.bool true); have hcz9_1 := czZ BK348 1 (.int .i64 a0_1); have hcz9_2 := czZ BK348 2 (.int .i64 a0_2); have hfz9_0 := blk_frozen BK348.out 0; have hfz9_1 := blk_frozen BK348.out 1; have hfz9_2 := blk_frozen BK348.out 2))
     go_ret
     exact ⟨by first | rfl | (simp [errW_none, errW_some] <;> rfl) | (simp [*, errW_none, errW_some] <;> rfl), by repeat (first | (with_reducible first | exact HB.out | apply below_alloc | apply pw_below_drewN | apply below_drew1 | refine below_set ?_ GE348.out) | exact HB.out)⟩
   ·rw [if_neg c4] at H
    have c4b0 : decide (a0_1 ≤ 8589934592) = false := decide_eq_false c4; clear c4; obtain rfl := Option.some.inj H
    go_enter Tryz.func66, Tryz.ntmps66
    go_wp2_with (first | ((with_reducible refine gate_dst (N := 1) rfl ?_); refine box_event ?hg (N := 1) ?hd (cs := #[.bool true, .int .i64 a0_1, .int .i64 a0_2]) (t := 39) ?hr ?_; (case hd => rfl); (case hg => rfl); (case hr => first | (go_simp; done) | (go_simp; rfl)); intro gb348 hg w10 hbox hb; have BK348 := Aside0.mk (hbox); obtain ⟨GW348, nHB⟩ := geA hg hb; have GE348 := GW348; replace HB := nHB; clear nHB; clear hb hbox hg; have hcz11_0 := czZ BK348 0 (.bool true); have hcz11_1 := czZ BK348 1 (.int .i64 a0_1); have hcz11_2 := czZ BK348 2 (.int .i64 a0_2); have hfz11_0 := blk_frozen BK348.out 0; have hfz11_1 := blk_frozen BK348.out 1; have hfz11_2 := blk_frozen BK348.out 2))
    go_ret
    exact ⟨by first | rfl | (simp [errW_none, errW_some] <;> rfl) | (simp [*, errW_none, errW_some] <;> rfl), by repeat (first | (with_reducible first | exact HB.out | apply below_alloc | apply pw_below_drewN | apply below_drew1 | refine below_set ?_ GE348.out) | exact HB.out)⟩
  ·rw [if_neg c3] at H
   have c3b0 : decide (8 ≤ a0_1) = false := decide_eq_false c3; clear c3; obtain rfl := Option.some.inj H
   go_enter Tryz.func66, Tryz.ntmps66
   go_wp2_with (first | ((with_reducible refine gate_dst (N := 1) rfl ?_); refine box_event ?hg (N := 1) ?hd (cs := #[.bool true, .int .i64 a0_1, .int .i64 a0_2]) (t := 39) ?hr ?_; (case hd => rfl); (case hg => rfl); (case hr => first | (go_simp; done) | (go_simp; rfl)); intro gb348 hg w12 hbox hb; have BK348 := Aside0.mk (hbox); obtain ⟨GW348, nHB⟩ := geA hg hb; have GE348 := GW348; replace HB := nHB; clear nHB; clear hb hbox hg; have hcz13_0 := czZ BK348 0 (.bool true); have hcz13_1 := czZ BK348 1 (.int .i64 a0_1); have hcz13_2 := czZ BK348 2 (.int .i64 a0_2); have hfz13_0 := blk_frozen BK348.out 0; have hfz13_1 := blk_frozen BK348.out 1; have hfz13_2 := blk_frozen BK348.out 2))
   go_ret
   exact ⟨by first | rfl | (simp [errW_none, errW_some] <;> rfl) | (simp [*, errW_none, errW_some] <;> rfl), by repeat (first | (with_reducible first | exact HB.out | apply below_alloc | apply pw_below_drewN | apply below_drew1 | refine below_set ?_ GE348.out) | exact HB.out)⟩
 ·replace c2 := Bool.eq_false_iff.mpr c2
  subst c2
  have H1 : (some (!false && (a0_1 == 0 && (a0_2 == 0)))) = some r := by rw [if_neg (show ¬ (false = true) by decide)] at H; exact H
  clear H; have H := H1; clear H1; obtain rfl := Option.some.inj H
  go_enter Tryz.func66, Tryz.ntmps66
  go_wp2_with (first | ((with_reducible refine gate_dst (N := 1) rfl ?_); refine box_event ?hg (N := 1) ?hd (cs := #[.bool false, .int .i64 a0_1, .int .i64 a0_2]) (t := 39) ?hr ?_; (case hd => rfl); (case hg => rfl); (case hr => first | (go_simp; done) | (go_simp; rfl)); intro gb348 hg w14 hbox hb; have BK348 := Aside0.mk (hbox); obtain ⟨GW348, nHB⟩ := geA hg hb; have GE348 := GW348; replace HB := nHB; clear nHB; clear hb hbox hg; have hcz15_0 := czZ BK348 0 (.bool false); have hcz15_1 := czZ BK348 1 (.int .i64 a0_1); have hcz15_2 := czZ BK348 2 (.int .i64 a0_2); have hfz15_0 := blk_frozen BK348.out 0; have hfz15_1 := blk_frozen BK348.out 1; have hfz15_2 := blk_frozen BK348.out 2))
  go_ret
  exact ⟨by first | rfl | (simp [errW_none, errW_some] <;> rfl) | (simp [*, errW_none, errW_some] <;> rfl), by repeat (first | (with_reducible first | exact HB.out | apply below_alloc | apply pw_below_drewN | apply below_drew1 | refine below_set ?_ GE348.out) | exact HB.out)⟩

/-! ### round_Check: function 69 -/
noncomputable def round_Check.f (a0_0 : Int) (a0_1 : Int) : Option (Bool) := if a0_0 ≥ 0 then (some (decide (a0_1 ≥ 0))) else (some false)
set_option maxHeartbeats 8000000 in
set_option maxRecDepth 100000 in
theorem round_Check.calls (a0_0 : Int) (a0_1 : Int) (r : Bool) (w : World) (h : round_Check.f a0_0 a0_1 = some r) :
  Calls Tryz.prog 69 #[.agg #[.int .i64 a0_0, .int .i64 a0_1]] w fun e w' => e = .returned (.bool r) ∧ Below w.heap.size w w' := by
 have hu42 := Tryz.underlying42; have HB := Aside0.mk (Below.refl w.heap.size w); have H : (if a0_0 ≥ 0 then (some (decide (a0_1 ≥ 0))) else (some false)) = some r := h; clear h
 by_cases c2 : a0_0 ≥ 0
 ·rw [if_pos c2] at H
  have c2b0 : decide (0 ≤ a0_0) = true := decide_eq_true c2; clear c2; obtain rfl := Option.some.inj H
  go_enter Tryz.func69, Tryz.ntmps69
  go_wp2_with (first | ((with_reducible refine gate_dst (N := 1) rfl ?_); refine box_event ?hg (N := 1) ?hd (cs := #[.int .i64 a0_0, .int .i64 a0_1]) (t := 42) ?hr ?_; (case hd => rfl); (case hg => rfl); (case hr => first | (go_simp; done) | (go_simp; rfl)); intro gb349 hg w3 hbox hb; have BK349 := Aside0.mk (hbox); obtain ⟨GW349, nHB⟩ := geA hg hb; have GE349 := GW349; replace HB := nHB; clear nHB; clear hb hbox hg; have hcz4_0 := czZ BK349 0 (.int .i64 a0_0); have hcz4_1 := czZ BK349 1 (.int .i64 a0_1); have hfz4_0 := blk_frozen BK349.out 0; have hfz4_1 := blk_frozen BK349.out 1))
  go_ret
  exact ⟨by first | rfl | (simp [errW_none, errW_some] <;> rfl) | (simp [*, errW_none, errW_some] <;> rfl), by repeat (first | (with_reducible first | exact HB.out | apply below_alloc | apply pw_below_drewN | apply below_drew1 | refine below_set ?_ GE349.out) | exact HB.out)⟩
 ·rw [if_neg c2] at H
  have c2b0 : decide (0 ≤ a0_0) = false := decide_eq_false c2; clear c2; obtain rfl := Option.some.inj H
  go_enter Tryz.func69, Tryz.ntmps69
  go_wp2_with (first | ((with_reducible refine gate_dst (N := 1) rfl ?_); refine box_event ?hg (N := 1) ?hd (cs := #[.int .i64 a0_0, .int .i64 a0_1]) (t := 42) ?hr ?_; (case hd => rfl); (case hg => rfl); (case hr => first | (go_simp; done) | (go_simp; rfl)); intro gb349 hg w5 hbox hb; have BK349 := Aside0.mk (hbox); obtain ⟨GW349, nHB⟩ := geA hg hb; have GE349 := GW349; replace HB := nHB; clear nHB; clear hb hbox hg; have hcz6_0 := czZ BK349 0 (.int .i64 a0_0); have hcz6_1 := czZ BK349 1 (.int .i64 a0_1); have hfz6_0 := blk_frozen BK349.out 0; have hfz6_1 := blk_frozen BK349.out 1))
  go_ret
  exact ⟨by first | rfl | (simp [errW_none, errW_some] <;> rfl) | (simp [*, errW_none, errW_some] <;> rfl), by repeat (first | (with_reducible first | exact HB.out | apply below_alloc | apply pw_below_drewN | apply below_drew1 | refine below_set ?_ GE349.out) | exact HB.out)⟩

/-! ### rate_bounds_int_take: function 125 -/
noncomputable def rate_bounds_int_take.f (a0_0 : Int) (a0_1 : Int) (a1 : Int) : Option (Int) := some (mn (mx a1 a0_0) a0_1)
set_option maxHeartbeats 8000000 in
set_option maxRecDepth 100000 in
theorem rate_bounds_int_take.calls (a0_0 : Int) (a0_1 : Int) (a1 : Int) (r : Int) (w : World) (h : rate_bounds_int_take.f a0_0 a0_1 a1 = some r) :
  Calls Tryz.prog 125 #[.agg #[.int .i64 a0_0, .int .i64 a0_1], .int .i64 a1] w fun e w' => e = .returned (.int .i64 r) ∧ Below w.heap.size w w' := by
 have hu173 := Tryz.underlying173; have HB := Aside0.mk (Below.refl w.heap.size w); have H : (some (mn (mx a1 a0_0) a0_1)) = some r := h; clear h
 obtain ⟨ji3, hji3⟩ : ∃ j_ : Int, (mx a1 a0_0) = j_ := ⟨_, rfl⟩
 replace H : (some (mn (ji3) a0_1)) = some r := by first | (rw [hji3] at H; exact H) | (simp only [hji3] at H ⊢; exact H)
 have hji3_ : (if a1 < a0_0 then a0_0 else a1) = ji3 := hji3
 obtain ⟨ji4, hji4⟩ : ∃ j_ : Int, (mn (ji3) a0_1) = j_ := ⟨_, rfl⟩
 replace H : (some ji4) = some r := by first | (rw [hji4] at H; exact H) | (simp only [hji4] at H ⊢; exact H)
 have hji4_ : (if a0_1 < (ji3) then a0_1 else (ji3)) = ji4 := hji4; obtain rfl := Option.some.inj H
 go_enter Tryz.func125, Tryz.ntmps125
 go_wp2_with (first | ((with_reducible refine gate_dst (N := 2) rfl ?_); refine box_event ?hg (N := 2) ?hd (cs := #[.int .i64 a0_0, .int .i64 a0_1]) (t := 173) ?hr ?_; (case hd => rfl); (case hg => rfl); (case hr => first | (go_simp; done) | (go_simp; rfl)); intro gb350 hg w5 hbox hb; have BK350 := Aside0.mk (hbox); obtain ⟨GW350, nHB⟩ := geA hg hb; have GE350 := GW350; replace HB := nHB; clear nHB; clear hb hbox hg; have hcz6_0 := czZ BK350 0 (.int .i64 a0_0); have hcz6_1 := czZ BK350 1 (.int .i64 a0_1); have hfz6_0 := blk_frozen BK350.out 0; have hfz6_1 := blk_frozen BK350.out 1))
 go_ret
 exact ⟨by first | rfl | (simp [errW_none, errW_some] <;> rfl) | (simp only [← hji3, ← hji4]; first | rfl | (simp [errW_none, errW_some] <;> rfl)) | (simp [*, errW_none, errW_some] <;> rfl), by repeat (first | (with_reducible first | exact HB.out | apply below_alloc | apply pw_below_drewN | apply below_drew1 | refine below_set ?_ GE350.out) | exact HB.out)⟩

/-! ### rate_Gain: function 126 -/
noncomputable def rate_Gain.f (a0 : Bool) : Option (Int × Int) := if a0 = true then (some (2, 1)) else (some (5, 4))
set_option maxHeartbeats 8000000 in
set_option maxRecDepth 100000 in
theorem rate_Gain.calls (a0 : Bool) (r1 : Int) (r2 : Int) (w : World) (h : rate_Gain.f a0 = some (r1, r2)) :
  Calls Tryz.prog 126 #[.bool a0] w fun e w' => e = .returned (.tuple #[.int .i64 r1, .int .i64 r2]) ∧ Drawn0 w w' := by
 have H : (if a0 = true then (some (2, 1)) else (some (5, 4))) = some (r1, r2) := h; clear h
 by_cases c2 : a0 = true
 ·subst c2
  have H1 : (some (2, 1)) = some (r1, r2) := by rw [if_pos rfl] at H; exact H
  clear H; have H := H1; clear H1; simp only [Option.some.injEq, Prod.mk.injEq] at H; obtain ⟨rfl, rfl⟩ := H
  go_enter Tryz.func126, Tryz.ntmps126
  go_wp2
  go_ret2
  exact ⟨by first | rfl | (simp; done) | (simp [*]; done), by repeat (first | exact Drawn0.refl _ | apply Drawn0.step)⟩
 ·replace c2 := Bool.eq_false_iff.mpr c2
  subst c2
  have H1 : (some (5, 4)) = some (r1, r2) := by rw [if_neg (show ¬ (false = true) by decide)] at H; exact H
  clear H; have H := H1; clear H1; simp only [Option.some.injEq, Prod.mk.injEq] at H; obtain ⟨rfl, rfl⟩ := H
  go_enter Tryz.func126, Tryz.ntmps126
  go_wp2
  go_ret2
  exact ⟨by first | rfl | (simp; done) | (simp [*]; done), by repeat (first | exact Drawn0.refl _ | apply Drawn0.step)⟩

/-! ### rtt_Mean: function 142 -/
noncomputable def rtt_Mean.f (a0_0 : Bool) (a0_1 : Int) (a0_2 : Int) : Option (Int) := some (wrap64 (Int.tdiv a0_1 8))
set_option maxHeartbeats 8000000 in
set_option maxRecDepth 100000 in
theorem rtt_Mean.calls (a0_0 : Bool) (a0_1 : Int) (a0_2 : Int) (r : Int) (w : World) (h : rtt_Mean.f a0_0 a0_1 a0_2 = some r) :
  Calls Tryz.prog 142 #[.agg #[.bool a0_0, .int .i64 a0_1, .int .i64 a0_2]] w fun e w' => e = .returned (.int .i64 r) ∧ Below w.heap.size w w' := by
 have hu39 := Tryz.underlying39; have HB := Aside0.mk (Below.refl w.heap.size w); have H : (some (wrap64 (Int.tdiv a0_1 8))) = some r := h; clear h; obtain rfl := Option.some.inj H
 go_enter Tryz.func142, Tryz.ntmps142
 go_wp2_with (first | ((with_reducible refine gate_dst (N := 1) rfl ?_); refine box_event ?hg (N := 1) ?hd (cs := #[.bool a0_0, .int .i64 a0_1, .int .i64 a0_2]) (t := 39) ?hr ?_; (case hd => rfl); (case hg => rfl); (case hr => first | (go_simp; done) | (go_simp; rfl)); intro gb351 hg w2 hbox hb; have BK351 := Aside0.mk (hbox); obtain ⟨GW351, nHB⟩ := geA hg hb; have GE351 := GW351; replace HB := nHB; clear nHB; clear hb hbox hg; have hcz3_0 := czZ BK351 0 (.bool a0_0); have hcz3_1 := czZ BK351 1 (.int .i64 a0_1); have hcz3_2 := czZ BK351 2 (.int .i64 a0_2); have hfz3_0 := blk_frozen BK351.out 0; have hfz3_1 := blk_frozen BK351.out 1; have hfz3_2 := blk_frozen BK351.out 2))
 go_ret
 exact ⟨by first | rfl | (simp [errW_none, errW_some] <;> rfl) | (simp [*, errW_none, errW_some] <;> rfl), by repeat (first | (with_reducible first | exact HB.out | apply below_alloc | apply pw_below_drewN | apply below_drew1 | refine below_set ?_ GE351.out) | exact HB.out)⟩

/-! ### rate_time: function 127 -/
noncomputable def rate_time.f (a0_0 : Bool) (a0_1 : Int) (a0_2 : Int) : Option (Int) := if a0_0 = true then ((rtt_Check.f a0_0 a0_1 a0_2).bind fun t353 => (if t353 = true then ((rtt_Mean.f a0_0 a0_1 a0_2).bind fun t354 => (some t354)) else (some 100000))) else (some 100000)
set_option maxHeartbeats 8000000 in
set_option maxRecDepth 100000 in
theorem rate_time.calls (a0_0 : Bool) (a0_1 : Int) (a0_2 : Int) (r : Int) (w : World) (h : rate_time.f a0_0 a0_1 a0_2 = some r) :
  Calls Tryz.prog 127 #[.agg #[.bool a0_0, .int .i64 a0_1, .int .i64 a0_2]] w fun e w' => e = .returned (.int .i64 r) ∧ Below w.heap.size w w' := by
 have hu39 := Tryz.underlying39; have HB := Aside0.mk (Below.refl w.heap.size w); have H : (if a0_0 = true then ((rtt_Check.f a0_0 a0_1 a0_2).bind fun t353 => (if t353 = true then ((rtt_Mean.f a0_0 a0_1 a0_2).bind fun t354 => (some t354)) else (some 100000))) else (some 100000)) = some r := h; clear h
 by_cases c2 : a0_0 = true
 ·subst c2
  have H1 : ((rtt_Check.f true a0_1 a0_2).bind fun t353 => (if t353 = true then ((rtt_Mean.f true a0_1 a0_2).bind fun t354 => (some t354)) else (some 100000))) = some r := by rw [if_pos rfl] at H; exact H
  clear H; have H := H1; clear H1; replace H := Option.bind_eq_some_iff.mp H; obtain ⟨t353, A30, H⟩ := H; replace H : (if t353 = true then ((rtt_Mean.f true a0_1 a0_2).bind fun t354 => (some t354)) else (some 100000)) = some r := H; have A3 := Aside0.mk A30; clear A30
  by_cases c4 : t353 = true
  ·subst c4
   have H1 : ((rtt_Mean.f true a0_1 a0_2).bind fun t354 => (some t354)) = some r := by rw [if_pos rfl] at H; exact H
   clear H; have H := H1; clear H1; replace H := Option.bind_eq_some_iff.mp H; obtain ⟨t354, A50, H⟩ := H; replace H : (some t354) = some r := H; have A5 := Aside0.mk A50; clear A50; obtain rfl := Option.some.inj H
   go_enter Tryz.func127, Tryz.ntmps127
   go_wp2_with (first | ((with_reducible refine gate_dst (N := 1) rfl ?_); refine box_event ?hg (N := 1) ?hd (cs := #[.bool true, .int .i64 a0_1, .int .i64 a0_2]) (t := 39) ?hr ?_; (case hd => rfl); (case hg => rfl); (case hr => first | (go_simp; done) | (go_simp; rfl)); intro gb352 hg w6 hbox hb; have BK352 := Aside0.mk (hbox); obtain ⟨GW352, nHB⟩ := geA hg hb; have GE352 := GW352; replace HB := nHB; clear nHB; clear hb hbox hg; have hcz7_0 := czZ BK352 0 (.bool true); have hcz7_1 := czZ BK352 1 (.int .i64 a0_1); have hcz7_2 := czZ BK352 2 (.int .i64 a0_2); have hfz7_0 := blk_frozen BK352.out 0; have hfz7_1 := blk_frozen BK352.out 1; have hfz7_2 := blk_frozen BK352.out 2) | (go_at_call 66; (with_reducible refine (rtt_Check.calls true a0_1 a0_2 true _ A3.out).mono ?_); rintro e w8 ⟨rfl, hb⟩; replace BK352 := bdZ BK352 hb; replace HB := stA hb; clear hb; have hcz9_0 := czZ BK352 0 (.bool true); have hcz9_1 := czZ BK352 1 (.int .i64 a0_1); have hcz9_2 := czZ BK352 2 (.int .i64 a0_2); have hfz9_0 := blk_frozen BK352.out 0; have hfz9_1 := blk_frozen BK352.out 1; have hfz9_2 := blk_frozen BK352.out 2) | ((with_reducible refine gate_callee (f := 142) rfl ?_); refine goesLA_ (some 10) rfl rfl Tryz.func142 rfl #[.agg #[.bool true, .int .i64 a0_1, .int .i64 a0_2]] rfl ?_; (with_reducible refine (rtt_Mean.calls true a0_1 a0_2 t354 _ A5.out).mono ?_); rintro e w10 ⟨rfl, hb⟩; refine ⟨_, rfl, ?_⟩; replace BK352 := bdZ BK352 hb; replace HB := stA hb; clear hb))
   go_ret
   exact ⟨by first | rfl | (simp [errW_none, errW_some] <;> rfl) | (simp [*, errW_none, errW_some] <;> rfl), by repeat (first | (with_reducible first | exact HB.out | apply below_alloc | apply pw_below_drewN | apply below_drew1 | refine below_set ?_ GE352.out) | exact HB.out)⟩
  ·replace c4 := Bool.eq_false_iff.mpr c4
   subst c4
   have H1 : (some 100000) = some r := by rw [if_neg (show ¬ (false = true) by decide)] at H; exact H
   clear H; have H := H1; clear H1; obtain rfl := Option.some.inj H
   go_enter Tryz.func127, Tryz.ntmps127
   go_wp2_with (first | ((with_reducible refine gate_dst (N := 1) rfl ?_); refine box_event ?hg (N := 1) ?hd (cs := #[.bool true, .int .i64 a0_1, .int .i64 a0_2]) (t := 39) ?hr ?_; (case hd => rfl); (case hg => rfl); (case hr => first | (go_simp; done) | (go_simp; rfl)); intro gb352 hg w11 hbox hb; have BK352 := Aside0.mk (hbox); obtain ⟨GW352, nHB⟩ := geA hg hb; have GE352 := GW352; replace HB := nHB; clear nHB; clear hb hbox hg; have hcz12_0 := czZ BK352 0 (.bool true); have hcz12_1 := czZ BK352 1 (.int .i64 a0_1); have hcz12_2 := czZ BK352 2 (.int .i64 a0_2); have hfz12_0 := blk_frozen BK352.out 0; have hfz12_1 := blk_frozen BK352.out 1; have hfz12_2 := blk_frozen BK352.out 2) | (go_at_call 66; (with_reducible refine (rtt_Check.calls true a0_1 a0_2 false _ A3.out).mono ?_); rintro e w13 ⟨rfl, hb⟩; replace BK352 := bdZ BK352 hb; replace HB := stA hb; clear hb))
   go_ret
   exact ⟨by first | rfl | (simp [errW_none, errW_some] <;> rfl) | (simp [*, errW_none, errW_some] <;> rfl), by repeat (first | (with_reducible first | exact HB.out | apply below_alloc | apply pw_below_drewN | apply below_drew1 | refine below_set ?_ GE352.out) | exact HB.out)⟩
 ·replace c2 := Bool.eq_false_iff.mpr c2
  subst c2
  have H1 : (some 100000) = some r := by rw [if_neg (show ¬ (false = true) by decide)] at H; exact H
  clear H; have H := H1; clear H1; obtain rfl := Option.some.inj H
  go_enter Tryz.func127, Tryz.ntmps127
  go_wp2_with (first | ((with_reducible refine gate_dst (N := 1) rfl ?_); refine box_event ?hg (N := 1) ?hd (cs := #[.bool false, .int .i64 a0_1, .int .i64 a0_2]) (t := 39) ?hr ?_; (case hd => rfl); (case hg => rfl); (case hr => first | (go_simp; done) | (go_simp; rfl)); intro gb352 hg w14 hbox hb; have BK352 := Aside0.mk (hbox); obtain ⟨GW352, nHB⟩ := geA hg hb; have GE352 := GW352; replace HB := nHB; clear nHB; clear hb hbox hg; have hcz15_0 := czZ BK352 0 (.bool false); have hcz15_1 := czZ BK352 1 (.int .i64 a0_1); have hcz15_2 := czZ BK352 2 (.int .i64 a0_2); have hfz15_0 := blk_frozen BK352.out 0; have hfz15_1 := blk_frozen BK352.out 1; have hfz15_2 := blk_frozen BK352.out 2))
  go_ret
  exact ⟨by first | rfl | (simp [errW_none, errW_some] <;> rfl) | (simp [*, errW_none, errW_some] <;> rfl), by repeat (first | (with_reducible first | exact HB.out | apply below_alloc | apply pw_below_drewN | apply below_drew1 | refine below_set ?_ GE352.out) | exact HB.out)⟩

/-! ### rate_timeS: the time there and back: pure, behind function 127 -/
noncomputable def rate_timeS.f (has : Bool) (mean far : Int) : Option Int := Sp.need (Sp.I mean ∧ Sp.I far) (some (Sp.timeQ has mean far))
section
open Go.Proofs.YtfahbgkoldoflaaGreatDoor.Sp
theorem rate_timeS.eq {has : Bool} {mean far : Int} (h1 : I mean) (h2 : I far) : rate_timeS.f has mean far = some (timeQ has mean far) := need_pos ⟨h1, h2⟩
theorem rate_time.main {has : Bool} {mean far : Int} (h1 : I mean) (h2 : I far) : rate_time.f has mean far = some (timeQ has mean far) := by
 unfold rate_time.f rtt_Check.f rtt_Mean.f timeQ
 cases has
 ·simp
 ·simp only [if_true]
  by_cases a : mean ≥ 8
  ·by_cases b : mean ≤ 8589934592
   ·by_cases c : far ≥ 0
    ·have e : wrap64 (Int.tdiv mean 8) = mean / 8 := by rw [Int.tdiv_eq_ediv_of_nonneg (by omega), w64 (by omega)]
     by_cases d : far ≤ 4294967296
     ·simp [a, b, c, d, e]
     ·simp [a, b, c, d]
    ·have c2 : ¬ (0 ≤ far) := by omega
     simp [a, b, c2]
   ·simp [a, b]
  ·have a2 : ¬ (8 ≤ mean) := by omega
   simp [a2]
end
theorem rate_timeS.calls (a2_0 : Bool) (a2_1 a2_2 r : Int) (w : World) (h : rate_timeS.f a2_0 a2_1 a2_2 = some r) :
  Calls Tryz.prog 127 #[.agg #[.bool a2_0, .int .i64 a2_1, .int .i64 a2_2]] w fun e w' => e = .returned (.int .i64 r) ∧ Below w.heap.size w w' := by
 obtain ⟨⟨h1, h2⟩, h⟩ := Sp.need_some h; exact rate_time.calls a2_0 a2_1 a2_2 r w (by rw [rate_time.main h1 h2]; exact h)

/-! ### rate_Of: function 75 -/
noncomputable def rate_Of.f (a0 : Int) (a1 : Int) (a2_0 : Bool) (a2_1 : Int) (a2_2 : Int) (a3 : Bool) : Option (Int) := (rate_Gain.f a3).bind fun bt356 => ((rate_bounds_int_take.f 0 68719476736 a0).bind fun t358 => ((rate_bounds_int_take.f 1 65535 a1).bind fun t359 => ((rate_timeS.f a2_0 a2_1 a2_2).bind fun t360 => ((frac_FloorS.f (wrap64 (t358 * bt356.1)) (wrap64 (t359 * 1000000)) (wrap64 ((wrap64 (bt356.2 * 65536)) * t360))).bind fun bt361 => (if bt361.2 = 0 then (some (mx bt361.1 1)) else ((safe_Mul.f 68719476736 65535).bind fun t363 => (some t363)))))))
def rate_Of.T3 : Bool × List (List Nat × List Nat) := (true, [([], []), ([], []), ([0, 1], [0, 1]), ([], []), ([2, 3], [2, 3]), ([], []), ([], []), ([5, 6, 2], [5, 6]), ([7], [7]), ([], []), ([9], [9]), ([], []), ([11, 7], [11]), ([10, 12], [10, 12]), ([4, 8, 13, 12], [4, 8, 13]), ([14], [14]), ([15], [15]), ([15], [15]), ([16, 14, 0, 1, 2, 3, 4, 5, 6, 7, 8, 9, 10, 11, 12, 13, 14, 15, 16], [16]), ([17, 18, 0, 1, 2, 3, 4, 5, 6, 7, 8, 9, 10, 11, 12, 13, 14, 15, 16, 17, 18], [17])])
def rate_Of.B3 : List Nat := [0, 0, 3, 0, 15, 0, 0, 103, 231, 0, 512, 0, 2279, 7911, 16383, 32767, 65535, 65535, 131071, 524287]
theorem rate_Of.tab3 : rtab .any (opsOf Tryz.f75 3) = rate_Of.T3 := by kernel_rfl
theorem rate_Of.bits3 : waitsOk rate_Of.T3.2 rate_Of.B3 = true := by kernel_rfl
set_option maxHeartbeats 8000000 in
set_option maxRecDepth 100000 in
theorem rate_Of.calls (a0 : Int) (a1 : Int) (a2_0 : Bool) (a2_1 : Int) (a2_2 : Int) (a3 : Bool) (r : Int) (w : World) (h : rate_Of.f a0 a1 a2_0 a2_1 a2_2 a3 = some r) :
  Calls Tryz.prog 75 #[.int .i64 a0, .int .i64 a1, .agg #[.bool a2_0, .int .i64 a2_1, .int .i64 a2_2], .bool a3] w fun e w' => e = .returned (.int .i64 r) ∧ Below w.heap.size w w' := by
 have hmf : ∀ (fn : Fn) (first cap : Array Value) (w : World), (Instr.makeFunc fn first cap).run Tryz.prog w = .ok (.func fn first cap) w := fun _ _ _ _ => rfl
 have hu39 := Tryz.underlying39; have hu173 := Tryz.underlying173; have HB := Aside0.mk (Below.refl w.heap.size w); have H : ((rate_Gain.f a3).bind fun bt356 => ((rate_bounds_int_take.f 0 68719476736 a0).bind fun t358 => ((rate_bounds_int_take.f 1 65535 a1).bind fun t359 => ((rate_timeS.f a2_0 a2_1 a2_2).bind fun t360 => ((frac_FloorS.f (wrap64 (t358 * bt356.1)) (wrap64 (t359 * 1000000)) (wrap64 ((wrap64 (bt356.2 * 65536)) * t360))).bind fun bt361 => (if bt361.2 = 0 then (some (mx bt361.1 1)) else ((safe_Mul.f 68719476736 65535).bind fun t363 => (some t363)))))))) = some r := h; clear h; replace H := Option.bind_eq_some_iff.mp H; obtain ⟨⟨t356, t357⟩, A50, H⟩ := H; (try dsimp only at H); have A5 := Aside0.mk A50; clear A50; replace H := Option.bind_eq_some_iff.mp H; obtain ⟨t358, A60, H⟩ := H; (try dsimp only at H); have A6 := Aside0.mk A60; clear A60; replace H := Option.bind_eq_some_iff.mp H; obtain ⟨t359, A70, H⟩ := H; (try dsimp only at H); have A7 := Aside0.mk A70; clear A70; replace H := Option.bind_eq_some_iff.mp H; obtain ⟨t360, A80, H⟩ := H; (try dsimp only at H); have A8 := Aside0.mk A80; clear A80; replace H := Option.bind_eq_some_iff.mp H; obtain ⟨⟨t361, t362⟩, A90, H⟩ := H; replace H : (if t362 = 0 then (some (mx t361 1)) else ((safe_Mul.f 68719476736 65535).bind fun t363 => (some t363))) = some r := H; have A9 := Aside0.mk A90; clear A90
 go_enter Tryz.func75, Tryz.ntmps75
 try go_wp2_with (first | ((with_reducible refine gate_dst (N := 6) rfl ?_); refine box_event ?hg (N := 6) ?hd (cs := #[.bool a2_0, .int .i64 a2_1, .int .i64 a2_2]) (t := 39) ?hr ?_; (case hd => rfl); (case hg => rfl); (case hr => first | (go_simp; done) | (go_simp; rfl)); intro gb355 hg w12 hbox hb; have BK355 := Aside0.mk (hbox); obtain ⟨GW355, nHB⟩ := geA hg hb; have GE355 := GW355; replace HB := nHB; clear nHB; clear hb hbox hg) | ((with_reducible refine gate_callee (f := 126) rfl ?_); refine goesLA_ (some 21) rfl rfl Tryz.func126 rfl #[.bool a3] rfl ?_; (with_reducible refine (rate_Gain.calls a3 t356 t357 _ A5.out).mono ?_); rintro e w' ⟨rfl, ⟨nd, rfl⟩⟩; refine ⟨_, rfl, ?_⟩))
 (try (rw [drewN_self w12]; generalize hq_ : World.drewN w12 _ = w12; have n0_ : Aside0 (w12.heap[gb355]? = some (.cells #[.bool a2_0, .int .i64 a2_1, .int .i64 a2_2] 39 (0, 0))) := ⟨by rw [← hq_]; exact BK355.out⟩; have n1_ : Aside0 (Below w.heap.size w w12) := ⟨by rw [← hq_]; exact (by repeat (first | (with_reducible first | exact HB.out | apply below_alloc | apply pw_below_drewN | apply below_drew1 | refine below_set ?_ GE355.out) | exact HB.out))⟩; clear BK355 HB hq_; have BK355 := n0_; have HB := n1_; clear n0_ n1_))
 replace BK355 := Aside0.mk (blk_drew BK355.out); replace HB := Aside0.mk (below_drew1 HB.out); refine start_ (n := 20) (S := fun w' => w'.cell? ⟨gb355, 0, none⟩ = some (.bool a2_0) ∧ w'.cell? ⟨gb355, 1, none⟩ = some (.int .i64 a2_1) ∧ w'.cell? ⟨gb355, 2, none⟩ = some (.int .i64 a2_2)) (ds := []) #[N,N,N,N,N,N,N,N,N,N,N,N,N,N,N,N,N,N,N,N] (by kernel_rfl) rfl rfl ⟨(blk_cell BK355.out 0).trans rfl, (blk_cell BK355.out 1).trans rfl, (blk_cell BK355.out 2).trans rfl⟩ (fun hHeld => ?_); refine with_tabW rate_Of.tab3 rate_Of.bits3 (fun HT_ HW_ => ?_)
 generalize w12.drew = w13 at BK355 HB hHeld ⊢
 refine pureA_ (i := 0) (N := some 25) #[Y,N,N,N,N,N,N,N,N,N,N,N,N,N,N,N,N,N,N,N] rfl rfl (any_of HT_.out (by kernel_rfl)) ?_
 refine pureA_ (i := 1) (N := some 26) #[Y,Y,N,N,N,N,N,N,N,N,N,N,N,N,N,N,N,N,N,N] rfl rfl (any_of HT_.out (by kernel_rfl)) ?_
 refine pureA_ (i := 3) (N := some 28) #[Y,Y,N,Y,N,N,N,N,N,N,N,N,N,N,N,N,N,N,N,N] rfl rfl (any_of HT_.out (by kernel_rfl)) ?_
 refine pureA_ (i := 5) (N := some 30) #[Y,Y,N,Y,N,Y,N,N,N,N,N,N,N,N,N,N,N,N,N,N] rfl rfl (any_of HT_.out (by kernel_rfl)) ?_
 refine pureA_ (i := 6) (N := some 31) #[Y,Y,N,Y,N,Y,Y,N,N,N,N,N,N,N,N,N,N,N,N,N] rfl rfl (any_of HT_.out (by kernel_rfl)) ?_
 refine pureA_ (i := 9) (N := some 34) #[Y,Y,N,Y,N,Y,Y,N,N,Y,N,N,N,N,N,N,N,N,N,N] rfl rfl (any_of HT_.out (by kernel_rfl)) ?_
 refine pureA_ (i := 10) (N := some 35) #[Y,Y,N,Y,N,Y,Y,N,N,Y,Y,N,N,N,N,N,N,N,N,N] rfl rfl (any_of HT_.out (by kernel_rfl)) ?_
 refine take_ (i := 11) (N := some 36) (v := ?_) (a' := ?_) #[Y,Y,N,Y,N,Y,Y,N,N,Y,Y,Y,N,N,N,N,N,N,N,N] rfl rfl (take_ofW HT_.out HW_.out (by kernel_rfl)) (fun _ _ _ h => h) (Or.inl ⟨by rfl, ?_⟩) hHeld ?_ ?_; rotate_left
 ·rintro w' ⟨s0, s1, s2⟩; go_simp
  with_reducible rfl
 rotate_left
 ·simp only [Act.put, sA, sB, sC, i64_w, i32_w]
  rfl
 refine one_ (i := 2) (N := some 27) #[Y,Y,Y,Y,N,Y,Y,N,N,Y,Y,Y,N,N,N,N,N,N,N,N] rfl rfl (one_of HT_.out (by kernel_rfl)) (by decide) (fun K hK => ?_); refine goesF_ Tryz.func125 rfl #[.agg #[.int .i64 0, .int .i64 68719476736], .int .i64 a0] (by rfl) rfl rfl ?_
 with_reducible refine (rate_bounds_int_take.calls 0 68719476736 a0 t358 _ A6.out).mono ?_
 rintro e w14 ⟨rfl, hb⟩; refine ⟨_, rfl, ?_⟩; replace BK355 := bdZ BK355 hb; replace HB := stA hb; clear hb; refine hK.out _ _ ⟨(blk_cell BK355.out 0).trans rfl, (blk_cell BK355.out 1).trans rfl, (blk_cell BK355.out 2).trans rfl⟩ (fun hHeld => ?_); clear hK K; refine normA_ (some 27) ?_
 refine pureA_ (i := 4) (N := some 29) #[Y,Y,Y,Y,Y,Y,Y,N,N,Y,Y,Y,N,N,N,N,N,N,N,N] rfl rfl (any_of HT_.out (by kernel_rfl)) ?_
 refine one_ (i := 7) (N := some 32) #[Y,Y,Y,Y,Y,Y,Y,Y,N,Y,Y,Y,N,N,N,N,N,N,N,N] rfl rfl (one_of HT_.out (by kernel_rfl)) (by decide) (fun K hK => ?_); refine goesF_ Tryz.func125 rfl #[.agg #[.int .i64 1, .int .i64 65535], .int .i64 a1] (by rfl) rfl rfl ?_
 with_reducible refine (rate_bounds_int_take.calls 1 65535 a1 t359 _ A7.out).mono ?_
 rintro e w15 ⟨rfl, hb⟩; refine ⟨_, rfl, ?_⟩; replace BK355 := bdZ BK355 hb; replace HB := stA hb; clear hb; refine hK.out _ _ ⟨(blk_cell BK355.out 0).trans rfl, (blk_cell BK355.out 1).trans rfl, (blk_cell BK355.out 2).trans rfl⟩ (fun hHeld => ?_); clear hK K; refine normA_ (some 32) ?_
 refine pureA_ (i := 8) (N := some 33) #[Y,Y,Y,Y,Y,Y,Y,Y,Y,Y,Y,Y,N,N,N,N,N,N,N,N] rfl rfl (any_of HT_.out (by kernel_rfl)) ?_
 refine one_ (i := 12) (N := some 37) #[Y,Y,Y,Y,Y,Y,Y,Y,Y,Y,Y,Y,Y,N,N,N,N,N,N,N] rfl rfl (one_of HT_.out (by kernel_rfl)) (by decide) (fun K hK => ?_); refine goesA_ Tryz.func127 rfl #[.agg #[.bool a2_0, .int .i64 a2_1, .int .i64 a2_2]] (by rfl) rfl rfl ?_
 with_reducible refine (rate_timeS.calls a2_0 a2_1 a2_2 t360 _ A8.out).mono ?_
 rintro e w16 ⟨rfl, hb⟩; refine ⟨_, rfl, ?_⟩; replace BK355 := bdZ BK355 hb; replace HB := stA hb; clear hb; refine hK.out _ _ ⟨(blk_cell BK355.out 0).trans rfl, (blk_cell BK355.out 1).trans rfl, (blk_cell BK355.out 2).trans rfl⟩ (fun hHeld => ?_); clear hK K; refine normA_ (some 37) ?_
 refine pureA_ (i := 13) (N := some 38) #[Y,Y,Y,Y,Y,Y,Y,Y,Y,Y,Y,Y,Y,Y,N,N,N,N,N,N] rfl rfl (any_of HT_.out (by kernel_rfl)) ?_
 refine one_ (i := 14) (N := some 39) #[Y,Y,Y,Y,Y,Y,Y,Y,Y,Y,Y,Y,Y,Y,Y,N,N,N,N,N] rfl rfl (one_of HT_.out (by kernel_rfl)) (by decide) (fun K hK => ?_); refine goesA_ Tryz.func45 rfl #[.int .i64 (wrap64 (t358 * t356)), .int .i64 (wrap64 (t359 * 1000000)), .int .i64 (wrap64 ((wrap64 (t357 * 65536)) * t360))] (by rfl) rfl rfl ?_
 with_reducible refine (frac_FloorS.calls (wrap64 (t358 * t356)) (wrap64 (t359 * 1000000)) (wrap64 ((wrap64 (t357 * 65536)) * t360)) t361 t362 _ A9.out).mono ?_
 rintro e w17 ⟨rfl, hb⟩; refine ⟨_, rfl, ?_⟩; replace BK355 := bdZ BK355 hb; replace HB := stA hb; clear hb; refine hK.out _ _ ⟨(blk_cell BK355.out 0).trans rfl, (blk_cell BK355.out 1).trans rfl, (blk_cell BK355.out 2).trans rfl⟩ (fun hHeld => ?_); clear hK K; refine normA_ (some 39) ?_
 refine pureA_ (i := 15) (N := some 24) #[Y,Y,Y,Y,Y,Y,Y,Y,Y,Y,Y,Y,Y,Y,Y,Y,N,N,N,N] rfl rfl (any_of HT_.out (by kernel_rfl)) ?_
 refine pureA_ (i := 16) (N := some 40) #[Y,Y,Y,Y,Y,Y,Y,Y,Y,Y,Y,Y,Y,Y,Y,Y,Y,N,N,N] rfl rfl (any_of HT_.out (by kernel_rfl)) ?_
 refine pureA_ (i := 17) (N := some 41) #[Y,Y,Y,Y,Y,Y,Y,Y,Y,Y,Y,Y,Y,Y,Y,Y,Y,Y,N,N] rfl rfl (any_of HT_.out (by kernel_rfl)) ?_
 refine pureA_ (i := 18) (N := some 13) #[Y,Y,Y,Y,Y,Y,Y,Y,Y,Y,Y,Y,Y,Y,Y,Y,Y,Y,Y,N] rfl rfl (any_of HT_.out (by kernel_rfl)) ?_
 refine pureA_ (i := 19) (N := some 14) #[Y,Y,Y,Y,Y,Y,Y,Y,Y,Y,Y,Y,Y,Y,Y,Y,Y,Y,Y,Y] rfl rfl (any_of HT_.out (by kernel_rfl)) ?_
 refine done_ (done_of HT_.out (by kernel_rfl)) ?_
 by_cases c10 : t362 = 0
 ·rw [if_pos c10] at H
  have c10b0 : (t362 == 0) = true := beq_iff_eq.mpr c10; have c10b1 : (t362 != 0) = false := bne_eq_false_iff_eq.mpr c10; clear c10
  obtain ⟨ji11, hji11⟩ : ∃ j_ : Int, (mx t361 1) = j_ := ⟨_, rfl⟩
  replace H : (some ji11) = some r := by first | (rw [hji11] at H; exact H) | (simp only [hji11] at H ⊢; exact H)
  (try rw [hji11] at A5)
  (try rw [hji11] at A6)
  (try rw [hji11] at A7)
  (try rw [hji11] at A8)
  (try rw [hji11] at A9)
  (try (have hji11l : 1 ≤ ji11 := by (rw [← hji11]; unfold mx; (repeat' split) <;> omega)))
  (try (have hji11m : 0 ≤ ji11 := by omega))
  have hji11_ : (if t361 < 1 then 1 else t361) = ji11 := hji11; obtain rfl := Option.some.inj H
  try go_wp2
  go_ret
  exact ⟨by first | rfl | (simp [errW_none, errW_some] <;> rfl) | (simp only [← hji11]; first | rfl | (simp [errW_none, errW_some] <;> rfl)) | (simp [*, errW_none, errW_some] <;> rfl), by repeat (first | (with_reducible first | exact HB.out | apply below_alloc | apply pw_below_drewN | apply below_drew1 | refine below_set ?_ GE355.out) | exact HB.out)⟩
 ·rw [if_neg c10] at H
  have c10b0 : (t362 == 0) = false := beq_eq_false_iff_ne.mpr c10; have c10b1 : (t362 != 0) = true := bne_iff_ne.mpr c10; replace H := Option.bind_eq_some_iff.mp H; obtain ⟨t363, A180, H⟩ := H; replace H : (some t363) = some r := H; have A18 := Aside0.mk A180; clear A180; obtain rfl := Option.some.inj H
  try go_wp2_with (first | ((with_reducible refine gate_callee (f := 74) rfl ?_); refine goesLA_ (some 44) rfl rfl Tryz.func74 rfl #[.int .i64 68719476736, .int .i64 65535] rfl ?_; (with_reducible refine (safe_Mul.calls 68719476736 65535 t363 _ A18.out).mono ?_); rintro e w25 ⟨rfl, hb⟩; refine ⟨_, rfl, ?_⟩; replace BK355 := bdZ BK355 hb; replace HB := stA hb; clear hb))
  go_ret
  exact ⟨by first | rfl | (simp [errW_none, errW_some] <;> rfl) | (simp [*, errW_none, errW_some] <;> rfl), by repeat (first | (with_reducible first | exact HB.out | apply below_alloc | apply pw_below_drewN | apply below_drew1 | refine below_set ?_ GE355.out) | exact HB.out)⟩

/-! ### rate_OfS: a rate: pure, behind function 75 -/
noncomputable def rate_OfS.f (a b : Int) (has : Bool) (mean far : Int) (slow : Bool) : Option Int := Sp.need (Sp.I a ∧ Sp.I b ∧ Sp.I mean ∧ Sp.I far) (some (Sp.rateQ a b (Sp.timeQ has mean far) slow))
section
open Go.Proofs.YtfahbgkoldoflaaGreatDoor.Sp
theorem rate_OfS.eq {a b : Int} {has : Bool} {mean far : Int} {slow : Bool} (h1 : I a) (h2 : I b) (h3 : I mean) (h4 : I far) : rate_OfS.f a b has mean far slow = some (rateQ a b (timeQ has mean far) slow) := need_pos ⟨h1, h2, h3, h4⟩
theorem rate_Of.main {a b : Int} {has : Bool} {mean far : Int} {slow : Bool} (h1 : I a) (h2 : I b) (h3 : I mean) (h4 : I far) : rate_Of.f a b has mean far slow = some (rateQ a b (timeQ has mean far) slow) := by
 unfold rate_Of.f rate_Gain.f rate_bounds_int_take.f
 have e0 : ∀ x l u : Int, l ≤ u → mn (mx x l) u = clamp x l u := by
  intro x l u h; unfold mn mx clamp; split <;> split <;> (try split) <;> omega
 have et := timeQ_bd has mean far; have hI := rate_I a b et.1 et.2 slow; have c1 := clamp_bd (a := a) (low := 0) (high := 68719476736) (by omega); have c2 := clamp_bd (a := b) (low := 1) (high := 65535) (by omega)
 rw [rate_timeS.eq h3 h4]
 simp only [Option.bind_some, e0 _ 0 68719476736 (by omega), e0 _ 1 65535 (by omega)]
 have fin : ∀ n d : Int, n = (if slow = true then 2 else 5) → d = (if slow = true then 1 else 4) → ((frac_FloorS.f (wrap64 (clamp a 0 68719476736 * n)) (wrap64 (clamp b 1 65535 * 1000000)) (wrap64 (wrap64 (d * 65536) * timeQ has mean far))).bind fun bt => if bt.2 = 0 then some (mx bt.1 1) else (safe_Mul.f 68719476736 65535).bind fun t => some t) = some (rateQ a b (timeQ has mean far) slow) := by
  intro n d hn hd
  have n1 : 2 ≤ n ∧ n ≤ 5 := by rw [hn]; cases slow <;> simp
  have d1 : 1 ≤ d ∧ d ≤ 4 := by rw [hd]; cases slow <;> simp
  have m1 : 0 ≤ clamp a 0 68719476736 * n ∧ clamp a 0 68719476736 * n ≤ 68719476736 * 5 := mul_le c1.1 c1.2 (by omega) n1.2
  have eN : clamp a 0 68719476736 * n * (clamp b 1 65535 * 1000000) = rateN a b slow := by rw [hn]; rfl
  have eD : d * 65536 * timeQ has mean far = rateD (timeQ has mean far) slow := by rw [hd]; rfl
  have dD := rateD_bd et.1 et.2 slow
  rw [w64 (x := clamp a 0 68719476736 * n) (by omega), w64 (x := clamp b 1 65535 * 1000000) (by omega), w64 (x := d * 65536) (by omega), eD, w64 (by omega), frac_FloorS.eq (by omega) (by omega) (by omega), floorQ_in (by omega) (by rw [eN]; omega), eN]
  simp only [Option.bind_some, if_true]
  unfold rateQ max1 mx
  rfl
 by_cases s : slow = true
 ·simp only [if_pos s, Option.bind_some]; exact fin 2 1 (by rw [if_pos s]) (by rw [if_pos s])
 ·simp only [if_neg s, Option.bind_some]; exact fin 5 4 (by rw [if_neg s]) (by rw [if_neg s])
end
theorem rate_OfS.calls (a0 a1 : Int) (a2_0 : Bool) (a2_1 a2_2 : Int) (a3 : Bool) (r : Int) (w : World) (h : rate_OfS.f a0 a1 a2_0 a2_1 a2_2 a3 = some r) :
  Calls Tryz.prog 75 #[.int .i64 a0, .int .i64 a1, .agg #[.bool a2_0, .int .i64 a2_1, .int .i64 a2_2], .bool a3] w fun e w' => e = .returned (.int .i64 r) ∧ Below w.heap.size w w' := by
 obtain ⟨⟨h1, h2, h3, h4⟩, h⟩ := Sp.need_some h; exact rate_Of.calls a0 a1 a2_0 a2_1 a2_2 a3 r w (by rw [rate_Of.main h1 h2 h3 h4]; exact h)

/-! ### guide_Idle: function 77 -/
noncomputable def guide_Idle.f (a0 : Int) (a1 : Int) (a2 : Int) (a3 : Int) (a4_0 : Int) (a4_1 : Int) (a4_2 : Int) (a4_3 : Int) (a4_4 : Int) (a4_5 : Int) (a4_6 : Int) : Option (Int) := (safe_SubS.f a2 a1).bind fun t365 => (if t365 ≤ a3 then (some a0) else ((guide_First.f a4_0 a4_1 a4_2 a4_3 a4_4 a4_5 a4_6).bind fun t366 => (some (mx (mn a0 t366) 131072))))
set_option maxHeartbeats 8000000 in
set_option maxRecDepth 100000 in
theorem guide_Idle.calls (a0 : Int) (a1 : Int) (a2 : Int) (a3 : Int) (a4_0 : Int) (a4_1 : Int) (a4_2 : Int) (a4_3 : Int) (a4_4 : Int) (a4_5 : Int) (a4_6 : Int) (r : Int) (w : World) (h : guide_Idle.f a0 a1 a2 a3 a4_0 a4_1 a4_2 a4_3 a4_4 a4_5 a4_6 = some r) :
  Calls Tryz.prog 77 #[.int .i64 a0, .int .i64 a1, .int .i64 a2, .int .i64 a3, .agg #[.int .i64 a4_0, .int .i64 a4_1, .int .i64 a4_2, .int .i64 a4_3, .int .i64 a4_4, .int .i64 a4_5, .int .i64 a4_6]] w fun e w' => e = .returned (.int .i64 r) ∧ Below w.heap.size w w' := by
 have hu33 := Tryz.underlying33; have HB := Aside0.mk (Below.refl w.heap.size w); have H : ((safe_SubS.f a2 a1).bind fun t365 => (if t365 ≤ a3 then (some a0) else ((guide_First.f a4_0 a4_1 a4_2 a4_3 a4_4 a4_5 a4_6).bind fun t366 => (some (mx (mn a0 t366) 131072))))) = some r := h; clear h; replace H := Option.bind_eq_some_iff.mp H; obtain ⟨t365, A60, H⟩ := H; replace H : (if t365 ≤ a3 then (some a0) else ((guide_First.f a4_0 a4_1 a4_2 a4_3 a4_4 a4_5 a4_6).bind fun t366 => (some (mx (mn a0 t366) 131072)))) = some r := H; have A6 := Aside0.mk A60; clear A60
 by_cases c7 : t365 ≤ a3
 ·rw [if_pos c7] at H
  have c7b0 : decide (t365 ≤ a3) = true := decide_eq_true c7; clear c7; obtain rfl := Option.some.inj H
  go_enter Tryz.func77, Tryz.ntmps77
  go_wp2_with (first | ((with_reducible refine gate_dst (N := 9) rfl ?_); refine box_event ?hg (N := 9) ?hd (cs := #[.int .i64 a4_0, .int .i64 a4_1, .int .i64 a4_2, .int .i64 a4_3, .int .i64 a4_4, .int .i64 a4_5, .int .i64 a4_6]) (t := 33) ?hr ?_; (case hd => rfl); (case hg => rfl); (case hr => first | (go_simp; done) | (go_simp; rfl)); intro gb364 hg w8 hbox hb; have BK364 := Aside0.mk (hbox); obtain ⟨GW364, nHB⟩ := geA hg hb; have GE364 := GW364; replace HB := nHB; clear nHB; clear hb hbox hg) | ((with_reducible refine gate_callee (f := 55) rfl ?_); refine goesLA_ (some 13) rfl rfl Tryz.func55 rfl #[.int .i64 a2, .int .i64 a1] rfl ?_; (with_reducible refine (safe_SubS.calls a2 a1 t365 _ A6.out).mono ?_); rintro e w9 ⟨rfl, hb⟩; refine ⟨_, rfl, ?_⟩; replace BK364 := bdZ BK364 hb; replace HB := stA hb; clear hb))
  go_ret
  exact ⟨by first | rfl | (simp [errW_none, errW_some] <;> rfl) | (simp [*, errW_none, errW_some] <;> rfl), by repeat (first | (with_reducible first | exact HB.out | apply below_alloc | apply pw_below_drewN | apply below_drew1 | refine below_set ?_ GE364.out) | exact HB.out)⟩
 ·rw [if_neg c7] at H
  have c7b0 : decide (t365 ≤ a3) = false := decide_eq_false c7; clear c7; replace H := Option.bind_eq_some_iff.mp H; obtain ⟨t366, A100, H⟩ := H; replace H : (some (mx (mn a0 t366) 131072)) = some r := H; have A10 := Aside0.mk A100; clear A100
  obtain ⟨ji11, hji11⟩ : ∃ j_ : Int, (mn a0 t366) = j_ := ⟨_, rfl⟩
  replace H : (some (mx (ji11) 131072)) = some r := by first | (rw [hji11] at H; exact H) | (simp only [hji11] at H ⊢; exact H)
  (try rw [hji11] at A6)
  (try rw [hji11] at A10)
  have hji11_ : (if t366 < a0 then t366 else a0) = ji11 := hji11
  obtain ⟨ji12, hji12⟩ : ∃ j_ : Int, (mx (ji11) 131072) = j_ := ⟨_, rfl⟩
  replace H : (some ji12) = some r := by first | (rw [hji12] at H; exact H) | (simp only [hji12] at H ⊢; exact H)
  (try rw [hji12] at A6)
  (try rw [hji12] at A10)
  have hji12_ : (if (ji11) < 131072 then 131072 else (ji11)) = ji12 := hji12; obtain rfl := Option.some.inj H
  go_enter Tryz.func77, Tryz.ntmps77
  go_wp2_with (first | ((with_reducible refine gate_dst (N := 9) rfl ?_); refine box_event ?hg (N := 9) ?hd (cs := #[.int .i64 a4_0, .int .i64 a4_1, .int .i64 a4_2, .int .i64 a4_3, .int .i64 a4_4, .int .i64 a4_5, .int .i64 a4_6]) (t := 33) ?hr ?_; (case hd => rfl); (case hg => rfl); (case hr => first | (go_simp; done) | (go_simp; rfl)); intro gb364 hg w13 hbox hb; have BK364 := Aside0.mk (hbox); obtain ⟨GW364, nHB⟩ := geA hg hb; have GE364 := GW364; replace HB := nHB; clear nHB; clear hb hbox hg) | ((with_reducible refine gate_callee (f := 55) rfl ?_); refine goesLA_ (some 13) rfl rfl Tryz.func55 rfl #[.int .i64 a2, .int .i64 a1] rfl ?_; (with_reducible refine (safe_SubS.calls a2 a1 t365 _ A6.out).mono ?_); rintro e w14 ⟨rfl, hb⟩; refine ⟨_, rfl, ?_⟩; replace BK364 := bdZ BK364 hb; replace HB := stA hb; clear hb; have hcz15_0 := czZ BK364 0 (.int .i64 a4_0); have hcz15_1 := czZ BK364 1 (.int .i64 a4_1); have hcz15_2 := czZ BK364 2 (.int .i64 a4_2); have hcz15_3 := czZ BK364 3 (.int .i64 a4_3); have hcz15_4 := czZ BK364 4 (.int .i64 a4_4); have hcz15_5 := czZ BK364 5 (.int .i64 a4_5); have hcz15_6 := czZ BK364 6 (.int .i64 a4_6); have hfz15_0 := blk_frozen BK364.out 0; have hfz15_1 := blk_frozen BK364.out 1; have hfz15_2 := blk_frozen BK364.out 2; have hfz15_3 := blk_frozen BK364.out 3; have hfz15_4 := blk_frozen BK364.out 4; have hfz15_5 := blk_frozen BK364.out 5; have hfz15_6 := blk_frozen BK364.out 6) | ((with_reducible refine gate_callee (f := 26) rfl ?_); refine goesLA_ (some 19) rfl rfl Tryz.func26 rfl #[.agg #[.int .i64 a4_0, .int .i64 a4_1, .int .i64 a4_2, .int .i64 a4_3, .int .i64 a4_4, .int .i64 a4_5, .int .i64 a4_6]] rfl ?_; (with_reducible refine (guide_First.calls a4_0 a4_1 a4_2 a4_3 a4_4 a4_5 a4_6 t366 _ A10.out).mono ?_); rintro e w16 ⟨rfl, hb⟩; refine ⟨_, rfl, ?_⟩; replace BK364 := bdZ BK364 hb; replace HB := stA hb; clear hb))
  go_ret
  exact ⟨by first | rfl | (simp [errW_none, errW_some] <;> rfl) | (simp only [← hji11, ← hji12]; first | rfl | (simp [errW_none, errW_some] <;> rfl)) | (simp [*, errW_none, errW_some] <;> rfl), by repeat (first | (with_reducible first | exact HB.out | apply below_alloc | apply pw_below_drewN | apply below_drew1 | refine below_set ?_ GE364.out) | exact HB.out)⟩

/-! ### epoch_Shift: function 128 -/
noncomputable def epoch_Shift.f (a0_0 : Bool) (a0_1 : Int) (a0_2 : Int) (a0_3 : Int) (a0_4 : Int) (a0_5 : Int) (a1 : Int) : Option (Bool × Int × Int × Int × Int × Int) := if a0_0 = true then (if a1 > 0 then ((safe_Add.f a0_1 a1).bind fun t369 => (some (a0_0, mn t369 1099511627776, a0_2, a0_3, a0_4, a0_5))) else (some (a0_0, a0_1, a0_2, a0_3, a0_4, a0_5))) else (some (a0_0, a0_1, a0_2, a0_3, a0_4, a0_5))
set_option maxHeartbeats 8000000 in
set_option maxRecDepth 100000 in
theorem epoch_Shift.calls (a0_0 : Bool) (a0_1 : Int) (a0_2 : Int) (a0_3 : Int) (a0_4 : Int) (a0_5 : Int) (a1 : Int) (r1 : Bool) (r2 : Int) (r3 : Int) (r4 : Int) (r5 : Int) (r6 : Int) (w : World) (h : epoch_Shift.f a0_0 a0_1 a0_2 a0_3 a0_4 a0_5 a1 = some (r1, r2, r3, r4, r5, r6)) :
  Calls Tryz.prog 128 #[.agg #[.bool a0_0, .int .i64 a0_1, .int .i64 a0_2, .int .i64 a0_3, .int .i64 a0_4, .int .i64 a0_5], .int .i64 a1] w fun e w' => e = .returned (.agg #[.bool r1, .int .i64 r2, .int .i64 r3, .int .i64 r4, .int .i64 r5, .int .i64 r6]) ∧ Below w.heap.size w w' := by
 have hu25 := Tryz.underlying25; have HB := Aside0.mk (Below.refl w.heap.size w); have H : (if a0_0 = true then (if a1 > 0 then ((safe_Add.f a0_1 a1).bind fun t369 => (some (a0_0, mn t369 1099511627776, a0_2, a0_3, a0_4, a0_5))) else (some (a0_0, a0_1, a0_2, a0_3, a0_4, a0_5))) else (some (a0_0, a0_1, a0_2, a0_3, a0_4, a0_5))) = some (r1, r2, r3, r4, r5, r6) := h; clear h
 by_cases c3 : a0_0 = true
 ·subst c3
  have H1 : (if a1 > 0 then ((safe_Add.f a0_1 a1).bind fun t369 => (some (true, mn t369 1099511627776, a0_2, a0_3, a0_4, a0_5))) else (some (true, a0_1, a0_2, a0_3, a0_4, a0_5))) = some (r1, r2, r3, r4, r5, r6) := by rw [if_pos rfl] at H; exact H
  clear H; have H := H1; clear H1
  by_cases c4 : a1 > 0
  ·rw [if_pos c4] at H
   have c4b0 : decide (0 < a1) = true := decide_eq_true c4; clear c4; replace H := Option.bind_eq_some_iff.mp H; obtain ⟨t369, A50, H⟩ := H; replace H : (some (true, mn t369 1099511627776, a0_2, a0_3, a0_4, a0_5)) = some (r1, r2, r3, r4, r5, r6) := H; have A5 := Aside0.mk A50; clear A50
   obtain ⟨ji6, hji6⟩ : ∃ j_ : Int, (mn t369 1099511627776) = j_ := ⟨_, rfl⟩
   replace H : (some (true, ji6, a0_2, a0_3, a0_4, a0_5)) = some (r1, r2, r3, r4, r5, r6) := by first | (rw [hji6] at H; exact H) | (simp only [hji6] at H ⊢; exact H)
   (try rw [hji6] at A5)
   (try (have hji6h : ji6 ≤ 1099511627776 := by (rw [← hji6]; unfold mn; (repeat' split) <;> omega)))
   (try (have hji6g : ji6 ≤ 64 := by omega))
   have hji6_ : (if 1099511627776 < t369 then 1099511627776 else t369) = ji6 := hji6; simp only [Option.some.injEq, Prod.mk.injEq] at H; obtain ⟨rfl, rfl, rfl, rfl, rfl, rfl⟩ := H
   go_enter Tryz.func128, Tryz.ntmps128
   go_wp2_with (first | ((with_reducible refine gate_dst (N := 2) rfl ?_); refine box_event ?hg (N := 2) ?hd (cs := #[.bool true, .int .i64 a0_1, .int .i64 a0_2, .int .i64 a0_3, .int .i64 a0_4, .int .i64 a0_5]) (t := 25) ?hr ?_; (case hd => rfl); (case hg => rfl); (case hr => first | (go_simp; done) | (go_simp; rfl)); intro gb367 hg w7 hbox hb; have BK367 := Aside0.mk (hbox); obtain ⟨GW367, nHB⟩ := geA hg hb; have GE367 := GW367; replace HB := nHB; clear nHB; clear hb hbox hg) | ((with_reducible refine gate_dst (N := 4) rfl ?_); refine box_event ?hg (N := 4) ?hd (cs := #[.bool false, .int .i64 0, .int .i64 0, .int .i64 0, .int .i64 0, .int .i64 0]) (t := 25) ?hr ?_; (case hd => rfl); (case hg => rfl); (case hr => first | (go_simp; done) | (go_simp; rfl)); intro gb368 hg w8 hbox hb; have BK368 := Aside0.mk (hbox); obtain ⟨GW368, nHB⟩ := geA hg hb; have GE368 := GW368; obtain ⟨NB367_368, NB368_367, nBK⟩ := nbA BK367 hg hb; replace BK367 := nBK; clear nBK; replace HB := nHB; clear nHB; clear hb hbox hg; have hnb9 := NB367_368.out; have hnc9 := NB368_367.out; have hcz10_0 := czZ BK367 0 (.bool true); have hcz10_1 := czZ BK367 1 (.int .i64 a0_1); have hcz10_2 := czZ BK367 2 (.int .i64 a0_2); have hcz10_3 := czZ BK367 3 (.int .i64 a0_3); have hcz10_4 := czZ BK367 4 (.int .i64 a0_4); have hcz10_5 := czZ BK367 5 (.int .i64 a0_5); have hfz10_0 := blk_frozen BK367.out 0; have hfz10_1 := blk_frozen BK367.out 1; have hfz10_2 := blk_frozen BK367.out 2; have hfz10_3 := blk_frozen BK367.out 3; have hfz10_4 := blk_frozen BK367.out 4; have hfz10_5 := blk_frozen BK367.out 5) | ((with_reducible refine gate_callee (f := 24) rfl ?_); refine goesLA_ (some 14) rfl rfl Tryz.func24 rfl #[.int .i64 a0_1, .int .i64 a1] rfl ?_; (with_reducible refine (safe_Add.calls a0_1 a1 t369 _ A5.out).mono ?_); rintro e w11 ⟨rfl, hb⟩; refine ⟨_, rfl, ?_⟩; replace BK367 := bdZ BK367 hb; replace BK368 := bdZ BK368 hb; replace HB := stA hb; clear hb; have hcz12_0 := czZ BK367 0 (.bool true); have hcz12_1 := czZ BK367 1 (.int .i64 a0_1); have hcz12_2 := czZ BK367 2 (.int .i64 a0_2); have hcz12_3 := czZ BK367 3 (.int .i64 a0_3); have hcz12_4 := czZ BK367 4 (.int .i64 a0_4); have hcz12_5 := czZ BK367 5 (.int .i64 a0_5); have hfz12_0 := blk_frozen BK367.out 0; have hfz12_1 := blk_frozen BK367.out 1; have hfz12_2 := blk_frozen BK367.out 2; have hfz12_3 := blk_frozen BK367.out 3; have hfz12_4 := blk_frozen BK367.out 4; have hfz12_5 := blk_frozen BK367.out 5; have hcz13_0 := czZ BK368 0 (.bool false); have hcz13_1 := czZ BK368 1 (.int .i64 0); have hcz13_2 := czZ BK368 2 (.int .i64 0); have hcz13_3 := czZ BK368 3 (.int .i64 0); have hcz13_4 := czZ BK368 4 (.int .i64 0); have hcz13_5 := czZ BK368 5 (.int .i64 0); have hfz13_0 := blk_frozen BK368.out 0; have hfz13_1 := blk_frozen BK368.out 1; have hfz13_2 := blk_frozen BK368.out 2; have hfz13_3 := blk_frozen BK368.out 3; have hfz13_4 := blk_frozen BK368.out 4; have hfz13_5 := blk_frozen BK368.out 5))
   refine bodyPost_ret (results_cell_row rfl _ _ gb368 25 #[.bool true, .int .i64 ji6, .int .i64 a0_2, .int .i64 a0_3, .int .i64 a0_4, .int .i64 a0_5] (0, 0) _ rfl (by (with_reducible repeat first | apply blk_drewN | apply blk_drew | apply blk_alloc); refine blk_put (cs := #[.bool true, .int .i64 ji6, .int .i64 a0_2, .int .i64 a0_3, .int .i64 a0_4, .int .i64 0]) ?_ 5 _ rfl; (with_reducible repeat first | apply blk_drewN | apply blk_drew | apply blk_alloc); refine blk_put (cs := #[.bool true, .int .i64 ji6, .int .i64 a0_2, .int .i64 a0_3, .int .i64 0, .int .i64 0]) ?_ 4 _ rfl; (with_reducible repeat first | apply blk_drewN | apply blk_drew | apply blk_alloc); refine blk_put (cs := #[.bool true, .int .i64 ji6, .int .i64 a0_2, .int .i64 0, .int .i64 0, .int .i64 0]) ?_ 3 _ rfl; (with_reducible repeat first | apply blk_drewN | apply blk_drew | apply blk_alloc); refine blk_put (cs := #[.bool true, .int .i64 ji6, .int .i64 0, .int .i64 0, .int .i64 0, .int .i64 0]) ?_ 2 _ rfl; (with_reducible repeat first | apply blk_drewN | apply blk_drew | apply blk_alloc); refine blk_put (cs := #[.bool true, .int .i64 0, .int .i64 0, .int .i64 0, .int .i64 0, .int .i64 0]) ?_ 1 _ rfl; (with_reducible repeat first | apply blk_drewN | apply blk_drew | apply blk_alloc); refine blk_put (cs := #[.bool false, .int .i64 0, .int .i64 0, .int .i64 0, .int .i64 0, .int .i64 0]) ?_ 0 _ rfl; (with_reducible repeat first | apply blk_drewN | apply blk_drew | apply blk_alloc); refine blk_far ?_ NB368_367.out _; (with_reducible repeat first | apply blk_drewN | apply blk_drew | apply blk_alloc); exact BK368.out) Tryz.underlying25 rfl (by kernel_rfl)) rfl ?_; exact ⟨by first | rfl | (simp [errW_none, errW_some] <;> rfl) | (simp only [← hji6]; first | rfl | (simp [errW_none, errW_some] <;> rfl)) | (simp [*, errW_none, errW_some] <;> rfl), by repeat (first | (with_reducible first | exact HB.out | apply below_alloc | apply pw_below_drewN | apply below_drew1 | refine below_set ?_ (Aside0.out (by assumption))) | exact HB.out)⟩
  ·rw [if_neg c4] at H
   have c4b0 : decide (0 < a1) = false := decide_eq_false c4; clear c4; simp only [Option.some.injEq, Prod.mk.injEq] at H; obtain ⟨rfl, rfl, rfl, rfl, rfl, rfl⟩ := H
   go_enter Tryz.func128, Tryz.ntmps128
   go_wp2_with (first | ((with_reducible refine gate_dst (N := 2) rfl ?_); refine box_event ?hg (N := 2) ?hd (cs := #[.bool true, .int .i64 a0_1, .int .i64 a0_2, .int .i64 a0_3, .int .i64 a0_4, .int .i64 a0_5]) (t := 25) ?hr ?_; (case hd => rfl); (case hg => rfl); (case hr => first | (go_simp; done) | (go_simp; rfl)); intro gb367 hg w14 hbox hb; have BK367 := Aside0.mk (hbox); obtain ⟨GW367, nHB⟩ := geA hg hb; have GE367 := GW367; replace HB := nHB; clear nHB; clear hb hbox hg) | ((with_reducible refine gate_dst (N := 4) rfl ?_); refine box_event ?hg (N := 4) ?hd (cs := #[.bool false, .int .i64 0, .int .i64 0, .int .i64 0, .int .i64 0, .int .i64 0]) (t := 25) ?hr ?_; (case hd => rfl); (case hg => rfl); (case hr => first | (go_simp; done) | (go_simp; rfl)); intro gb368 hg w15 hbox hb; have BK368 := Aside0.mk (hbox); obtain ⟨GW368, nHB⟩ := geA hg hb; have GE368 := GW368; obtain ⟨NB367_368, NB368_367, nBK⟩ := nbA BK367 hg hb; replace BK367 := nBK; clear nBK; replace HB := nHB; clear nHB; clear hb hbox hg; have hnb16 := NB367_368.out; have hnc16 := NB368_367.out; have hcz17_0 := czZ BK367 0 (.bool true); have hcz17_1 := czZ BK367 1 (.int .i64 a0_1); have hcz17_2 := czZ BK367 2 (.int .i64 a0_2); have hcz17_3 := czZ BK367 3 (.int .i64 a0_3); have hcz17_4 := czZ BK367 4 (.int .i64 a0_4); have hcz17_5 := czZ BK367 5 (.int .i64 a0_5); have hfz17_0 := blk_frozen BK367.out 0; have hfz17_1 := blk_frozen BK367.out 1; have hfz17_2 := blk_frozen BK367.out 2; have hfz17_3 := blk_frozen BK367.out 3; have hfz17_4 := blk_frozen BK367.out 4; have hfz17_5 := blk_frozen BK367.out 5; have hcz18_0 := czZ BK368 0 (.bool false); have hcz18_1 := czZ BK368 1 (.int .i64 0); have hcz18_2 := czZ BK368 2 (.int .i64 0); have hcz18_3 := czZ BK368 3 (.int .i64 0); have hcz18_4 := czZ BK368 4 (.int .i64 0); have hcz18_5 := czZ BK368 5 (.int .i64 0); have hfz18_0 := blk_frozen BK368.out 0; have hfz18_1 := blk_frozen BK368.out 1; have hfz18_2 := blk_frozen BK368.out 2; have hfz18_3 := blk_frozen BK368.out 3; have hfz18_4 := blk_frozen BK368.out 4; have hfz18_5 := blk_frozen BK368.out 5))
   refine bodyPost_ret (results_cell_row rfl _ _ gb368 25 #[.bool true, .int .i64 a0_1, .int .i64 a0_2, .int .i64 a0_3, .int .i64 a0_4, .int .i64 a0_5] (0, 0) _ rfl (by (with_reducible repeat first | apply blk_drewN | apply blk_drew | apply blk_alloc); refine blk_put (cs := #[.bool true, .int .i64 a0_1, .int .i64 a0_2, .int .i64 a0_3, .int .i64 a0_4, .int .i64 0]) ?_ 5 _ rfl; (with_reducible repeat first | apply blk_drewN | apply blk_drew | apply blk_alloc); refine blk_put (cs := #[.bool true, .int .i64 a0_1, .int .i64 a0_2, .int .i64 a0_3, .int .i64 0, .int .i64 0]) ?_ 4 _ rfl; (with_reducible repeat first | apply blk_drewN | apply blk_drew | apply blk_alloc); refine blk_put (cs := #[.bool true, .int .i64 a0_1, .int .i64 a0_2, .int .i64 0, .int .i64 0, .int .i64 0]) ?_ 3 _ rfl; (with_reducible repeat first | apply blk_drewN | apply blk_drew | apply blk_alloc); refine blk_put (cs := #[.bool true, .int .i64 a0_1, .int .i64 0, .int .i64 0, .int .i64 0, .int .i64 0]) ?_ 2 _ rfl; (with_reducible repeat first | apply blk_drewN | apply blk_drew | apply blk_alloc); refine blk_put (cs := #[.bool true, .int .i64 0, .int .i64 0, .int .i64 0, .int .i64 0, .int .i64 0]) ?_ 1 _ rfl; (with_reducible repeat first | apply blk_drewN | apply blk_drew | apply blk_alloc); refine blk_put (cs := #[.bool false, .int .i64 0, .int .i64 0, .int .i64 0, .int .i64 0, .int .i64 0]) ?_ 0 _ rfl; (with_reducible repeat first | apply blk_drewN | apply blk_drew | apply blk_alloc); exact BK368.out) Tryz.underlying25 rfl (by kernel_rfl)) rfl ?_; exact ⟨by first | rfl | (simp [errW_none, errW_some] <;> rfl) | (simp [*, errW_none, errW_some] <;> rfl), by repeat (first | (with_reducible first | exact HB.out | apply below_alloc | apply pw_below_drewN | apply below_drew1 | refine below_set ?_ (Aside0.out (by assumption))) | exact HB.out)⟩
 ·replace c3 := Bool.eq_false_iff.mpr c3
  subst c3
  have H1 : (some (false, a0_1, a0_2, a0_3, a0_4, a0_5)) = some (r1, r2, r3, r4, r5, r6) := by rw [if_neg (show ¬ (false = true) by decide)] at H; exact H
  clear H; have H := H1; clear H1; simp only [Option.some.injEq, Prod.mk.injEq] at H; obtain ⟨rfl, rfl, rfl, rfl, rfl, rfl⟩ := H
  go_enter Tryz.func128, Tryz.ntmps128
  go_wp2_with (first | ((with_reducible refine gate_dst (N := 2) rfl ?_); refine box_event ?hg (N := 2) ?hd (cs := #[.bool false, .int .i64 a0_1, .int .i64 a0_2, .int .i64 a0_3, .int .i64 a0_4, .int .i64 a0_5]) (t := 25) ?hr ?_; (case hd => rfl); (case hg => rfl); (case hr => first | (go_simp; done) | (go_simp; rfl)); intro gb367 hg w19 hbox hb; have BK367 := Aside0.mk (hbox); obtain ⟨GW367, nHB⟩ := geA hg hb; have GE367 := GW367; replace HB := nHB; clear nHB; clear hb hbox hg) | ((with_reducible refine gate_dst (N := 4) rfl ?_); refine box_event ?hg (N := 4) ?hd (cs := #[.bool false, .int .i64 0, .int .i64 0, .int .i64 0, .int .i64 0, .int .i64 0]) (t := 25) ?hr ?_; (case hd => rfl); (case hg => rfl); (case hr => first | (go_simp; done) | (go_simp; rfl)); intro gb368 hg w20 hbox hb; have BK368 := Aside0.mk (hbox); obtain ⟨GW368, nHB⟩ := geA hg hb; have GE368 := GW368; obtain ⟨NB367_368, NB368_367, nBK⟩ := nbA BK367 hg hb; replace BK367 := nBK; clear nBK; replace HB := nHB; clear nHB; clear hb hbox hg; have hnb21 := NB367_368.out; have hnc21 := NB368_367.out; have hcz22_0 := czZ BK367 0 (.bool false); have hcz22_1 := czZ BK367 1 (.int .i64 a0_1); have hcz22_2 := czZ BK367 2 (.int .i64 a0_2); have hcz22_3 := czZ BK367 3 (.int .i64 a0_3); have hcz22_4 := czZ BK367 4 (.int .i64 a0_4); have hcz22_5 := czZ BK367 5 (.int .i64 a0_5); have hfz22_0 := blk_frozen BK367.out 0; have hfz22_1 := blk_frozen BK367.out 1; have hfz22_2 := blk_frozen BK367.out 2; have hfz22_3 := blk_frozen BK367.out 3; have hfz22_4 := blk_frozen BK367.out 4; have hfz22_5 := blk_frozen BK367.out 5; have hcz23_0 := czZ BK368 0 (.bool false); have hcz23_1 := czZ BK368 1 (.int .i64 0); have hcz23_2 := czZ BK368 2 (.int .i64 0); have hcz23_3 := czZ BK368 3 (.int .i64 0); have hcz23_4 := czZ BK368 4 (.int .i64 0); have hcz23_5 := czZ BK368 5 (.int .i64 0); have hfz23_0 := blk_frozen BK368.out 0; have hfz23_1 := blk_frozen BK368.out 1; have hfz23_2 := blk_frozen BK368.out 2; have hfz23_3 := blk_frozen BK368.out 3; have hfz23_4 := blk_frozen BK368.out 4; have hfz23_5 := blk_frozen BK368.out 5))
  refine bodyPost_ret (results_cell_row rfl _ _ gb368 25 #[.bool false, .int .i64 a0_1, .int .i64 a0_2, .int .i64 a0_3, .int .i64 a0_4, .int .i64 a0_5] (0, 0) _ rfl (by (with_reducible repeat first | apply blk_drewN | apply blk_drew | apply blk_alloc); refine blk_put (cs := #[.bool false, .int .i64 a0_1, .int .i64 a0_2, .int .i64 a0_3, .int .i64 a0_4, .int .i64 0]) ?_ 5 _ rfl; (with_reducible repeat first | apply blk_drewN | apply blk_drew | apply blk_alloc); refine blk_put (cs := #[.bool false, .int .i64 a0_1, .int .i64 a0_2, .int .i64 a0_3, .int .i64 0, .int .i64 0]) ?_ 4 _ rfl; (with_reducible repeat first | apply blk_drewN | apply blk_drew | apply blk_alloc); refine blk_put (cs := #[.bool false, .int .i64 a0_1, .int .i64 a0_2, .int .i64 0, .int .i64 0, .int .i64 0]) ?_ 3 _ rfl; (with_reducible repeat first | apply blk_drewN | apply blk_drew | apply blk_alloc); refine blk_put (cs := #[.bool false, .int .i64 a0_1, .int .i64 0, .int .i64 0, .int .i64 0, .int .i64 0]) ?_ 2 _ rfl; (with_reducible repeat first | apply blk_drewN | apply blk_drew | apply blk_alloc); refine blk_put (cs := #[.bool false, .int .i64 0, .int .i64 0, .int .i64 0, .int .i64 0, .int .i64 0]) ?_ 1 _ rfl; (with_reducible repeat first | apply blk_drewN | apply blk_drew | apply blk_alloc); refine blk_put (cs := #[.bool false, .int .i64 0, .int .i64 0, .int .i64 0, .int .i64 0, .int .i64 0]) ?_ 0 _ rfl; (with_reducible repeat first | apply blk_drewN | apply blk_drew | apply blk_alloc); exact BK368.out) Tryz.underlying25 rfl (by kernel_rfl)) rfl ?_; exact ⟨by first | rfl | (simp [errW_none, errW_some] <;> rfl) | (simp [*, errW_none, errW_some] <;> rfl), by repeat (first | (with_reducible first | exact HB.out | apply below_alloc | apply pw_below_drewN | apply below_drew1 | refine below_set ?_ (Aside0.out (by assumption))) | exact HB.out)⟩

/-! ### epoch_ShiftS: pure, behind function 128 -/
section
open Go.Proofs.YtfahbgkoldoflaaGreatDoor.Sp
noncomputable def epoch_ShiftS.f (on : Bool) (s : Int) (f : Int) (m : Int) (k : Int) (e : Int) (d : Int) : Option (Bool × Int × Int × Int × Int × Int) := need ((I s) ∧ (I d)) (some (on, laterQ on s d, f, m, k, e))
theorem epoch_ShiftS.eq {on : Bool} {s : Int} {f : Int} {m : Int} {k : Int} {e : Int} {d : Int} (h1 : I s) (h2 : I d) : epoch_ShiftS.f on s f m k e d = some (on, laterQ on s d, f, m, k, e) := need_pos ⟨h1, h2⟩
theorem epoch_Shift.main {on : Bool} {s : Int} {f : Int} {m : Int} {k : Int} {e : Int} {d : Int} (h1 : I s) (h2 : I d) : epoch_Shift.f on s f m k e d = some (on, laterQ on s d, f, m, k, e) := by
 unfold epoch_Shift.f laterQ
 by_cases c1 : on = true
 ·by_cases c2 : d > 0
  ·rw [if_pos c1, if_pos c2, if_pos (show on = true ∧ 0 < d from ⟨c1, c2⟩), safe_Add.eq h1 h2]
   simp only [Option.bind_some]
   have q : mn (near (s + d)) 1099511627776 = if 1099511627776 < s + d then 1099511627776 else s + d := by unfold mn near; (repeat' split) <;> first | rfl | omega
   rw [q]
  ·rw [if_pos c1, if_neg c2, if_neg (show ¬ (on = true ∧ 0 < d) from fun x => c2 x.2)]
 ·rw [if_neg c1, if_neg (show ¬ (on = true ∧ 0 < d) from fun x => c1 x.1)]
end
theorem epoch_ShiftS.calls (a0_0 : Bool) (a0_1 : Int) (a0_2 : Int) (a0_3 : Int) (a0_4 : Int) (a0_5 : Int) (a1 : Int) (r1 : Bool) (r2 : Int) (r3 : Int) (r4 : Int) (r5 : Int) (r6 : Int) (w : World) (h : epoch_ShiftS.f a0_0 a0_1 a0_2 a0_3 a0_4 a0_5 a1 = some (r1, r2, r3, r4, r5, r6)) :
  Calls Tryz.prog 128 #[.agg #[.bool a0_0, .int .i64 a0_1, .int .i64 a0_2, .int .i64 a0_3, .int .i64 a0_4, .int .i64 a0_5], .int .i64 a1] w fun e w' => e = .returned (.agg #[.bool r1, .int .i64 r2, .int .i64 r3, .int .i64 r4, .int .i64 r5, .int .i64 r6]) ∧ Below w.heap.size w w' := by
 obtain ⟨hc, h⟩ := Sp.need_some h; obtain ⟨h1, h2⟩ := hc; exact epoch_Shift.calls a0_0 a0_1 a0_2 a0_3 a0_4 a0_5 a1 r1 r2 r3 r4 r5 r6 w (by rw [epoch_Shift.main h1 h2]; exact h)

/-! ### guide_Pause: function 78 -/
noncomputable def guide_Pause.f (a0_0 : Bool) (a0_1 : Int) (a0_2 : Int) (a0_3 : Int) (a0_4 : Int) (a0_5 : Int) (a1 : Int) (a2 : Int) : Option (Bool × Int × Int × Int × Int × Int) := (safe_SubS.f a2 a1).bind fun t372 => ((epoch_ShiftS.f a0_0 a0_1 a0_2 a0_3 a0_4 a0_5 t372).bind fun bt373 => (some (bt373.1, bt373.2.1, bt373.2.2.1, bt373.2.2.2.1, bt373.2.2.2.2.1, bt373.2.2.2.2.2)))
set_option maxHeartbeats 4000000 in
set_option maxRecDepth 100000 in
theorem guide_Pause.calls (a0_0 : Bool) (a0_1 : Int) (a0_2 : Int) (a0_3 : Int) (a0_4 : Int) (a0_5 : Int) (a1 : Int) (a2 : Int) (r1 : Bool) (r2 : Int) (r3 : Int) (r4 : Int) (r5 : Int) (r6 : Int) (w : World) (h : guide_Pause.f a0_0 a0_1 a0_2 a0_3 a0_4 a0_5 a1 a2 = some (r1, r2, r3, r4, r5, r6)) :
  Calls Tryz.prog 78 #[.agg #[.bool a0_0, .int .i64 a0_1, .int .i64 a0_2, .int .i64 a0_3, .int .i64 a0_4, .int .i64 a0_5], .int .i64 a1, .int .i64 a2] w fun e w' => e = .returned (.agg #[.bool r1, .int .i64 r2, .int .i64 r3, .int .i64 r4, .int .i64 r5, .int .i64 r6]) ∧ Below w.heap.size w w' := by
  have H := Aside0.mk (Bx.start w)
  obtain ⟨d, hD, h⟩ := Option.bind_eq_some_iff.1 h
  obtain ⟨⟨u1, u2, u3, u4, u5, u6⟩, hS, h⟩ := Option.bind_eq_some_iff.1 h
  simp only [Option.some.injEq, Prod.mk.injEq] at h
  obtain ⟨rfl, rfl, rfl, rfl, rfl, rfl⟩ := h
  have HD := Aside0.mk hD
  have HS := Aside0.mk hS
  clear hD hS
  go_enter Tryz.func78, Tryz.ntmps78
  go_upto_region 1 with (first
    | ((with_reducible refine gate_dst (N := 3) rfl ?_); refine bxB 3 25 (.tmp 0) H ?_; clear H; intro b3 _ H)
    | ((with_reducible refine gate_dst (N := 6) rfl ?_); refine bxV 6 25 #[.bool false, .int .i64 0, .int .i64 0, .int .i64 0, .int .i64 0, .int .i64 0] H (fun _ => by kernel_rfl) ?_; clear H; intro b6 _ H)
    | fail)
  refine rgB #[N,N,N,N,N,N] [5] H ?_; clear H; intro _ H
  refine rB 0 (some 7) #[Y,N,N,N,N,N] 0 Tryz.underlying25 H ?_
  refine pG 1 (some 8) #[Y,Y,N,N,N,N] ?_
  refine pG 2 (some 9) #[Y,Y,Y,N,N,N] ?_
  refine cB 3 (some 10) #[Y,Y,Y,Y,N,N] Tryz.func55 H (safe_SubS.calls a2 a1 d _ HD.out) ?_; clear H; intro _ H
  refine cB 4 (some 11) #[Y,Y,Y,Y,Y,N] Tryz.func128 H (epoch_ShiftS.calls a0_0 a0_1 a0_2 a0_3 a0_4 a0_5 d _ _ _ _ _ _ _ HS.out) ?_; clear H; intro _ H
  refine sB' 5 #[Y,Y,Y,Y,Y,Y] 1 H ?_; clear H; intro _ H
  refine done_ (by kernel_rfl) ?_
  go_wp2
  refine bodyPost_ret (results_cell_row (fn := Tryz.f78) (p := 6) (ty := 25) rfl _ _ b6 25 _ (0, 0) _ rfl (H.out.get 1 rfl) Tryz.underlying25 rfl (by kernel_rfl)) rfl ⟨rfl, H.out.lo⟩

/-! ### flight_Room: function 129 -/
noncomputable def flight_Room.f (a0_0 : Int) (a0_1 : Int) (a0_2 : Int) (a1 : Int) : Option (Int) := (flight_Check.f a0_0 a0_1 a0_2).bind fun t380 => (if t380 = true then (if a1 < a0_2 then (some 0) else (some (wrap64 (a1 - a0_2)))) else (some 0))
set_option maxHeartbeats 4000000 in
set_option maxRecDepth 100000 in
theorem flight_Room.calls (a0_0 : Int) (a0_1 : Int) (a0_2 : Int) (a1 : Int) (r : Int) (w : World) (h : flight_Room.f a0_0 a0_1 a0_2 a1 = some r) :
  Calls Tryz.prog 129 #[.agg #[.int .i64 a0_0, .int .i64 a0_1, .int .i64 a0_2], .int .i64 a1] w fun e w' => e = .returned (.int .i64 r) ∧ Below w.heap.size w w' := by
  have H := Aside0.mk (Bx.start w)
  obtain ⟨t, hT, h⟩ := Option.bind_eq_some_iff.1 h
  have HC := Aside0.mk hT
  clear hT
  by_cases p1 : a1 < a0_2 <;> cases t <;> simp [p1] at h <;> subst h
  all_goals (first | have c1 := decide_eq_false p1 | have c1 := decide_eq_true p1)
  all_goals clear p1
  all_goals (go_enter Tryz.func129, Tryz.ntmps129)
  all_goals (go_wp2_with (first
    | ((with_reducible refine gate_dst (N := 2) rfl ?_); refine bxB 2 37 (.tmp 0) H ?_; clear H; intro b2 _ H)
    | (refine bxR 37 2 5 0 Tryz.underlying37 H ?_)
    | (go_at_call 65; (with_reducible refine (flight_Check.calls a0_0 a0_1 a0_2 _ _ HC.out).mono ?_); rintro e wc ⟨rfl, hb⟩; replace H := Aside0.mk (H.out.below hb); clear hb)
    | (refine bxL 10 11 0 2 l3 H ?_)
    | (refine bxL 15 16 0 2 l3 H ?_)
    | fail))
  all_goals (go_ret; exact ⟨rfl, H.out.lo⟩)


end Go.Proofs.YtfahbgkoldoflaaGreatDoor.Px
