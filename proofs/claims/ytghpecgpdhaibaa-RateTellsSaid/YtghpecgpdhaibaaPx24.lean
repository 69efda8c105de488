/- Printed by a program of this session (wip/tool/px.py), over the kit's print: for each Go function a Lean function, and the proof that the machine's call answers as that function says. Conditions: none beside what the theorems state. -/
import Derived.Test.YtghpecgpdhaibaaPx0
import Derived.Test.YtghpecgpdhaibaaPx4
import Derived.Test.YtghpecgpdhaibaaPx23
import Derived.Test.YtghpecgpdhaibaaSpec
namespace Go.Proofs.Ytghpecgpdhaibaa.Px
open Go.RowKit Go.Proofs.YtghpecgpdhaibaaW.PrintWords Go.Proofs.YtghpecgpdhaibaaW.PrintLast Go.Proofs.YtghpecgpdhaibaaW.PrintMore
attribute [local go_sem] max2_int min2_int max_two min_two max_three min_three max_four min_four   -- for this text's walks alone
set_option linter.unusedVariables false
set_option linter.unusedSimpArgs false

/-! ### rate_time: function 35 -/
noncomputable def rate_time.f (a0_0 : Bool) (a0_1 : Int) (a0_2 : Int) : Option (Int) := if a0_0 = true then ((rtt_Check.f a0_0 a0_1 a0_2).bind fun t241 => (if t241 = true then ((rtt_Mean.f a0_0 a0_1 a0_2).bind fun t242 => (some t242)) else (some 100000))) else (some 100000)
set_option maxHeartbeats 8000000 in
set_option maxRecDepth 100000 in
theorem rate_time.calls (a0_0 : Bool) (a0_1 : Int) (a0_2 : Int) (r : Int) (w : World) (h : rate_time.f a0_0 a0_1 a0_2 = some r) :
  Calls Try.prog 35 #[.agg #[.bool a0_0, .int .i64 a0_1, .int .i64 a0_2]] w fun e w' => e = .returned (.int .i64 r) ∧ Below w.heap.size w w' := by
 have hu23 := Try.underlying23; have HB := Aside0.mk (Below.refl w.heap.size w); have H : (if a0_0 = true then ((rtt_Check.f a0_0 a0_1 a0_2).bind fun t241 => (if t241 = true then ((rtt_Mean.f a0_0 a0_1 a0_2).bind fun t242 => (some t242)) else (some 100000))) else (some 100000)) = some r := h; clear h
 by_cases c2 : a0_0 = true
 ·subst c2
  have H1 : ((rtt_Check.f true a0_1 a0_2).bind fun t241 => (if t241 = true then ((rtt_Mean.f true a0_1 a0_2).bind fun t242 => (some t242)) else (some 100000))) = some r := by rw [if_pos rfl] at H; exact H
  clear H; have H := H1; clear H1; replace H := Option.bind_eq_some_iff.mp H; obtain ⟨t241, A30, H⟩ := H; replace H : (if t241 = true then ((rtt_Mean.f true a0_1 a0_2).bind fun t242 => (some t242)) else (some 100000)) = some r := H; have A3 := Aside0.mk A30; clear A30
  by_cases c4 : t241 = true
  ·subst c4
   have H1 : ((rtt_Mean.f true a0_1 a0_2).bind fun t242 => (some t242)) = some r := by rw [if_pos rfl] at H; exact H
   clear H; have H := H1; clear H1; replace H := Option.bind_eq_some_iff.mp H; obtain ⟨t242, A50, H⟩ := H; replace H : (some t242) = some r := H; have A5 := Aside0.mk A50; clear A50; obtain rfl := Option.some.inj H
   go_enter Try.func35, Try.ntmps35
   go_wp2_with (first | ((with_reducible refine gate_dst (N := 1) rfl ?_); refine box_event ?hg (N := 1) ?hd (cs := #[.bool true, .int .i64 a0_1, .int .i64 a0_2]) (t := 23) ?hr ?_; (case hd => rfl); (case hg => rfl); (case hr => first | (go_simp; done) | (go_simp; rfl)); intro gb240 hg w6 hbox hb; have BK240 := Aside0.mk (hbox); obtain ⟨GW240, nHB⟩ := geA hg hb; have GE240 := GW240; replace HB := nHB; clear nHB; clear hb hbox hg; have hcz7_0 := czZ BK240 0 (.bool true); have hcz7_1 := czZ BK240 1 (.int .i64 a0_1); have hcz7_2 := czZ BK240 2 (.int .i64 a0_2); have hfz7_0 := blk_frozen BK240.out 0; have hfz7_1 := blk_frozen BK240.out 1; have hfz7_2 := blk_frozen BK240.out 2) | (go_at_call 59; (with_reducible refine (rtt_Check.calls true a0_1 a0_2 true _ A3.out).mono ?_); rintro e w8 ⟨rfl, hb⟩; replace BK240 := bdZ BK240 hb; replace HB := stA hb; clear hb; have hcz9_0 := czZ BK240 0 (.bool true); have hcz9_1 := czZ BK240 1 (.int .i64 a0_1); have hcz9_2 := czZ BK240 2 (.int .i64 a0_2); have hfz9_0 := blk_frozen BK240.out 0; have hfz9_1 := blk_frozen BK240.out 1; have hfz9_2 := blk_frozen BK240.out 2) | ((with_reducible refine gate_callee (f := 60) rfl ?_); refine goesLA_ (some 10) rfl rfl Try.func60 rfl #[.agg #[.bool true, .int .i64 a0_1, .int .i64 a0_2]] rfl ?_; (with_reducible refine (rtt_Mean.calls true a0_1 a0_2 t242 _ A5.out).mono ?_); rintro e w10 ⟨rfl, hb⟩; refine ⟨_, rfl, ?_⟩; replace BK240 := bdZ BK240 hb; replace HB := stA hb; clear hb))
   go_ret
   exact ⟨by first | rfl | (simp [errW_none, errW_some] <;> rfl) | (simp [*, errW_none, errW_some] <;> rfl), by repeat (first | (with_reducible first | exact HB.out | apply below_alloc | apply pw_below_drewN | apply below_drew1 | refine below_set ?_ GE240.out) | exact HB.out)⟩
  ·replace c4 := Bool.eq_false_iff.mpr c4
   subst c4
   have H1 : (some 100000) = some r := by rw [if_neg (show ¬ (false = true) by decide)] at H; exact H
   clear H; have H := H1; clear H1; obtain rfl := Option.some.inj H
   go_enter Try.func35, Try.ntmps35
   go_wp2_with (first | ((with_reducible refine gate_dst (N := 1) rfl ?_); refine box_event ?hg (N := 1) ?hd (cs := #[.bool true, .int .i64 a0_1, .int .i64 a0_2]) (t := 23) ?hr ?_; (case hd => rfl); (case hg => rfl); (case hr => first | (go_simp; done) | (go_simp; rfl)); intro gb240 hg w11 hbox hb; have BK240 := Aside0.mk (hbox); obtain ⟨GW240, nHB⟩ := geA hg hb; have GE240 := GW240; replace HB := nHB; clear nHB; clear hb hbox hg; have hcz12_0 := czZ BK240 0 (.bool true); have hcz12_1 := czZ BK240 1 (.int .i64 a0_1); have hcz12_2 := czZ BK240 2 (.int .i64 a0_2); have hfz12_0 := blk_frozen BK240.out 0; have hfz12_1 := blk_frozen BK240.out 1; have hfz12_2 := blk_frozen BK240.out 2) | (go_at_call 59; (with_reducible refine (rtt_Check.calls true a0_1 a0_2 false _ A3.out).mono ?_); rintro e w13 ⟨rfl, hb⟩; replace BK240 := bdZ BK240 hb; replace HB := stA hb; clear hb))
   go_ret
   exact ⟨by first | rfl | (simp [errW_none, errW_some] <;> rfl) | (simp [*, errW_none, errW_some] <;> rfl), by repeat (first | (with_reducible first | exact HB.out | apply below_alloc | apply pw_below_drewN | apply below_drew1 | refine below_set ?_ GE240.out) | exact HB.out)⟩
 ·replace c2 := Bool.eq_false_iff.mpr c2
  subst c2
  have H1 : (some 100000) = some r := by rw [if_neg (show ¬ (false = true) by decide)] at H; exact H
  clear H; have H := H1; clear H1; obtain rfl := Option.some.inj H
  go_enter Try.func35, Try.ntmps35
  go_wp2_with (first | ((with_reducible refine gate_dst (N := 1) rfl ?_); refine box_event ?hg (N := 1) ?hd (cs := #[.bool false, .int .i64 a0_1, .int .i64 a0_2]) (t := 23) ?hr ?_; (case hd => rfl); (case hg => rfl); (case hr => first | (go_simp; done) | (go_simp; rfl)); intro gb240 hg w14 hbox hb; have BK240 := Aside0.mk (hbox); obtain ⟨GW240, nHB⟩ := geA hg hb; have GE240 := GW240; replace HB := nHB; clear nHB; clear hb hbox hg; have hcz15_0 := czZ BK240 0 (.bool false); have hcz15_1 := czZ BK240 1 (.int .i64 a0_1); have hcz15_2 := czZ BK240 2 (.int .i64 a0_2); have hfz15_0 := blk_frozen BK240.out 0; have hfz15_1 := blk_frozen BK240.out 1; have hfz15_2 := blk_frozen BK240.out 2))
  go_ret
  exact ⟨by first | rfl | (simp [errW_none, errW_some] <;> rfl) | (simp [*, errW_none, errW_some] <;> rfl), by repeat (first | (with_reducible first | exact HB.out | apply below_alloc | apply pw_below_drewN | apply below_drew1 | refine below_set ?_ GE240.out) | exact HB.out)⟩

/-! ### rate_timeS: the time there and back: pure, behind function 35 -/
noncomputable def rate_timeS.f (has : Bool) (mean far : Int) : Option Int := Go.Proofs.Ytghpecgpdhaibaa.Sp.need (Go.Proofs.Ytghpecgpdhaibaa.Sp.I mean ∧ Go.Proofs.Ytghpecgpdhaibaa.Sp.I far) (some (Go.Proofs.Ytghpecgpdhaibaa.Sp.timeQ has mean far))
section
open Go.Proofs.Ytghpecgpdhaibaa.Sp
theorem rate_timeS.eq {has : Bool} {mean far : Int} (h1 : I mean) (h2 : I far) : rate_timeS.f has mean far = some (timeQ has mean far) := need_pos ⟨h1, h2⟩
theorem rate_time.main {has : Bool} {mean far : Int} (h1 : I mean) (h2 : I far) : rate_time.f has mean far = some (timeQ has mean far) := by
 unfold rate_time.f rtt_Check.f rtt_Mean.f timeQ
 cases has
 ·simp
 ·simp only [if_true]
  by_cases a : mean ≥ 8
  ·by_cases b : mean ≤ 8589934592
   ·by_cases c : far ≥ 0
    ·have e : wrap64 (Int.tdiv mean 8) = mean / 8 := by rw [Int.tdiv_eq_ediv_of_nonneg (by omega), w64 (by omega)]
     by_cases d : far ≤ 4294967296
     ·simp [a, b, c, d, e]
     ·simp [a, b, c, d]
    ·have c2 : ¬ (0 ≤ far) := by omega
     simp [a, b, c2]
   ·simp [a, b]
  ·have a2 : ¬ (8 ≤ mean) := by omega
   simp [a2]
end
theorem rate_timeS.calls (a2_0 : Bool) (a2_1 a2_2 r : Int) (w : World) (h : rate_timeS.f a2_0 a2_1 a2_2 = some r) :
  Calls Try.prog 35 #[.agg #[.bool a2_0, .int .i64 a2_1, .int .i64 a2_2]] w fun e w' => e = .returned (.int .i64 r) ∧ Below w.heap.size w w' := by
 obtain ⟨⟨h1, h2⟩, h⟩ := Go.Proofs.Ytghpecgpdhaibaa.Sp.need_some h; exact rate_time.calls a2_0 a2_1 a2_2 r w (by rw [rate_time.main h1 h2]; exact h)

-- NOT PRINTED: function 61 (safe_held)

/-! ### safe_Times: function 62 -/
noncomputable def safe_Times.f (a0 : Int) (a1 : Int) : Option (Int × Int) := if a0 = (-1) then (if a1 = (-9223372036854775808) then (some (0, 10)) else (if a1 = (-1) then (if a0 = (-9223372036854775808) then (none) else (if a1 = 0 then (none) else (if (wrap64 (Int.tdiv (wrap64 (a0 * a1)) a1)) = a0 then (some (wrap64 (a0 * a1), 0)) else (some (0, 10))))) else (if a1 = 0 then (some (wrap64 (a0 * a1), 0)) else (if (wrap64 (Int.tdiv (wrap64 (a0 * a1)) a1)) = a0 then (some (wrap64 (a0 * a1), 0)) else (some (0, 10)))))) else (if a1 = (-1) then (if a0 = (-9223372036854775808) then (some (0, 10)) else (if a1 = 0 then (none) else (if (wrap64 (Int.tdiv (wrap64 (a0 * a1)) a1)) = a0 then (some (wrap64 (a0 * a1), 0)) else (some (0, 10))))) else (if a1 = 0 then (some (wrap64 (a0 * a1), 0)) else (if (wrap64 (Int.tdiv (wrap64 (a0 * a1)) a1)) = a0 then (some (wrap64 (a0 * a1), 0)) else (some (0, 10)))))
set_option maxHeartbeats 8000000 in
set_option maxRecDepth 100000 in
theorem safe_Times.calls (a0 : Int) (a1 : Int) (r1 : Int) (r2 : Int) (w : World) (h : safe_Times.f a0 a1 = some (r1, r2)) :
  Calls Try.prog 62 #[.int .i64 a0, .int .i64 a1] w fun e w' => e = .returned (.tuple #[.int .i64 r1, .int .i64 r2]) ∧ Drawn0 w w' := by
 have H : (if a0 = (-1) then (if a1 = (-9223372036854775808) then (some (0, 10)) else (if a1 = (-1) then (if a0 = (-9223372036854775808) then (none) else (if a1 = 0 then (none) else (if (wrap64 (Int.tdiv (wrap64 (a0 * a1)) a1)) = a0 then (some (wrap64 (a0 * a1), 0)) else (some (0, 10))))) else (if a1 = 0 then (some (wrap64 (a0 * a1), 0)) else (if (wrap64 (Int.tdiv (wrap64 (a0 * a1)) a1)) = a0 then (some (wrap64 (a0 * a1), 0)) else (some (0, 10)))))) else (if a1 = (-1) then (if a0 = (-9223372036854775808) then (some (0, 10)) else (if a1 = 0 then (none) else (if (wrap64 (Int.tdiv (wrap64 (a0 * a1)) a1)) = a0 then (some (wrap64 (a0 * a1), 0)) else (some (0, 10))))) else (if a1 = 0 then (some (wrap64 (a0 * a1), 0)) else (if (wrap64 (Int.tdiv (wrap64 (a0 * a1)) a1)) = a0 then (some (wrap64 (a0 * a1), 0)) else (some (0, 10)))))) = some (r1, r2) := h; clear h
 by_cases c3 : a0 = (-1)
 ·rw [if_pos c3] at H
  have c3b0 : (a0 == (-1)) = true := beq_iff_eq.mpr c3; have c3b1 : (a0 != (-1)) = false := bne_eq_false_iff_eq.mpr c3; clear c3
  by_cases c4 : a1 = (-9223372036854775808)
  ·rw [if_pos c4] at H
   have c4b0 : (a1 == (-9223372036854775808)) = true := beq_iff_eq.mpr c4; have c4b1 : (a1 != (-9223372036854775808)) = false := bne_eq_false_iff_eq.mpr c4; clear c4; simp only [Option.some.injEq, Prod.mk.injEq] at H; obtain ⟨rfl, rfl⟩ := H
   go_enter Try.func62, Try.ntmps62
   go_wp2
   go_ret2
   exact ⟨by first | rfl | (simp; done) | (simp [*]; done), by repeat (first | exact Drawn0.refl _ | apply Drawn0.step)⟩
  ·rw [if_neg c4] at H
   have c4b0 : (a1 == (-9223372036854775808)) = false := beq_eq_false_iff_ne.mpr c4; have c4b1 : (a1 != (-9223372036854775808)) = true := bne_iff_ne.mpr c4
   by_cases c5 : a1 = (-1)
   ·rw [if_pos c5] at H
    have c5b0 : (a1 == (-1)) = true := beq_iff_eq.mpr c5; have c5b1 : (a1 != (-1)) = false := bne_eq_false_iff_eq.mpr c5; clear c5
    by_cases c6 : a0 = (-9223372036854775808)
    ·rw [if_pos c6] at H
     exact absurd H (by simp)
    ·rw [if_neg c6] at H
     have c6b0 : (a0 == (-9223372036854775808)) = false := beq_eq_false_iff_ne.mpr c6; have c6b1 : (a0 != (-9223372036854775808)) = true := bne_iff_ne.mpr c6
     by_cases c7 : a1 = 0
     ·rw [if_pos c7] at H
      exact absurd H (by simp)
     ·rw [if_neg c7] at H
      have c7b0 : (a1 == 0) = false := beq_eq_false_iff_ne.mpr c7; have c7b1 : (a1 != 0) = true := bne_iff_ne.mpr c7
      by_cases c8 : (wrap64 (Int.tdiv (wrap64 (a0 * a1)) a1)) = a0
      ·rw [if_pos c8] at H
       have c8b0 : ((wrap64 (Int.tdiv (wrap64 (a0 * a1)) a1)) == a0) = true := beq_iff_eq.mpr c8; have c8b1 : ((wrap64 (Int.tdiv (wrap64 (a0 * a1)) a1)) != a0) = false := bne_eq_false_iff_eq.mpr c8; clear c8; simp only [Option.some.injEq, Prod.mk.injEq] at H; obtain ⟨rfl, rfl⟩ := H
       go_enter Try.func62, Try.ntmps62
       go_wp2
       go_ret2
       exact ⟨by first | rfl | (simp; done) | (simp [*]; done), by repeat (first | exact Drawn0.refl _ | apply Drawn0.step)⟩
      ·rw [if_neg c8] at H
       have c8b0 : ((wrap64 (Int.tdiv (wrap64 (a0 * a1)) a1)) == a0) = false := beq_eq_false_iff_ne.mpr c8; have c8b1 : ((wrap64 (Int.tdiv (wrap64 (a0 * a1)) a1)) != a0) = true := bne_iff_ne.mpr c8; simp only [Option.some.injEq, Prod.mk.injEq] at H; obtain ⟨rfl, rfl⟩ := H
       go_enter Try.func62, Try.ntmps62
       go_wp2
       go_ret2
       exact ⟨by first | rfl | (simp; done) | (simp [*]; done), by repeat (first | exact Drawn0.refl _ | apply Drawn0.step)⟩
   ·rw [if_neg c5] at H
    have c5b0 : (a1 == (-1)) = false := beq_eq_false_iff_ne.mpr c5; have c5b1 : (a1 != (-1)) = true := bne_iff_ne.mpr c5
    by_cases c9 : a1 = 0
    ·rw [if_pos c9] at H
     have c9b0 : (a1 == 0) = true := beq_iff_eq.mpr c9; have c9b1 : (a1 != 0) = false := bne_eq_false_iff_eq.mpr c9; clear c9; simp only [Option.some.injEq, Prod.mk.injEq] at H; obtain ⟨rfl, rfl⟩ := H
     go_enter Try.func62, Try.ntmps62
     go_wp2
     go_ret2
     exact ⟨by first | rfl | (simp; done) | (simp [*]; done), by repeat (first | exact Drawn0.refl _ | apply Drawn0.step)⟩
    ·rw [if_neg c9] at H
     have c9b0 : (a1 == 0) = false := beq_eq_false_iff_ne.mpr c9; have c9b1 : (a1 != 0) = true := bne_iff_ne.mpr c9
     by_cases c10 : (wrap64 (Int.tdiv (wrap64 (a0 * a1)) a1)) = a0
     ·rw [if_pos c10] at H
      have c10b0 : ((wrap64 (Int.tdiv (wrap64 (a0 * a1)) a1)) == a0) = true := beq_iff_eq.mpr c10; have c10b1 : ((wrap64 (Int.tdiv (wrap64 (a0 * a1)) a1)) != a0) = false := bne_eq_false_iff_eq.mpr c10; clear c10; simp only [Option.some.injEq, Prod.mk.injEq] at H; obtain ⟨rfl, rfl⟩ := H
      go_enter Try.func62, Try.ntmps62
      go_wp2
      go_ret2
      exact ⟨by first | rfl | (simp; done) | (simp [*]; done), by repeat (first | exact Drawn0.refl _ | apply Drawn0.step)⟩
     ·rw [if_neg c10] at H
      have c10b0 : ((wrap64 (Int.tdiv (wrap64 (a0 * a1)) a1)) == a0) = false := beq_eq_false_iff_ne.mpr c10; have c10b1 : ((wrap64 (Int.tdiv (wrap64 (a0 * a1)) a1)) != a0) = true := bne_iff_ne.mpr c10; simp only [Option.some.injEq, Prod.mk.injEq] at H; obtain ⟨rfl, rfl⟩ := H
      go_enter Try.func62, Try.ntmps62
      go_wp2
      go_ret2
      exact ⟨by first | rfl | (simp; done) | (simp [*]; done), by repeat (first | exact Drawn0.refl _ | apply Drawn0.step)⟩
 ·rw [if_neg c3] at H
  have c3b0 : (a0 == (-1)) = false := beq_eq_false_iff_ne.mpr c3; have c3b1 : (a0 != (-1)) = true := bne_iff_ne.mpr c3
  by_cases c11 : a1 = (-1)
  ·rw [if_pos c11] at H
   have c11b0 : (a1 == (-1)) = true := beq_iff_eq.mpr c11; have c11b1 : (a1 != (-1)) = false := bne_eq_false_iff_eq.mpr c11; clear c11
   by_cases c12 : a0 = (-9223372036854775808)
   ·rw [if_pos c12] at H
    have c12b0 : (a0 == (-9223372036854775808)) = true := beq_iff_eq.mpr c12; have c12b1 : (a0 != (-9223372036854775808)) = false := bne_eq_false_iff_eq.mpr c12; clear c12; simp only [Option.some.injEq, Prod.mk.injEq] at H; obtain ⟨rfl, rfl⟩ := H
    go_enter Try.func62, Try.ntmps62
    go_wp2
    go_ret2
    exact ⟨by first | rfl | (simp; done) | (simp [*]; done), by repeat (first | exact Drawn0.refl _ | apply Drawn0.step)⟩
   ·rw [if_neg c12] at H
    have c12b0 : (a0 == (-9223372036854775808)) = false := beq_eq_false_iff_ne.mpr c12; have c12b1 : (a0 != (-9223372036854775808)) = true := bne_iff_ne.mpr c12
    by_cases c13 : a1 = 0
    ·rw [if_pos c13] at H
     exact absurd H (by simp)
    ·rw [if_neg c13] at H
     have c13b0 : (a1 == 0) = false := beq_eq_false_iff_ne.mpr c13; have c13b1 : (a1 != 0) = true := bne_iff_ne.mpr c13
     by_cases c14 : (wrap64 (Int.tdiv (wrap64 (a0 * a1)) a1)) = a0
     ·rw [if_pos c14] at H
      have c14b0 : ((wrap64 (Int.tdiv (wrap64 (a0 * a1)) a1)) == a0) = true := beq_iff_eq.mpr c14; have c14b1 : ((wrap64 (Int.tdiv (wrap64 (a0 * a1)) a1)) != a0) = false := bne_eq_false_iff_eq.mpr c14; clear c14; simp only [Option.some.injEq, Prod.mk.injEq] at H; obtain ⟨rfl, rfl⟩ := H
      go_enter Try.func62, Try.ntmps62
      go_wp2
      go_ret2
      exact ⟨by first | rfl | (simp; done) | (simp [*]; done), by repeat (first | exact Drawn0.refl _ | apply Drawn0.step)⟩
     ·rw [if_neg c14] at H
      have c14b0 : ((wrap64 (Int.tdiv (wrap64 (a0 * a1)) a1)) == a0) = false := beq_eq_false_iff_ne.mpr c14; have c14b1 : ((wrap64 (Int.tdiv (wrap64 (a0 * a1)) a1)) != a0) = true := bne_iff_ne.mpr c14; simp only [Option.some.injEq, Prod.mk.injEq] at H; obtain ⟨rfl, rfl⟩ := H
      go_enter Try.func62, Try.ntmps62
      go_wp2
      go_ret2
      exact ⟨by first | rfl | (simp; done) | (simp [*]; done), by repeat (first | exact Drawn0.refl _ | apply Drawn0.step)⟩
  ·rw [if_neg c11] at H
   have c11b0 : (a1 == (-1)) = false := beq_eq_false_iff_ne.mpr c11; have c11b1 : (a1 != (-1)) = true := bne_iff_ne.mpr c11
   by_cases c15 : a1 = 0
   ·rw [if_pos c15] at H
    have c15b0 : (a1 == 0) = true := beq_iff_eq.mpr c15; have c15b1 : (a1 != 0) = false := bne_eq_false_iff_eq.mpr c15; clear c15; simp only [Option.some.injEq, Prod.mk.injEq] at H; obtain ⟨rfl, rfl⟩ := H
    go_enter Try.func62, Try.ntmps62
    go_wp2
    go_ret2
    exact ⟨by first | rfl | (simp; done) | (simp [*]; done), by repeat (first | exact Drawn0.refl _ | apply Drawn0.step)⟩
   ·rw [if_neg c15] at H
    have c15b0 : (a1 == 0) = false := beq_eq_false_iff_ne.mpr c15; have c15b1 : (a1 != 0) = true := bne_iff_ne.mpr c15
    by_cases c16 : (wrap64 (Int.tdiv (wrap64 (a0 * a1)) a1)) = a0
    ·rw [if_pos c16] at H
     have c16b0 : ((wrap64 (Int.tdiv (wrap64 (a0 * a1)) a1)) == a0) = true := beq_iff_eq.mpr c16; have c16b1 : ((wrap64 (Int.tdiv (wrap64 (a0 * a1)) a1)) != a0) = false := bne_eq_false_iff_eq.mpr c16; clear c16; simp only [Option.some.injEq, Prod.mk.injEq] at H; obtain ⟨rfl, rfl⟩ := H
     go_enter Try.func62, Try.ntmps62
     go_wp2
     go_ret2
     exact ⟨by first | rfl | (simp; done) | (simp [*]; done), by repeat (first | exact Drawn0.refl _ | apply Drawn0.step)⟩
    ·rw [if_neg c16] at H
     have c16b0 : ((wrap64 (Int.tdiv (wrap64 (a0 * a1)) a1)) == a0) = false := beq_eq_false_iff_ne.mpr c16; have c16b1 : ((wrap64 (Int.tdiv (wrap64 (a0 * a1)) a1)) != a0) = true := bne_iff_ne.mpr c16; simp only [Option.some.injEq, Prod.mk.injEq] at H; obtain ⟨rfl, rfl⟩ := H
     go_enter Try.func62, Try.ntmps62
     go_wp2
     go_ret2
     exact ⟨by first | rfl | (simp; done) | (simp [*]; done), by repeat (first | exact Drawn0.refl _ | apply Drawn0.step)⟩

/-! ### safe_TimesS: a product, or its error: pure, behind function 62 -/
noncomputable def safe_TimesS.f (a b : Int) : Option (Int × Int) := Go.Proofs.Ytghpecgpdhaibaa.Sp.need (Go.Proofs.Ytghpecgpdhaibaa.Sp.I a ∧ Go.Proofs.Ytghpecgpdhaibaa.Sp.I b) (Go.Proofs.Ytghpecgpdhaibaa.Sp.fit (a * b))
section SafeTimes
open Go.Proofs.Ytghpecgpdhaibaa.Sp
theorem safe_Times.main {a b : Int} (h1 : I a) (h2 : I b) : safe_Times.f a b = fit (a * b) := by
 unfold safe_Times.f fit
 by_cases c : I (a * b)
 ·obtain ⟨k1, k2, k3⟩ := times_fits h1 h2 c
  rw [if_pos c]
  rw [w64 c] at *
  have k4 : b = 0 ∨ wrap64 (Int.tdiv (a * b) b) = a := by
   by_cases hb : b = 0
   ·exact Or.inl hb
   ·exact Or.inr (k3 hb)
  clear k3
  generalize wrap64 (Int.tdiv (a * b) b) = q at *
  (repeat' split) <;> first | rfl | (exfalso; omega)
 ·rw [if_neg c]
  have k : (a = -1 ∧ b = -9223372036854775808) ∨ (b = -1 ∧ a = -9223372036854775808) ∨ (b ≠ 0 ∧ wrap64 (Int.tdiv (wrap64 (a * b)) b) ≠ a) := by
   by_cases k1 : a = -1 ∧ b = -9223372036854775808
   ·exact Or.inl k1
   by_cases k2 : b = -1 ∧ a = -9223372036854775808
   ·exact Or.inr (Or.inl k2)
   exact Or.inr (Or.inr (times_over h1 h2 c k1 k2))
  generalize wrap64 (Int.tdiv (wrap64 (a * b)) b) = q at *
  generalize wrap64 (a * b) = p at *
  (repeat' split) <;> first | rfl | (exfalso; omega)
end SafeTimes
theorem safe_TimesS.calls (a0 a1 r1 r2 : Int) (w : World) (h : safe_TimesS.f a0 a1 = some (r1, r2)) :
  Calls Try.prog 62 #[.int .i64 a0, .int .i64 a1] w fun e w' => e = .returned (.tuple #[.int .i64 r1, .int .i64 r2]) ∧ Drawn0 w w' := by
 obtain ⟨hc, h⟩ := Go.Proofs.Ytghpecgpdhaibaa.Sp.need_some h; exact safe_Times.calls a0 a1 r1 r2 w (by rw [safe_Times.main hc.1 hc.2]; exact h)

/-! ### safe_Mul: function 36 -/
noncomputable def safe_Mul.f (a b : Int) : Option Int := Go.Proofs.Ytghpecgpdhaibaa.Sp.need (Go.Proofs.Ytghpecgpdhaibaa.Sp.I a ∧ Go.Proofs.Ytghpecgpdhaibaa.Sp.I b) (some (Go.Proofs.Ytghpecgpdhaibaa.Sp.near (a * b)))
theorem safe_Mul.eq {a b : Int} (h1 : Go.Proofs.Ytghpecgpdhaibaa.Sp.I a) (h2 : Go.Proofs.Ytghpecgpdhaibaa.Sp.I b) : safe_Mul.f a b = some (Go.Proofs.Ytghpecgpdhaibaa.Sp.near (a * b)) := Go.Proofs.Ytghpecgpdhaibaa.Sp.need_pos ⟨h1, h2⟩
theorem safe_TimesS.as {a b x y : Int} (h1 : Go.Proofs.Ytghpecgpdhaibaa.Sp.I a) (h2 : Go.Proofs.Ytghpecgpdhaibaa.Sp.I b) (h : Go.Proofs.Ytghpecgpdhaibaa.Sp.fit (a * b) = some (x, y)) : Aside0 (safe_TimesS.f a b = some (x, y)) := ⟨(Go.Proofs.Ytghpecgpdhaibaa.Sp.need_pos ⟨h1, h2⟩).trans h⟩
set_option maxHeartbeats 1000000 in
set_option maxRecDepth 100000 in
theorem safe_Mul.in_ (a0 a1 v : Int) (w : World) (HP : Aside0 (safe_TimesS.f a0 a1 = some (v, 0))) :
  Calls Try.prog 36 #[.int .i64 a0, .int .i64 a1] w fun e w' => e = .returned (.int .i64 v) ∧ Below w.heap.size w w' := by
 have hmf : ∀ (fn : Fn) (first cap : Array Value) (w : World), (Instr.makeFunc fn first cap).run Try.prog w = .ok (.func fn first cap) w := fun _ _ _ _ => rfl
 go_enter Try.func36, Try.ntmps36
 go_wp2_with (first | (go_at_call 62; refine (safe_TimesS.calls a0 a1 _ _ _ HP.out).mono ?_; rintro e w' ⟨rfl, ⟨nd, rfl⟩⟩) | go_in)
 go_ret
 exact ⟨rfl, by repeat (first | exact Below.refl _ _ | apply below_alloc | apply pw_below_drewN)⟩
set_option maxHeartbeats 2000000 in
set_option maxRecDepth 100000 in
theorem safe_Mul.out_ (a0 a1 v : Int) (x y : Bool) (w : World) (HP : Aside0 (safe_TimesS.f a0 a1 = some (0, 10))) (h1 : decide (a0 < 0) = x) (h2 : decide (a1 < 0) = y) (hv : v = if (x != y) = true then -9223372036854775808 else 9223372036854775807) :
  Calls Try.prog 36 #[.int .i64 a0, .int .i64 a1] w fun e w' => e = .returned (.int .i64 v) ∧ Below w.heap.size w w' := by
 have hmf : ∀ (fn : Fn) (first cap : Array Value) (w : World), (Instr.makeFunc fn first cap).run Try.prog w = .ok (.func fn first cap) w := fun _ _ _ _ => rfl
 cases x <;> cases y
 ·obtain rfl : v = 9223372036854775807 := by rw [hv]; rfl
  clear hv
  go_enter Try.func36, Try.ntmps36
  go_wp2_with (first | (go_at_call 62; refine (safe_TimesS.calls a0 a1 _ _ _ HP.out).mono ?_; rintro e w' ⟨rfl, ⟨nd, rfl⟩⟩) | go_in)
  go_ret
  exact ⟨rfl, by repeat (first | exact Below.refl _ _ | apply below_alloc | apply pw_below_drewN)⟩
 ·obtain rfl : v = -9223372036854775808 := by rw [hv]; rfl
  clear hv
  go_enter Try.func36, Try.ntmps36
  go_wp2_with (first | (go_at_call 62; refine (safe_TimesS.calls a0 a1 _ _ _ HP.out).mono ?_; rintro e w' ⟨rfl, ⟨nd, rfl⟩⟩) | go_in)
  go_ret
  exact ⟨rfl, by repeat (first | exact Below.refl _ _ | apply below_alloc | apply pw_below_drewN)⟩
 ·obtain rfl : v = -9223372036854775808 := by rw [hv]; rfl
  clear hv
  go_enter Try.func36, Try.ntmps36
  go_wp2_with (first | (go_at_call 62; refine (safe_TimesS.calls a0 a1 _ _ _ HP.out).mono ?_; rintro e w' ⟨rfl, ⟨nd, rfl⟩⟩) | go_in)
  go_ret
  exact ⟨rfl, by repeat (first | exact Below.refl _ _ | apply below_alloc | apply pw_below_drewN)⟩
 ·obtain rfl : v = 9223372036854775807 := by rw [hv]; rfl
  clear hv
  go_enter Try.func36, Try.ntmps36
  go_wp2_with (first | (go_at_call 62; refine (safe_TimesS.calls a0 a1 _ _ _ HP.out).mono ?_; rintro e w' ⟨rfl, ⟨nd, rfl⟩⟩) | go_in)
  go_ret
  exact ⟨rfl, by repeat (first | exact Below.refl _ _ | apply below_alloc | apply pw_below_drewN)⟩
theorem safe_Mul.calls (a0 a1 r : Int) (w : World) (h : safe_Mul.f a0 a1 = some r) :
  Calls Try.prog 36 #[.int .i64 a0, .int .i64 a1] w fun e w' => e = .returned (.int .i64 r) ∧ Below w.heap.size w w' := by
 obtain ⟨hc, h⟩ := Go.Proofs.Ytghpecgpdhaibaa.Sp.need_some h; obtain rfl := Option.some.inj h
 by_cases c : Go.Proofs.Ytghpecgpdhaibaa.Sp.I (a0 * a1)
 ·rw [Go.Proofs.Ytghpecgpdhaibaa.Sp.near_in c]
  exact safe_Mul.in_ a0 a1 _ w (safe_TimesS.as hc.1 hc.2 (Go.Proofs.Ytghpecgpdhaibaa.Sp.fit_in c))
 ·refine safe_Mul.out_ a0 a1 _ _ _ w (safe_TimesS.as hc.1 hc.2 (Go.Proofs.Ytghpecgpdhaibaa.Sp.fit_out c)) rfl rfl ?_; have m := Go.Proofs.Ytghpecgpdhaibaa.Sp.mul_sign a0 a1
  by_cases s : (decide (a0 < 0) != decide (a1 < 0)) = true
  ·rw [if_pos s, Go.Proofs.Ytghpecgpdhaibaa.Sp.near_lo (by have := m.1 s; omega)]
  ·rw [if_neg s, Go.Proofs.Ytghpecgpdhaibaa.Sp.near_hi (by have := m.2 (by simpa using s); omega)]

/-! ### rate_Of: function 18 -/
noncomputable def rate_Of.f (a0 : Int) (a1 : Int) (a2_0 : Bool) (a2_1 : Int) (a2_2 : Int) (a3 : Bool) : Option (Int) := (rate_Gain.f a3).bind fun bt244 => ((rate_bounds_int_take.f 0 68719476736 a0).bind fun t246 => ((rate_bounds_int_take.f 1 65535 a1).bind fun t247 => ((rate_timeS.f a2_0 a2_1 a2_2).bind fun t248 => ((frac_FloorS.f (wrap64 (t246 * bt244.1)) (wrap64 (t247 * 1000000)) (wrap64 ((wrap64 (bt244.2 * 65536)) * t248))).bind fun bt249 => (if bt249.2 = 0 then (some (mx bt249.1 1)) else ((safe_Mul.f 68719476736 65535).bind fun t251 => (some t251)))))))
def rate_Of.T3 : Bool × List (List Nat × List Nat) := (true, [([], []), ([], []), ([0, 1], [0, 1]), ([], []), ([2, 3], [2, 3]), ([], []), ([], []), ([5, 6, 2], [5, 6]), ([7], [7]), ([], []), ([9], [9]), ([], []), ([11, 7], [11]), ([10, 12], [10, 12]), ([4, 8, 13, 12], [4, 8, 13]), ([14], [14]), ([15], [15]), ([15], [15]), ([16, 14, 0, 1, 2, 3, 4, 5, 6, 7, 8, 9, 10, 11, 12, 13, 14, 15, 16], [16]), ([17, 18, 0, 1, 2, 3, 4, 5, 6, 7, 8, 9, 10, 11, 12, 13, 14, 15, 16, 17, 18], [17])])
def rate_Of.B3 : List Nat := [0, 0, 3, 0, 15, 0, 0, 103, 231, 0, 512, 0, 2279, 7911, 16383, 32767, 65535, 65535, 131071, 524287]
theorem rate_Of.tab3 : rtab .any (opsOf Try.f18 3) = rate_Of.T3 := by kernel_rfl
theorem rate_Of.bits3 : waitsOk rate_Of.T3.2 rate_Of.B3 = true := by kernel_rfl
set_option maxHeartbeats 8000000 in
set_option maxRecDepth 100000 in
theorem rate_Of.calls (a0 : Int) (a1 : Int) (a2_0 : Bool) (a2_1 : Int) (a2_2 : Int) (a3 : Bool) (r : Int) (w : World) (h : rate_Of.f a0 a1 a2_0 a2_1 a2_2 a3 = some r) :
  Calls Try.prog 18 #[.int .i64 a0, .int .i64 a1, .agg #[.bool a2_0, .int .i64 a2_1, .int .i64 a2_2], .bool a3] w fun e w' => e = .returned (.int .i64 r) ∧ Below w.heap.size w w' := by
 have hmf : ∀ (fn : Fn) (first cap : Array Value) (w : World), (Instr.makeFunc fn first cap).run Try.prog w = .ok (.func fn first cap) w := fun _ _ _ _ => rfl
 have hu23 := Try.underlying23; have hu53 := Try.underlying53; have HB := Aside0.mk (Below.refl w.heap.size w); have H : ((rate_Gain.f a3).bind fun bt244 => ((rate_bounds_int_take.f 0 68719476736 a0).bind fun t246 => ((rate_bounds_int_take.f 1 65535 a1).bind fun t247 => ((rate_timeS.f a2_0 a2_1 a2_2).bind fun t248 => ((frac_FloorS.f (wrap64 (t246 * bt244.1)) (wrap64 (t247 * 1000000)) (wrap64 ((wrap64 (bt244.2 * 65536)) * t248))).bind fun bt249 => (if bt249.2 = 0 then (some (mx bt249.1 1)) else ((safe_Mul.f 68719476736 65535).bind fun t251 => (some t251)))))))) = some r := h; clear h; replace H := Option.bind_eq_some_iff.mp H; obtain ⟨⟨t244, t245⟩, A50, H⟩ := H; (try dsimp only at H); have A5 := Aside0.mk A50; clear A50; replace H := Option.bind_eq_some_iff.mp H; obtain ⟨t246, A60, H⟩ := H; (try dsimp only at H); have A6 := Aside0.mk A60; clear A60; replace H := Option.bind_eq_some_iff.mp H; obtain ⟨t247, A70, H⟩ := H; (try dsimp only at H); have A7 := Aside0.mk A70; clear A70; replace H := Option.bind_eq_some_iff.mp H; obtain ⟨t248, A80, H⟩ := H; (try dsimp only at H); have A8 := Aside0.mk A80; clear A80; replace H := Option.bind_eq_some_iff.mp H; obtain ⟨⟨t249, t250⟩, A90, H⟩ := H; replace H : (if t250 = 0 then (some (mx t249 1)) else ((safe_Mul.f 68719476736 65535).bind fun t251 => (some t251))) = some r := H; have A9 := Aside0.mk A90; clear A90
 by_cases c10 : t250 = 0
 ·rw [if_pos c10] at H
  have c10b0 : (t250 == 0) = true := beq_iff_eq.mpr c10; have c10b1 : (t250 != 0) = false := bne_eq_false_iff_eq.mpr c10; clear c10
  obtain ⟨ji11, hji11⟩ : ∃ j_ : Int, (mx t249 1) = j_ := ⟨_, rfl⟩
  replace H : (some ji11) = some r := by first | (rw [hji11] at H; exact H) | (simp only [hji11] at H ⊢; exact H)
  (try rw [hji11] at A5)
  (try rw [hji11] at A6)
  (try rw [hji11] at A7)
  (try rw [hji11] at A8)
  (try rw [hji11] at A9)
  (try (have hji11l : 1 ≤ ji11 := by (rw [← hji11]; unfold mx; (repeat' split) <;> omega)))
  (try (have hji11m : 0 ≤ ji11 := by omega))
  have hji11_ : (if t249 < 1 then 1 else t249) = ji11 := hji11; obtain rfl := Option.some.inj H
  go_enter Try.func18, Try.ntmps18
  try go_wp2_with (first | ((with_reducible refine gate_dst (N := 6) rfl ?_); refine box_event ?hg (N := 6) ?hd (cs := #[.bool a2_0, .int .i64 a2_1, .int .i64 a2_2]) (t := 23) ?hr ?_; (case hd => rfl); (case hg => rfl); (case hr => first | (go_simp; done) | (go_simp; rfl)); intro gb243 hg w12 hbox hb; have BK243 := Aside0.mk (hbox); obtain ⟨GW243, nHB⟩ := geA hg hb; have GE243 := GW243; replace HB := nHB; clear nHB; clear hb hbox hg) | ((with_reducible refine gate_callee (f := 16) rfl ?_); refine goesLA_ (some 21) rfl rfl Try.func16 rfl #[.bool a3] rfl ?_; (with_reducible refine (rate_Gain.calls a3 t244 t245 _ A5.out).mono ?_); rintro e w' ⟨rfl, ⟨nd, rfl⟩⟩; refine ⟨_, rfl, ?_⟩))
  (try (rw [drewN_self w12]; generalize hq_ : World.drewN w12 _ = w12; have n0_ : Aside0 (w12.heap[gb243]? = some (.cells #[.bool a2_0, .int .i64 a2_1, .int .i64 a2_2] 23 (0, 0))) := ⟨by rw [← hq_]; exact BK243.out⟩; have n1_ : Aside0 (Below w.heap.size w w12) := ⟨by rw [← hq_]; exact (by repeat (first | (with_reducible first | exact HB.out | apply below_alloc | apply pw_below_drewN | apply below_drew1 | refine below_set ?_ GE243.out) | exact HB.out))⟩; clear BK243 HB hq_; have BK243 := n0_; have HB := n1_; clear n0_ n1_))
  replace BK243 := Aside0.mk (blk_drew BK243.out); replace HB := Aside0.mk (below_drew1 HB.out); refine start_ (n := 20) (S := fun w' => w'.cell? ⟨gb243, 0, none⟩ = some (.bool a2_0) ∧ w'.cell? ⟨gb243, 1, none⟩ = some (.int .i64 a2_1) ∧ w'.cell? ⟨gb243, 2, none⟩ = some (.int .i64 a2_2)) (ds := []) #[N,N,N,N,N,N,N,N,N,N,N,N,N,N,N,N,N,N,N,N] (by kernel_rfl) rfl rfl ⟨(blk_cell BK243.out 0).trans rfl, (blk_cell BK243.out 1).trans rfl, (blk_cell BK243.out 2).trans rfl⟩ (fun hHeld => ?_); refine with_tabW rate_Of.tab3 rate_Of.bits3 (fun HT_ HW_ => ?_)
  generalize w12.drew = w13 at BK243 HB hHeld ⊢
  refine pureA_ (i := 0) (N := some 25) #[Y,N,N,N,N,N,N,N,N,N,N,N,N,N,N,N,N,N,N,N] rfl rfl (any_of HT_.out (by kernel_rfl)) ?_
  refine pureA_ (i := 1) (N := some 26) #[Y,Y,N,N,N,N,N,N,N,N,N,N,N,N,N,N,N,N,N,N] rfl rfl (any_of HT_.out (by kernel_rfl)) ?_
  refine pureA_ (i := 3) (N := some 28) #[Y,Y,N,Y,N,N,N,N,N,N,N,N,N,N,N,N,N,N,N,N] rfl rfl (any_of HT_.out (by kernel_rfl)) ?_
  refine pureA_ (i := 5) (N := some 30) #[Y,Y,N,Y,N,Y,N,N,N,N,N,N,N,N,N,N,N,N,N,N] rfl rfl (any_of HT_.out (by kernel_rfl)) ?_
  refine pureA_ (i := 6) (N := some 31) #[Y,Y,N,Y,N,Y,Y,N,N,N,N,N,N,N,N,N,N,N,N,N] rfl rfl (any_of HT_.out (by kernel_rfl)) ?_
  refine pureA_ (i := 9) (N := some 34) #[Y,Y,N,Y,N,Y,Y,N,N,Y,N,N,N,N,N,N,N,N,N,N] rfl rfl (any_of HT_.out (by kernel_rfl)) ?_
  refine pureA_ (i := 10) (N := some 35) #[Y,Y,N,Y,N,Y,Y,N,N,Y,Y,N,N,N,N,N,N,N,N,N] rfl rfl (any_of HT_.out (by kernel_rfl)) ?_
  refine take_ (i := 11) (N := some 36) (v := ?_) (a' := ?_) #[Y,Y,N,Y,N,Y,Y,N,N,Y,Y,Y,N,N,N,N,N,N,N,N] rfl rfl (take_ofW HT_.out HW_.out (by kernel_rfl)) (fun _ _ _ h => h) (Or.inl ⟨by rfl, ?_⟩) hHeld ?_ ?_; rotate_left
  ·rintro w' ⟨s0, s1, s2⟩; go_simp
   with_reducible rfl
  rotate_left
  ·simp only [Act.put, sA, sB, sC, i64_w, i32_w]
   rfl
  refine one_ (i := 2) (N := some 27) #[Y,Y,Y,Y,N,Y,Y,N,N,Y,Y,Y,N,N,N,N,N,N,N,N] rfl rfl (one_of HT_.out (by kernel_rfl)) (by decide) (fun K hK => ?_); refine goesF_ Try.func33 rfl #[.agg #[.int .i64 0, .int .i64 68719476736], .int .i64 a0] (by rfl) rfl rfl ?_
  with_reducible refine (rate_bounds_int_take.calls 0 68719476736 a0 t246 _ A6.out).mono ?_
  rintro e w14 ⟨rfl, hb⟩; refine ⟨_, rfl, ?_⟩; replace BK243 := bbZ BK243 hb; replace HB := Aside0.mk (below_step HB.out hb); clear hb; refine hK.out _ _ ⟨(blk_cell BK243.out 0).trans rfl, (blk_cell BK243.out 1).trans rfl, (blk_cell BK243.out 2).trans rfl⟩ (fun hHeld => ?_); clear hK K; refine normA_ (some 27) ?_
  refine pureA_ (i := 4) (N := some 29) #[Y,Y,Y,Y,Y,Y,Y,N,N,Y,Y,Y,N,N,N,N,N,N,N,N] rfl rfl (any_of HT_.out (by kernel_rfl)) ?_
  refine one_ (i := 7) (N := some 32) #[Y,Y,Y,Y,Y,Y,Y,Y,N,Y,Y,Y,N,N,N,N,N,N,N,N] rfl rfl (one_of HT_.out (by kernel_rfl)) (by decide) (fun K hK => ?_); refine goesF_ Try.func33 rfl #[.agg #[.int .i64 1, .int .i64 65535], .int .i64 a1] (by rfl) rfl rfl ?_
  with_reducible refine (rate_bounds_int_take.calls 1 65535 a1 t247 _ A7.out).mono ?_
  rintro e w15 ⟨rfl, hb⟩; refine ⟨_, rfl, ?_⟩; replace BK243 := bbZ BK243 hb; replace HB := Aside0.mk (below_step HB.out hb); clear hb; refine hK.out _ _ ⟨(blk_cell BK243.out 0).trans rfl, (blk_cell BK243.out 1).trans rfl, (blk_cell BK243.out 2).trans rfl⟩ (fun hHeld => ?_); clear hK K; refine normA_ (some 32) ?_
  refine pureA_ (i := 8) (N := some 33) #[Y,Y,Y,Y,Y,Y,Y,Y,Y,Y,Y,Y,N,N,N,N,N,N,N,N] rfl rfl (any_of HT_.out (by kernel_rfl)) ?_
  refine one_ (i := 12) (N := some 37) #[Y,Y,Y,Y,Y,Y,Y,Y,Y,Y,Y,Y,Y,N,N,N,N,N,N,N] rfl rfl (one_of HT_.out (by kernel_rfl)) (by decide) (fun K hK => ?_); refine goesA_ Try.func35 rfl #[.agg #[.bool a2_0, .int .i64 a2_1, .int .i64 a2_2]] (by rfl) rfl rfl ?_
  with_reducible refine (rate_timeS.calls a2_0 a2_1 a2_2 t248 _ A8.out).mono ?_
  rintro e w16 ⟨rfl, hb⟩; refine ⟨_, rfl, ?_⟩; replace BK243 := bbZ BK243 hb; replace HB := Aside0.mk (below_step HB.out hb); clear hb; refine hK.out _ _ ⟨(blk_cell BK243.out 0).trans rfl, (blk_cell BK243.out 1).trans rfl, (blk_cell BK243.out 2).trans rfl⟩ (fun hHeld => ?_); clear hK K; refine normA_ (some 37) ?_
  refine pureA_ (i := 13) (N := some 38) #[Y,Y,Y,Y,Y,Y,Y,Y,Y,Y,Y,Y,Y,Y,N,N,N,N,N,N] rfl rfl (any_of HT_.out (by kernel_rfl)) ?_
  refine one_ (i := 14) (N := some 39) #[Y,Y,Y,Y,Y,Y,Y,Y,Y,Y,Y,Y,Y,Y,Y,N,N,N,N,N] rfl rfl (one_of HT_.out (by kernel_rfl)) (by decide) (fun K hK => ?_); refine goesA_ Try.func34 rfl #[.int .i64 (wrap64 (t246 * t244)), .int .i64 (wrap64 (t247 * 1000000)), .int .i64 (wrap64 ((wrap64 (t245 * 65536)) * t248))] (by rfl) rfl rfl ?_
  with_reducible refine (frac_FloorS.calls (wrap64 (t246 * t244)) (wrap64 (t247 * 1000000)) (wrap64 ((wrap64 (t245 * 65536)) * t248)) t249 t250 _ A9.out).mono ?_
  rintro e w17 ⟨rfl, hb⟩; refine ⟨_, rfl, ?_⟩; replace BK243 := bbZ BK243 hb; replace HB := Aside0.mk (below_step HB.out hb); clear hb; refine hK.out _ _ ⟨(blk_cell BK243.out 0).trans rfl, (blk_cell BK243.out 1).trans rfl, (blk_cell BK243.out 2).trans rfl⟩ (fun hHeld => ?_); clear hK K; refine normA_ (some 39) ?_
  refine pureA_ (i := 15) (N := some 24) #[Y,Y,Y,Y,Y,Y,Y,Y,Y,Y,Y,Y,Y,Y,Y,Y,N,N,N,N] rfl rfl (any_of HT_.out (by kernel_rfl)) ?_
  refine pureA_ (i := 16) (N := some 40) #[Y,Y,Y,Y,Y,Y,Y,Y,Y,Y,Y,Y,Y,Y,Y,Y,Y,N,N,N] rfl rfl (any_of HT_.out (by kernel_rfl)) ?_
  refine pureA_ (i := 17) (N := some 41) #[Y,Y,Y,Y,Y,Y,Y,Y,Y,Y,Y,Y,Y,Y,Y,Y,Y,Y,N,N] rfl rfl (any_of HT_.out (by kernel_rfl)) ?_
  refine pureA_ (i := 18) (N := some 13) #[Y,Y,Y,Y,Y,Y,Y,Y,Y,Y,Y,Y,Y,Y,Y,Y,Y,Y,Y,N] rfl rfl (any_of HT_.out (by kernel_rfl)) ?_
  refine pureA_ (i := 19) (N := some 14) #[Y,Y,Y,Y,Y,Y,Y,Y,Y,Y,Y,Y,Y,Y,Y,Y,Y,Y,Y,Y] rfl rfl (any_of HT_.out (by kernel_rfl)) ?_
  refine done_ (done_of HT_.out (by kernel_rfl)) ?_
  try go_wp2
  go_ret
  exact ⟨by first | rfl | (simp [errW_none, errW_some] <;> rfl) | (simp only [← hji11]; first | rfl | (simp [errW_none, errW_some] <;> rfl)) | (simp [*, errW_none, errW_some] <;> rfl), by repeat (first | (with_reducible first | exact HB.out | apply below_alloc | apply pw_below_drewN | apply below_drew1 | refine below_set ?_ GE243.out) | exact HB.out)⟩
 ·rw [if_neg c10] at H
  have c10b0 : (t250 == 0) = false := beq_eq_false_iff_ne.mpr c10; have c10b1 : (t250 != 0) = true := bne_iff_ne.mpr c10; replace H := Option.bind_eq_some_iff.mp H; obtain ⟨t251, A180, H⟩ := H; replace H : (some t251) = some r := H; have A18 := Aside0.mk A180; clear A180; obtain rfl := Option.some.inj H
  go_enter Try.func18, Try.ntmps18
  try go_wp2_with (first | ((with_reducible refine gate_dst (N := 6) rfl ?_); refine box_event ?hg (N := 6) ?hd (cs := #[.bool a2_0, .int .i64 a2_1, .int .i64 a2_2]) (t := 23) ?hr ?_; (case hd => rfl); (case hg => rfl); (case hr => first | (go_simp; done) | (go_simp; rfl)); intro gb243 hg w19 hbox hb; have BK243 := Aside0.mk (hbox); obtain ⟨GW243, nHB⟩ := geA hg hb; have GE243 := GW243; replace HB := nHB; clear nHB; clear hb hbox hg) | ((with_reducible refine gate_callee (f := 16) rfl ?_); refine goesLA_ (some 21) rfl rfl Try.func16 rfl #[.bool a3] rfl ?_; (with_reducible refine (rate_Gain.calls a3 t244 t245 _ A5.out).mono ?_); rintro e w' ⟨rfl, ⟨nd, rfl⟩⟩; refine ⟨_, rfl, ?_⟩))
  (try (rw [drewN_self w19]; generalize hq_ : World.drewN w19 _ = w19; have n0_ : Aside0 (w19.heap[gb243]? = some (.cells #[.bool a2_0, .int .i64 a2_1, .int .i64 a2_2] 23 (0, 0))) := ⟨by rw [← hq_]; exact BK243.out⟩; have n1_ : Aside0 (Below w.heap.size w w19) := ⟨by rw [← hq_]; exact (by repeat (first | (with_reducible first | exact HB.out | apply below_alloc | apply pw_below_drewN | apply below_drew1 | refine below_set ?_ GE243.out) | exact HB.out))⟩; clear BK243 HB hq_; have BK243 := n0_; have HB := n1_; clear n0_ n1_))
  replace BK243 := Aside0.mk (blk_drew BK243.out); replace HB := Aside0.mk (below_drew1 HB.out); refine start_ (n := 20) (S := fun w' => w'.cell? ⟨gb243, 0, none⟩ = some (.bool a2_0) ∧ w'.cell? ⟨gb243, 1, none⟩ = some (.int .i64 a2_1) ∧ w'.cell? ⟨gb243, 2, none⟩ = some (.int .i64 a2_2)) (ds := []) #[N,N,N,N,N,N,N,N,N,N,N,N,N,N,N,N,N,N,N,N] (by kernel_rfl) rfl rfl ⟨(blk_cell BK243.out 0).trans rfl, (blk_cell BK243.out 1).trans rfl, (blk_cell BK243.out 2).trans rfl⟩ (fun hHeld => ?_); refine with_tabW rate_Of.tab3 rate_Of.bits3 (fun HT_ HW_ => ?_)
  generalize w19.drew = w20 at BK243 HB hHeld ⊢
  refine pureA_ (i := 0) (N := some 25) #[Y,N,N,N,N,N,N,N,N,N,N,N,N,N,N,N,N,N,N,N] rfl rfl (any_of HT_.out (by kernel_rfl)) ?_
  refine pureA_ (i := 1) (N := some 26) #[Y,Y,N,N,N,N,N,N,N,N,N,N,N,N,N,N,N,N,N,N] rfl rfl (any_of HT_.out (by kernel_rfl)) ?_
  refine pureA_ (i := 3) (N := some 28) #[Y,Y,N,Y,N,N,N,N,N,N,N,N,N,N,N,N,N,N,N,N] rfl rfl (any_of HT_.out (by kernel_rfl)) ?_
  refine pureA_ (i := 5) (N := some 30) #[Y,Y,N,Y,N,Y,N,N,N,N,N,N,N,N,N,N,N,N,N,N] rfl rfl (any_of HT_.out (by kernel_rfl)) ?_
  refine pureA_ (i := 6) (N := some 31) #[Y,Y,N,Y,N,Y,Y,N,N,N,N,N,N,N,N,N,N,N,N,N] rfl rfl (any_of HT_.out (by kernel_rfl)) ?_
  refine pureA_ (i := 9) (N := some 34) #[Y,Y,N,Y,N,Y,Y,N,N,Y,N,N,N,N,N,N,N,N,N,N] rfl rfl (any_of HT_.out (by kernel_rfl)) ?_
  refine pureA_ (i := 10) (N := some 35) #[Y,Y,N,Y,N,Y,Y,N,N,Y,Y,N,N,N,N,N,N,N,N,N] rfl rfl (any_of HT_.out (by kernel_rfl)) ?_
  refine take_ (i := 11) (N := some 36) (v := ?_) (a' := ?_) #[Y,Y,N,Y,N,Y,Y,N,N,Y,Y,Y,N,N,N,N,N,N,N,N] rfl rfl (take_ofW HT_.out HW_.out (by kernel_rfl)) (fun _ _ _ h => h) (Or.inl ⟨by rfl, ?_⟩) hHeld ?_ ?_; rotate_left
  ·rintro w' ⟨s0, s1, s2⟩; go_simp
   with_reducible rfl
  rotate_left
  ·simp only [Act.put, sA, sB, sC, i64_w, i32_w]
   rfl
  refine one_ (i := 2) (N := some 27) #[Y,Y,Y,Y,N,Y,Y,N,N,Y,Y,Y,N,N,N,N,N,N,N,N] rfl rfl (one_of HT_.out (by kernel_rfl)) (by decide) (fun K hK => ?_); refine goesF_ Try.func33 rfl #[.agg #[.int .i64 0, .int .i64 68719476736], .int .i64 a0] (by rfl) rfl rfl ?_
  with_reducible refine (rate_bounds_int_take.calls 0 68719476736 a0 t246 _ A6.out).mono ?_
  rintro e w21 ⟨rfl, hb⟩; refine ⟨_, rfl, ?_⟩; replace BK243 := bbZ BK243 hb; replace HB := Aside0.mk (below_step HB.out hb); clear hb; refine hK.out _ _ ⟨(blk_cell BK243.out 0).trans rfl, (blk_cell BK243.out 1).trans rfl, (blk_cell BK243.out 2).trans rfl⟩ (fun hHeld => ?_); clear hK K; refine normA_ (some 27) ?_
  refine pureA_ (i := 4) (N := some 29) #[Y,Y,Y,Y,Y,Y,Y,N,N,Y,Y,Y,N,N,N,N,N,N,N,N] rfl rfl (any_of HT_.out (by kernel_rfl)) ?_
  refine one_ (i := 7) (N := some 32) #[Y,Y,Y,Y,Y,Y,Y,Y,N,Y,Y,Y,N,N,N,N,N,N,N,N] rfl rfl (one_of HT_.out (by kernel_rfl)) (by decide) (fun K hK => ?_); refine goesF_ Try.func33 rfl #[.agg #[.int .i64 1, .int .i64 65535], .int .i64 a1] (by rfl) rfl rfl ?_
  with_reducible refine (rate_bounds_int_take.calls 1 65535 a1 t247 _ A7.out).mono ?_
  rintro e w22 ⟨rfl, hb⟩; refine ⟨_, rfl, ?_⟩; replace BK243 := bbZ BK243 hb; replace HB := Aside0.mk (below_step HB.out hb); clear hb; refine hK.out _ _ ⟨(blk_cell BK243.out 0).trans rfl, (blk_cell BK243.out 1).trans rfl, (blk_cell BK243.out 2).trans rfl⟩ (fun hHeld => ?_); clear hK K; refine normA_ (some 32) ?_
  refine pureA_ (i := 8) (N := some 33) #[Y,Y,Y,Y,Y,Y,Y,Y,Y,Y,Y,Y,N,N,N,N,N,N,N,N] rfl rfl (any_of HT_.out (by kernel_rfl)) ?_
  refine one_ (i := 12) (N := some 37) #[Y,Y,Y,Y,Y,Y,Y,Y,Y,Y,Y,Y,Y,N,N,N,N,N,N,N] rfl rfl (one_of HT_.out (by kernel_rfl)) (by decide) (fun K hK => ?_); refine goesA_ Try.func35 rfl #[.agg #[.bool a2_0, .int .i64 a2_1, .int .i64 a2_2]] (by rfl) rfl rfl ?_
  with_reducible refine (rate_timeS.calls a2_0 a2_1 a2_2 t248 _ A8.out).mono ?_
  rintro e w23 ⟨rfl, hb⟩; refine ⟨_, rfl, ?_⟩; replace BK243 := bbZ BK243 hb; replace HB := Aside0.mk (below_step HB.out hb); clear hb; refine hK.out _ _ ⟨(blk_cell BK243.out 0).trans rfl, (blk_cell BK243.out 1).trans rfl, (blk_cell BK243.out 2).trans rfl⟩ (fun hHeld => ?_); clear hK K; refine normA_ (some 37) ?_
  refine pureA_ (i := 13) (N := some 38) #[Y,Y,Y,Y,Y,Y,Y,Y,Y,Y,Y,Y,Y,Y,N,N,N,N,N,N] rfl rfl (any_of HT_.out (by kernel_rfl)) ?_
  refine one_ (i := 14) (N := some 39) #[Y,Y,Y,Y,Y,Y,Y,Y,Y,Y,Y,Y,Y,Y,Y,N,N,N,N,N] rfl rfl (one_of HT_.out (by kernel_rfl)) (by decide) (fun K hK => ?_); refine goesA_ Try.func34 rfl #[.int .i64 (wrap64 (t246 * t244)), .int .i64 (wrap64 (t247 * 1000000)), .int .i64 (wrap64 ((wrap64 (t245 * 65536)) * t248))] (by rfl) rfl rfl ?_
  with_reducible refine (frac_FloorS.calls (wrap64 (t246 * t244)) (wrap64 (t247 * 1000000)) (wrap64 ((wrap64 (t245 * 65536)) * t248)) t249 t250 _ A9.out).mono ?_
  rintro e w24 ⟨rfl, hb⟩; refine ⟨_, rfl, ?_⟩; replace BK243 := bbZ BK243 hb; replace HB := Aside0.mk (below_step HB.out hb); clear hb; refine hK.out _ _ ⟨(blk_cell BK243.out 0).trans rfl, (blk_cell BK243.out 1).trans rfl, (blk_cell BK243.out 2).trans rfl⟩ (fun hHeld => ?_); clear hK K; refine normA_ (some 39) ?_
  refine pureA_ (i := 15) (N := some 24) #[Y,Y,Y,Y,Y,Y,Y,Y,Y,Y,Y,Y,Y,Y,Y,Y,N,N,N,N] rfl rfl (any_of HT_.out (by kernel_rfl)) ?_
  refine pureA_ (i := 16) (N := some 40) #[Y,Y,Y,Y,Y,Y,Y,Y,Y,Y,Y,Y,Y,Y,Y,Y,Y,N,N,N] rfl rfl (any_of HT_.out (by kernel_rfl)) ?_
  refine pureA_ (i := 17) (N := some 41) #[Y,Y,Y,Y,Y,Y,Y,Y,Y,Y,Y,Y,Y,Y,Y,Y,Y,Y,N,N] rfl rfl (any_of HT_.out (by kernel_rfl)) ?_
  refine pureA_ (i := 18) (N := some 13) #[Y,Y,Y,Y,Y,Y,Y,Y,Y,Y,Y,Y,Y,Y,Y,Y,Y,Y,Y,N] rfl rfl (any_of HT_.out (by kernel_rfl)) ?_
  refine pureA_ (i := 19) (N := some 14) #[Y,Y,Y,Y,Y,Y,Y,Y,Y,Y,Y,Y,Y,Y,Y,Y,Y,Y,Y,Y] rfl rfl (any_of HT_.out (by kernel_rfl)) ?_
  refine done_ (done_of HT_.out (by kernel_rfl)) ?_
  try go_wp2_with (first | ((with_reducible refine gate_callee (f := 36) rfl ?_); refine goesLA_ (some 44) rfl rfl Try.func36 rfl #[.int .i64 68719476736, .int .i64 65535] rfl ?_; (with_reducible refine (safe_Mul.calls 68719476736 65535 t251 _ A18.out).mono ?_); rintro e w25 ⟨rfl, hb⟩; refine ⟨_, rfl, ?_⟩; replace BK243 := bdZ BK243 hb; replace HB := stA hb; clear hb))
  go_ret
  exact ⟨by first | rfl | (simp [errW_none, errW_some] <;> rfl) | (simp [*, errW_none, errW_some] <;> rfl), by repeat (first | (with_reducible first | exact HB.out | apply below_alloc | apply pw_below_drewN | apply below_drew1 | refine below_set ?_ GE243.out) | exact HB.out)⟩

end Go.Proofs.Ytghpecgpdhaibaa.Px
