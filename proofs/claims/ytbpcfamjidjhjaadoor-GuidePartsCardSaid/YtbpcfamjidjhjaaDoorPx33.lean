/- Printed by px.py, over the kit's print. Conditions: none beside the theorems' own. -/
import Derived.Test.YtbpcfamjidjhjaaDoorPx0
import Derived.Test.YtbpcfamjidjhjaaDoorPx32
import Derived.Test.YtbpcfamjidjhjaaDoorSpec
namespace Go.Proofs.YtbpcfamjidjhjaaDoor.Px
open Go.RowKit Go.Proofs.YtbpcfamjidjhjaaDoorW.PrintWords Go.Proofs.YtbpcfamjidjhjaaDoorW.PrintLast Go.Proofs.YtbpcfamjidjhjaaDoorW.PrintMore
attribute [local go_sem] max2_int min2_int max_two min_two max_three min_three max_four min_four
set_option linter.unusedVariables false
set_option linter.unusedSimpArgs false

/-! ### sawtoothref02_less: function 51 -/
noncomputable def sawtoothref02_less.f (a0 a1 a2 a3 b0 b1 b2 b3 : Int) : Option Bool :=
 if a3 = b3 then (if a2 = b2 then (if a1 = b1 then (if a0 = b0 then some false else some (decide (a0 < b0))) else some (decide (a1 < b1))) else some (decide (a2 < b2))) else some (decide (a3 < b3))
set_option maxHeartbeats 4000000 in
set_option maxRecDepth 100000 in
theorem sawtoothref02_less.calls (a0 a1 a2 a3 b0 b1 b2 b3 : Int) (r : Bool) (w : World) (h : sawtoothref02_less.f a0 a1 a2 a3 b0 b1 b2 b3 = some r) :
  Calls Tryd.prog 51 #[.agg #[.int .u64 a0, .int .u64 a1, .int .u64 a2, .int .u64 a3], .agg #[.int .u64 b0, .int .u64 b1, .int .u64 b2, .int .u64 b3]] w fun e w' => e = .returned (.bool r) ∧ Below w.heap.size w w' := by
 have hu69 := Tryd.underlying76; have HB := Aside0.mk (Below.refl w.heap.size w)
 unfold sawtoothref02_less.f at h
 by_cases c3 : a3 = b3
 rotate_left
 ·rw [if_neg c3] at h
  obtain rfl := Option.some.inj h; clear h
  have d3 : (a3 != b3) = true := by simp [c3]
  clear c3
  go_enter Tryd.func51, Tryd.ntmps51
  go_wp2_with (fail)
  refine wp_loop_rounds 1 ?_
  rw [rounds_succ]
  go_wp2_with (fail)
  go_quiet (fail)
  go_wp2_with (fail)
  go_quiet (fail)
  go_wp2_with (fail)
  go_ret
  exact ⟨rfl, by repeat (first | exact HB.out | apply below_alloc | apply pw_below_drewN)⟩
 rw [if_pos c3] at h
 subst c3
 by_cases c2 : a2 = b2
 rotate_left
 ·rw [if_neg c2] at h
  obtain rfl := Option.some.inj h; clear h
  have d2 : (a2 != b2) = true := by simp [c2]
  clear c2
  go_enter Tryd.func51, Tryd.ntmps51
  go_wp2_with (fail)
  refine wp_loop_rounds 2 ?_
  rw [rounds_succ]
  go_wp2_with (fail)
  go_quiet (fail)
  go_wp2_with (fail)
  rw [rounds_succ]
  go_wp2_with (fail)
  go_quiet (fail)
  go_wp2_with (fail)
  go_quiet (fail)
  go_wp2_with (fail)
  go_ret
  exact ⟨rfl, by repeat (first | exact HB.out | apply below_alloc | apply pw_below_drewN)⟩
 rw [if_pos c2] at h
 subst c2
 by_cases c1 : a1 = b1
 rotate_left
 ·rw [if_neg c1] at h
  obtain rfl := Option.some.inj h; clear h
  have d1 : (a1 != b1) = true := by simp [c1]
  clear c1
  go_enter Tryd.func51, Tryd.ntmps51
  go_wp2_with (fail)
  refine wp_loop_rounds 3 ?_
  rw [rounds_succ]
  go_wp2_with (fail)
  go_quiet (fail)
  go_wp2_with (fail)
  rw [rounds_succ]
  go_wp2_with (fail)
  go_quiet (fail)
  go_wp2_with (fail)
  rw [rounds_succ]
  go_wp2_with (fail)
  go_quiet (fail)
  go_wp2_with (fail)
  go_quiet (fail)
  go_wp2_with (fail)
  go_ret
  exact ⟨rfl, by repeat (first | exact HB.out | apply below_alloc | apply pw_below_drewN)⟩
 rw [if_pos c1] at h
 subst c1
 by_cases c0 : a0 = b0
 rotate_left
 ·rw [if_neg c0] at h
  obtain rfl := Option.some.inj h; clear h
  have d0 : (a0 != b0) = true := by simp [c0]
  clear c0
  go_enter Tryd.func51, Tryd.ntmps51
  go_wp2_with (fail)
  refine wp_loop_rounds 4 ?_
  rw [rounds_succ]
  go_wp2_with (fail)
  go_quiet (fail)
  go_wp2_with (fail)
  rw [rounds_succ]
  go_wp2_with (fail)
  go_quiet (fail)
  go_wp2_with (fail)
  rw [rounds_succ]
  go_wp2_with (fail)
  go_quiet (fail)
  go_wp2_with (fail)
  rw [rounds_succ]
  go_wp2_with (fail)
  go_quiet (fail)
  go_wp2_with (fail)
  go_quiet (fail)
  go_wp2_with (fail)
  go_ret
  exact ⟨rfl, by repeat (first | exact HB.out | apply below_alloc | apply pw_below_drewN)⟩
 rw [if_pos c0] at h
 subst c0
 obtain rfl := Option.some.inj h; clear h
 go_enter Tryd.func51, Tryd.ntmps51
 go_wp2_with (fail)
 refine wp_loop_rounds 5 ?_
 rw [rounds_succ]
 go_wp2_with (fail)
 go_quiet (fail)
 go_wp2_with (fail)
 rw [rounds_succ]
 go_wp2_with (fail)
 go_quiet (fail)
 go_wp2_with (fail)
 rw [rounds_succ]
 go_wp2_with (fail)
 go_quiet (fail)
 go_wp2_with (fail)
 rw [rounds_succ]
 go_wp2_with (fail)
 go_quiet (fail)
 go_wp2_with (fail)
 rw [rounds_succ]
 go_wp2_with (fail)
 go_ret
 exact ⟨rfl, by repeat (first | exact HB.out | apply below_alloc | apply pw_below_drewN)⟩
section Ref02Less
open Go.Proofs.YtbpcfamjidjhjaaDoor.Sp
theorem sawtoothref02_less.eq {h l i k : Int} (h1 : U h) (h2 : U l) (h3 : U i) (h4 : U k) : sawtoothref02_less.f (l % 4294967296) (l / 4294967296) (h % 4294967296) (h / 4294967296) (k % 4294967296) (k / 4294967296) (i % 4294967296) (i / 4294967296) = some (decide (h * 18446744073709551616 + l < i * 18446744073709551616 + k)) := by
 unfold sawtoothref02_less.f
 split
 ·split
  ·split
   ·split
    ·rw [decide_eq_false]; omega
    ·congr 1; rw [decide_eq_decide]; omega
   ·congr 1; rw [decide_eq_decide]; omega
  ·congr 1; rw [decide_eq_decide]; omega
 ·congr 1; rw [decide_eq_decide]; omega
end Ref02Less

/-! ### sawtoothref02_whole: function 67 -/
noncomputable def sawtoothref02_whole.f (a0_0 : Int) (a0_1 : Int) (a0_2 : Int) (a0_3 : Int) (a1 : Bool) : Option (Bool × Int × Int) := if a1 = true then (if (IntKind.u64.wrap ((IntKind.u64.wrap (a0_3 * 4294967296)) + a0_2)) > 0 then (some (true, IntKind.u64.wrap ((IntKind.u64.wrap (a0_3 * 4294967296)) + a0_2), IntKind.u64.wrap ((IntKind.u64.wrap (a0_1 * 4294967296)) + a0_0))) else (some (decide ((IntKind.u64.wrap ((IntKind.u64.wrap (a0_1 * 4294967296)) + a0_0)) > 0), IntKind.u64.wrap ((IntKind.u64.wrap (a0_3 * 4294967296)) + a0_2), IntKind.u64.wrap ((IntKind.u64.wrap (a0_1 * 4294967296)) + a0_0)))) else (some (false, IntKind.u64.wrap ((IntKind.u64.wrap (a0_3 * 4294967296)) + a0_2), IntKind.u64.wrap ((IntKind.u64.wrap (a0_1 * 4294967296)) + a0_0)))
set_option maxHeartbeats 8000000 in
set_option maxRecDepth 100000 in
theorem sawtoothref02_whole.calls (a0_0 : Int) (a0_1 : Int) (a0_2 : Int) (a0_3 : Int) (a1 : Bool) (r1 : Bool) (r2 : Int) (r3 : Int) (w : World) (h : sawtoothref02_whole.f a0_0 a0_1 a0_2 a0_3 a1 = some (r1, r2, r3)) :
  Calls Tryd.prog 67 #[.agg #[.int .u64 a0_0, .int .u64 a0_1, .int .u64 a0_2, .int .u64 a0_3], .bool a1] w fun e w' => e = .returned (.agg #[.bool r1, .int .u64 r2, .int .u64 r3]) ∧ Below w.heap.size w w' := by
 have hu76 := Tryd.underlying76; have hu59 := Tryd.underlying59; have HB := Aside0.mk (Below.refl w.heap.size w); have H : (if a1 = true then (if (IntKind.u64.wrap ((IntKind.u64.wrap (a0_3 * 4294967296)) + a0_2)) > 0 then (some (true, IntKind.u64.wrap ((IntKind.u64.wrap (a0_3 * 4294967296)) + a0_2), IntKind.u64.wrap ((IntKind.u64.wrap (a0_1 * 4294967296)) + a0_0))) else (some (decide ((IntKind.u64.wrap ((IntKind.u64.wrap (a0_1 * 4294967296)) + a0_0)) > 0), IntKind.u64.wrap ((IntKind.u64.wrap (a0_3 * 4294967296)) + a0_2), IntKind.u64.wrap ((IntKind.u64.wrap (a0_1 * 4294967296)) + a0_0)))) else (some (false, IntKind.u64.wrap ((IntKind.u64.wrap (a0_3 * 4294967296)) + a0_2), IntKind.u64.wrap ((IntKind.u64.wrap (a0_1 * 4294967296)) + a0_0)))) = some (r1, r2, r3) := h; clear h
 by_cases c3 : a1 = true
 ·subst c3
  have H1 : (if (IntKind.u64.wrap ((IntKind.u64.wrap (a0_3 * 4294967296)) + a0_2)) > 0 then (some (true, IntKind.u64.wrap ((IntKind.u64.wrap (a0_3 * 4294967296)) + a0_2), IntKind.u64.wrap ((IntKind.u64.wrap (a0_1 * 4294967296)) + a0_0))) else (some (decide ((IntKind.u64.wrap ((IntKind.u64.wrap (a0_1 * 4294967296)) + a0_0)) > 0), IntKind.u64.wrap ((IntKind.u64.wrap (a0_3 * 4294967296)) + a0_2), IntKind.u64.wrap ((IntKind.u64.wrap (a0_1 * 4294967296)) + a0_0)))) = some (r1, r2, r3) := by rw [if_pos rfl] at H; exact H
  clear H; have H := H1; clear H1
  by_cases c4 : (IntKind.u64.wrap ((IntKind.u64.wrap (a0_3 * 4294967296)) + a0_2)) > 0
  ·rw [if_pos c4] at H
   have c4b0 : decide (0 < (IntKind.u64.wrap ((IntKind.u64.wrap (a0_3 * 4294967296)) + a0_2))) = true := decide_eq_true c4; clear c4; simp only [Option.some.injEq, Prod.mk.injEq] at H; obtain ⟨rfl, rfl, rfl⟩ := H
   go_enter Tryd.func67, Tryd.ntmps67
   go_wp2_with (first | ((with_reducible refine gate_dst (N := 2) rfl ?_); refine box_event ?hg (N := 2) ?hd (cs := #[.int .u64 a0_0, .int .u64 a0_1, .int .u64 a0_2, .int .u64 a0_3]) (t := 76) ?hr ?_; (case hd => rfl); (case hg => rfl); (case hr => first | (go_simp; done) | (go_simp; rfl)); intro gb335 hg w5 hbox hb; have BK335 := Aside0.mk (hbox); obtain ⟨GW335, nHB⟩ := geA hg hb; have GE335 := GW335; replace HB := nHB; clear nHB; clear hb hbox hg) | ((with_reducible refine gate_dst (N := 4) rfl ?_); refine box_event ?hg (N := 4) ?hd (cs := #[.bool false, .int .u64 0, .int .u64 0]) (t := 59) ?hr ?_; (case hd => rfl); (case hg => rfl); (case hr => first | (go_simp; done) | (go_simp; rfl)); intro gb336 hg w6 hbox hb; have BK336 := Aside0.mk (hbox); obtain ⟨GW336, nHB⟩ := geA hg hb; have GE336 := GW336; obtain ⟨NB335_336, NB336_335, nBK⟩ := nbA BK335 hg hb; replace BK335 := nBK; clear nBK; replace HB := nHB; clear nHB; clear hb hbox hg; have hnb7 := NB335_336.out; have hnc7 := NB336_335.out; have hcz8_0 := czZ BK335 0 (.int .u64 a0_0); have hcz8_1 := czZ BK335 1 (.int .u64 a0_1); have hcz8_2 := czZ BK335 2 (.int .u64 a0_2); have hcz8_3 := czZ BK335 3 (.int .u64 a0_3); have hfz8_0 := blk_frozen BK335.out 0; have hfz8_1 := blk_frozen BK335.out 1; have hfz8_2 := blk_frozen BK335.out 2; have hfz8_3 := blk_frozen BK335.out 3) | ((with_reducible refine gate_dst (N := 5) rfl ?_); refine box_event ?hg (N := 5) ?hd (cs := #[.bool false, .int .u64 0, .int .u64 0]) (t := 59) ?hr ?_; (case hd => rfl); (case hg => rfl); (case hr => first | (go_simp; done) | (go_simp; rfl)); intro gb337 hg w9 hbox hb; have BK337 := Aside0.mk (hbox); obtain ⟨GW337, nHB⟩ := geA hg hb; have GE337 := GW337; obtain ⟨NB335_337, NB337_335, nBK⟩ := nbA BK335 hg hb; replace BK335 := nBK; clear nBK; obtain ⟨NB336_337, NB337_336, nBK⟩ := nbA BK336 hg hb; replace BK336 := nBK; clear nBK; replace HB := nHB; clear nHB; clear hb hbox hg; have hnb10 := NB337_335.out; have hnc10 := NB335_337.out; have hnb11 := NB337_336.out; have hnc11 := NB336_337.out; have hcz12_0 := czZ BK337 0 (.bool false); have hcz12_1 := czZ BK337 1 (.int .u64 0); have hcz12_2 := czZ BK337 2 (.int .u64 0); have hfz12_0 := blk_frozen BK337.out 0; have hfz12_1 := blk_frozen BK337.out 1; have hfz12_2 := blk_frozen BK337.out 2; have hcz13_0 := czZ BK336 0 (.bool false); have hcz13_1 := czZ BK336 1 (.int .u64 0); have hcz13_2 := czZ BK336 2 (.int .u64 0); have hfz13_0 := blk_frozen BK336.out 0; have hfz13_1 := blk_frozen BK336.out 1; have hfz13_2 := blk_frozen BK336.out 2))
   refine bodyPost_ret (results_cell_row rfl _ _ gb336 59 #[.bool true, .int .u64 (IntKind.u64.wrap ((IntKind.u64.wrap (a0_3 * 4294967296)) + a0_2)), .int .u64 (IntKind.u64.wrap ((IntKind.u64.wrap (a0_1 * 4294967296)) + a0_0))] (0, 0) _ rfl (by (with_reducible repeat first | apply blk_drewN | apply blk_drew | apply blk_alloc); refine blk_put (cs := #[.bool true, .int .u64 (IntKind.u64.wrap ((IntKind.u64.wrap (a0_3 * 4294967296)) + a0_2)), .int .u64 0]) ?_ 2 _ rfl; (with_reducible repeat first | apply blk_drewN | apply blk_drew | apply blk_alloc); refine blk_put (cs := #[.bool true, .int .u64 0, .int .u64 0]) ?_ 1 _ rfl; (with_reducible repeat first | apply blk_drewN | apply blk_drew | apply blk_alloc); refine blk_put (cs := #[.bool false, .int .u64 0, .int .u64 0]) ?_ 0 _ rfl; (with_reducible repeat first | apply blk_drewN | apply blk_drew | apply blk_alloc); refine blk_far ?_ NB336_337.out _; (with_reducible repeat first | apply blk_drewN | apply blk_drew | apply blk_alloc); refine blk_far ?_ NB336_337.out _; (with_reducible repeat first | apply blk_drewN | apply blk_drew | apply blk_alloc); refine blk_far ?_ NB336_337.out _; (with_reducible repeat first | apply blk_drewN | apply blk_drew | apply blk_alloc); refine blk_far ?_ NB336_337.out _; (with_reducible repeat first | apply blk_drewN | apply blk_drew | apply blk_alloc); exact BK336.out) Tryd.underlying59 rfl (by kernel_rfl)) rfl ?_; exact ⟨by first | rfl | (simp [errW_none, errW_some] <;> rfl) | (simp [*, errW_none, errW_some] <;> rfl), by repeat (first | (with_reducible first | exact HB.out | apply below_alloc | apply pw_below_drewN | apply below_drew1 | refine below_set ?_ (Aside0.out (by assumption))) | exact HB.out)⟩
  ·rw [if_neg c4] at H
   have c4b0 : decide (0 < (IntKind.u64.wrap ((IntKind.u64.wrap (a0_3 * 4294967296)) + a0_2))) = false := decide_eq_false c4; clear c4; simp only [Option.some.injEq, Prod.mk.injEq] at H; obtain ⟨rfl, rfl, rfl⟩ := H
   go_enter Tryd.func67, Tryd.ntmps67
   go_wp2_with (first | ((with_reducible refine gate_dst (N := 2) rfl ?_); refine box_event ?hg (N := 2) ?hd (cs := #[.int .u64 a0_0, .int .u64 a0_1, .int .u64 a0_2, .int .u64 a0_3]) (t := 76) ?hr ?_; (case hd => rfl); (case hg => rfl); (case hr => first | (go_simp; done) | (go_simp; rfl)); intro gb335 hg w14 hbox hb; have BK335 := Aside0.mk (hbox); obtain ⟨GW335, nHB⟩ := geA hg hb; have GE335 := GW335; replace HB := nHB; clear nHB; clear hb hbox hg) | ((with_reducible refine gate_dst (N := 4) rfl ?_); refine box_event ?hg (N := 4) ?hd (cs := #[.bool false, .int .u64 0, .int .u64 0]) (t := 59) ?hr ?_; (case hd => rfl); (case hg => rfl); (case hr => first | (go_simp; done) | (go_simp; rfl)); intro gb336 hg w15 hbox hb; have BK336 := Aside0.mk (hbox); obtain ⟨GW336, nHB⟩ := geA hg hb; have GE336 := GW336; obtain ⟨NB335_336, NB336_335, nBK⟩ := nbA BK335 hg hb; replace BK335 := nBK; clear nBK; replace HB := nHB; clear nHB; clear hb hbox hg; have hnb16 := NB335_336.out; have hnc16 := NB336_335.out; have hcz17_0 := czZ BK335 0 (.int .u64 a0_0); have hcz17_1 := czZ BK335 1 (.int .u64 a0_1); have hcz17_2 := czZ BK335 2 (.int .u64 a0_2); have hcz17_3 := czZ BK335 3 (.int .u64 a0_3); have hfz17_0 := blk_frozen BK335.out 0; have hfz17_1 := blk_frozen BK335.out 1; have hfz17_2 := blk_frozen BK335.out 2; have hfz17_3 := blk_frozen BK335.out 3) | ((with_reducible refine gate_dst (N := 5) rfl ?_); refine box_event ?hg (N := 5) ?hd (cs := #[.bool false, .int .u64 0, .int .u64 0]) (t := 59) ?hr ?_; (case hd => rfl); (case hg => rfl); (case hr => first | (go_simp; done) | (go_simp; rfl)); intro gb337 hg w18 hbox hb; have BK337 := Aside0.mk (hbox); obtain ⟨GW337, nHB⟩ := geA hg hb; have GE337 := GW337; obtain ⟨NB335_337, NB337_335, nBK⟩ := nbA BK335 hg hb; replace BK335 := nBK; clear nBK; obtain ⟨NB336_337, NB337_336, nBK⟩ := nbA BK336 hg hb; replace BK336 := nBK; clear nBK; replace HB := nHB; clear nHB; clear hb hbox hg; have hnb19 := NB337_335.out; have hnc19 := NB335_337.out; have hnb20 := NB337_336.out; have hnc20 := NB336_337.out; have hcz21_0 := czZ BK337 0 (.bool false); have hcz21_1 := czZ BK337 1 (.int .u64 0); have hcz21_2 := czZ BK337 2 (.int .u64 0); have hfz21_0 := blk_frozen BK337.out 0; have hfz21_1 := blk_frozen BK337.out 1; have hfz21_2 := blk_frozen BK337.out 2; have hcz22_0 := czZ BK336 0 (.bool false); have hcz22_1 := czZ BK336 1 (.int .u64 0); have hcz22_2 := czZ BK336 2 (.int .u64 0); have hfz22_0 := blk_frozen BK336.out 0; have hfz22_1 := blk_frozen BK336.out 1; have hfz22_2 := blk_frozen BK336.out 2))
   refine bodyPost_ret (results_cell_row rfl _ _ gb336 59 #[.bool (decide ((IntKind.u64.wrap ((IntKind.u64.wrap (a0_1 * 4294967296)) + a0_0)) > 0)), .int .u64 (IntKind.u64.wrap ((IntKind.u64.wrap (a0_3 * 4294967296)) + a0_2)), .int .u64 (IntKind.u64.wrap ((IntKind.u64.wrap (a0_1 * 4294967296)) + a0_0))] (0, 0) _ rfl (by (with_reducible repeat first | apply blk_drewN | apply blk_drew | apply blk_alloc); refine blk_put (cs := #[.bool (decide ((IntKind.u64.wrap ((IntKind.u64.wrap (a0_1 * 4294967296)) + a0_0)) > 0)), .int .u64 (IntKind.u64.wrap ((IntKind.u64.wrap (a0_3 * 4294967296)) + a0_2)), .int .u64 0]) ?_ 2 _ rfl; (with_reducible repeat first | apply blk_drewN | apply blk_drew | apply blk_alloc); refine blk_put (cs := #[.bool (decide ((IntKind.u64.wrap ((IntKind.u64.wrap (a0_1 * 4294967296)) + a0_0)) > 0)), .int .u64 0, .int .u64 0]) ?_ 1 _ rfl; (with_reducible repeat first | apply blk_drewN | apply blk_drew | apply blk_alloc); refine blk_put (cs := #[.bool false, .int .u64 0, .int .u64 0]) ?_ 0 _ rfl; (with_reducible repeat first | apply blk_drewN | apply blk_drew | apply blk_alloc); refine blk_far ?_ NB336_337.out _; (with_reducible repeat first | apply blk_drewN | apply blk_drew | apply blk_alloc); refine blk_far ?_ NB336_337.out _; (with_reducible repeat first | apply blk_drewN | apply blk_drew | apply blk_alloc); refine blk_far ?_ NB336_337.out _; (with_reducible repeat first | apply blk_drewN | apply blk_drew | apply blk_alloc); refine blk_far ?_ NB336_337.out _; (with_reducible repeat first | apply blk_drewN | apply blk_drew | apply blk_alloc); exact BK336.out) Tryd.underlying59 rfl (by kernel_rfl)) rfl ?_; exact ⟨by first | rfl | (simp [errW_none, errW_some] <;> rfl) | (simp [*, errW_none, errW_some] <;> rfl), by repeat (first | (with_reducible first | exact HB.out | apply below_alloc | apply pw_below_drewN | apply below_drew1 | refine below_set ?_ (Aside0.out (by assumption))) | exact HB.out)⟩
 ·replace c3 := Bool.eq_false_iff.mpr c3
  subst c3
  have H1 : (some (false, IntKind.u64.wrap ((IntKind.u64.wrap (a0_3 * 4294967296)) + a0_2), IntKind.u64.wrap ((IntKind.u64.wrap (a0_1 * 4294967296)) + a0_0))) = some (r1, r2, r3) := by rw [if_neg (show ¬ (false = true) by decide)] at H; exact H
  clear H; have H := H1; clear H1; simp only [Option.some.injEq, Prod.mk.injEq] at H; obtain ⟨rfl, rfl, rfl⟩ := H
  go_enter Tryd.func67, Tryd.ntmps67
  go_wp2_with (first | ((with_reducible refine gate_dst (N := 2) rfl ?_); refine box_event ?hg (N := 2) ?hd (cs := #[.int .u64 a0_0, .int .u64 a0_1, .int .u64 a0_2, .int .u64 a0_3]) (t := 76) ?hr ?_; (case hd => rfl); (case hg => rfl); (case hr => first | (go_simp; done) | (go_simp; rfl)); intro gb335 hg w23 hbox hb; have BK335 := Aside0.mk (hbox); obtain ⟨GW335, nHB⟩ := geA hg hb; have GE335 := GW335; replace HB := nHB; clear nHB; clear hb hbox hg) | ((with_reducible refine gate_dst (N := 4) rfl ?_); refine box_event ?hg (N := 4) ?hd (cs := #[.bool false, .int .u64 0, .int .u64 0]) (t := 59) ?hr ?_; (case hd => rfl); (case hg => rfl); (case hr => first | (go_simp; done) | (go_simp; rfl)); intro gb336 hg w24 hbox hb; have BK336 := Aside0.mk (hbox); obtain ⟨GW336, nHB⟩ := geA hg hb; have GE336 := GW336; obtain ⟨NB335_336, NB336_335, nBK⟩ := nbA BK335 hg hb; replace BK335 := nBK; clear nBK; replace HB := nHB; clear nHB; clear hb hbox hg; have hnb25 := NB335_336.out; have hnc25 := NB336_335.out; have hcz26_0 := czZ BK335 0 (.int .u64 a0_0); have hcz26_1 := czZ BK335 1 (.int .u64 a0_1); have hcz26_2 := czZ BK335 2 (.int .u64 a0_2); have hcz26_3 := czZ BK335 3 (.int .u64 a0_3); have hfz26_0 := blk_frozen BK335.out 0; have hfz26_1 := blk_frozen BK335.out 1; have hfz26_2 := blk_frozen BK335.out 2; have hfz26_3 := blk_frozen BK335.out 3) | ((with_reducible refine gate_dst (N := 5) rfl ?_); refine box_event ?hg (N := 5) ?hd (cs := #[.bool false, .int .u64 0, .int .u64 0]) (t := 59) ?hr ?_; (case hd => rfl); (case hg => rfl); (case hr => first | (go_simp; done) | (go_simp; rfl)); intro gb337 hg w27 hbox hb; have BK337 := Aside0.mk (hbox); obtain ⟨GW337, nHB⟩ := geA hg hb; have GE337 := GW337; obtain ⟨NB335_337, NB337_335, nBK⟩ := nbA BK335 hg hb; replace BK335 := nBK; clear nBK; obtain ⟨NB336_337, NB337_336, nBK⟩ := nbA BK336 hg hb; replace BK336 := nBK; clear nBK; replace HB := nHB; clear nHB; clear hb hbox hg; have hnb28 := NB337_335.out; have hnc28 := NB335_337.out; have hnb29 := NB337_336.out; have hnc29 := NB336_337.out; have hcz30_0 := czZ BK337 0 (.bool false); have hcz30_1 := czZ BK337 1 (.int .u64 0); have hcz30_2 := czZ BK337 2 (.int .u64 0); have hfz30_0 := blk_frozen BK337.out 0; have hfz30_1 := blk_frozen BK337.out 1; have hfz30_2 := blk_frozen BK337.out 2; have hcz31_0 := czZ BK336 0 (.bool false); have hcz31_1 := czZ BK336 1 (.int .u64 0); have hcz31_2 := czZ BK336 2 (.int .u64 0); have hfz31_0 := blk_frozen BK336.out 0; have hfz31_1 := blk_frozen BK336.out 1; have hfz31_2 := blk_frozen BK336.out 2))
  refine bodyPost_ret (results_cell_row rfl _ _ gb336 59 #[.bool false, .int .u64 (IntKind.u64.wrap ((IntKind.u64.wrap (a0_3 * 4294967296)) + a0_2)), .int .u64 (IntKind.u64.wrap ((IntKind.u64.wrap (a0_1 * 4294967296)) + a0_0))] (0, 0) _ rfl (by (with_reducible repeat first | apply blk_drewN | apply blk_drew | apply blk_alloc); refine blk_put (cs := #[.bool false, .int .u64 (IntKind.u64.wrap ((IntKind.u64.wrap (a0_3 * 4294967296)) + a0_2)), .int .u64 0]) ?_ 2 _ rfl; (with_reducible repeat first | apply blk_drewN | apply blk_drew | apply blk_alloc); refine blk_put (cs := #[.bool false, .int .u64 0, .int .u64 0]) ?_ 1 _ rfl; (with_reducible repeat first | apply blk_drewN | apply blk_drew | apply blk_alloc); refine blk_put (cs := #[.bool false, .int .u64 0, .int .u64 0]) ?_ 0 _ rfl; (with_reducible repeat first | apply blk_drewN | apply blk_drew | apply blk_alloc); refine blk_far ?_ NB336_337.out _; (with_reducible repeat first | apply blk_drewN | apply blk_drew | apply blk_alloc); refine blk_far ?_ NB336_337.out _; (with_reducible repeat first | apply blk_drewN | apply blk_drew | apply blk_alloc); refine blk_far ?_ NB336_337.out _; (with_reducible repeat first | apply blk_drewN | apply blk_drew | apply blk_alloc); refine blk_far ?_ NB336_337.out _; (with_reducible repeat first | apply blk_drewN | apply blk_drew | apply blk_alloc); exact BK336.out) Tryd.underlying59 rfl (by kernel_rfl)) rfl ?_; exact ⟨by first | rfl | (simp [errW_none, errW_some] <;> rfl) | (simp [*, errW_none, errW_some] <;> rfl), by repeat (first | (with_reducible first | exact HB.out | apply below_alloc | apply pw_below_drewN | apply below_drew1 | refine below_set ?_ (Aside0.out (by assumption))) | exact HB.out)⟩

/-! ### sawtoothref02_wholeS: four digits and a sign: pure, behind function 67 -/
noncomputable def sawtoothref02_wholeS.f (a b c d : Int) (s : Bool) : Option (Bool × Int × Int) := Sp.need (Sp.Dg a ∧ Sp.Dg b ∧ Sp.Dg c ∧ Sp.Dg d) (some (Sp.encN (Sp.val s (d * 4294967296 + c) (b * 4294967296 + a)), Sp.encH (Sp.val s (d * 4294967296 + c) (b * 4294967296 + a)), Sp.encL (Sp.val s (d * 4294967296 + c) (b * 4294967296 + a))))
section Ref02Whole
open Go.Proofs.YtbpcfamjidjhjaaDoor.Sp
theorem sawtoothref02_digits.eq {n : Bool} {h l : Int} (h1 : U h) (h2 : U l) : sawtoothref02_digits.f n h l = some (l % 4294967296, l / 4294967296, h % 4294967296, h / 4294967296) := by
 have tm : ∀ {x : Int}, U x → Int.tmod x 4294967296 = x % 4294967296 := fun h => Int.tmod_eq_emod_of_nonneg h.1
 have td : ∀ {x : Int}, U x → IntKind.u64.wrap (Int.tdiv x 4294967296) = x / 4294967296 := fun h => by rw [Int.tdiv_eq_ediv_of_nonneg h.1]; exact u64w_in (by omega)
 unfold sawtoothref02_digits.f; rw [tm h2, td h2, tm h1, td h1]
theorem sawtoothref02_wholeS.eq {a b c d : Int} {s : Bool} (h1 : Dg a) (h2 : Dg b) (h3 : Dg c) (h4 : Dg d) : sawtoothref02_wholeS.f a b c d s = some (encN (val s (d * 4294967296 + c) (b * 4294967296 + a)), encH (val s (d * 4294967296 + c) (b * 4294967296 + a)), encL (val s (d * 4294967296 + c) (b * 4294967296 + a))) := need_pos ⟨h1, h2, h3, h4⟩
theorem sawtoothref02_whole.main {a b c d : Int} {s : Bool} (h1 : Dg a) (h2 : Dg b) (h3 : Dg c) (h4 : Dg d) : sawtoothref02_whole.f a b c d s = some (encN (val s (d * 4294967296 + c) (b * 4294967296 + a)), encH (val s (d * 4294967296 + c) (b * 4294967296 + a)), encL (val s (d * 4294967296 + c) (b * 4294967296 + a))) := by
 unfold sawtoothref02_whole.f
 have e1 : IntKind.u64.wrap (IntKind.u64.wrap (d * 4294967296) + c) = d * 4294967296 + c := by rw [u64w, u64w]; omega
 have e2 : IntKind.u64.wrap (IntKind.u64.wrap (b * 4294967296) + a) = b * 4294967296 + a := by rw [u64w, u64w]; omega
 rw [e1, e2]
 have u1 : U (d * 4294967296 + c) := by omega
 have u2 : U (b * 4294967296 + a) := by omega
 clear e1 e2 h1 h2 h3 h4
 generalize d * 4294967296 + c = h at *
 generalize b * 4294967296 + a = l at *
 cases s with
 | false =>
  obtain ⟨k1, k2, k3⟩ := enc_of (n := false) u1 u2 (by simp)
  rw [if_neg (by simp), k1, k2, k3]
 | true =>
  rw [if_pos rfl]
  by_cases hz : h = 0 ∧ l = 0
  ·obtain ⟨rfl, rfl⟩ := hz
   rw [val_t]; simp [encN, encH, encL]
  ·obtain ⟨k1, k2, k3⟩ := enc_of (n := true) u1 u2 (fun _ => hz)
   rw [k1, k2, k3]
   by_cases hp : h > 0
   ·rw [if_pos hp]
   ·rw [if_neg hp, decide_eq_true (by omega)]
end Ref02Whole
theorem sawtoothref02_wholeS.calls (a b c d : Int) (s : Bool) (r1 : Bool) (r2 r3 : Int) (w : World) (h : sawtoothref02_wholeS.f a b c d s = some (r1, r2, r3)) :
  Calls Tryd.prog 67 #[.agg #[.int .u64 a, .int .u64 b, .int .u64 c, .int .u64 d], .bool s] w fun e w' => e = .returned (.agg #[.bool r1, .int .u64 r2, .int .u64 r3]) ∧ Below w.heap.size w w' := by
 obtain ⟨hc, h⟩ := Sp.need_some h; obtain ⟨h1, h2, h3, h4⟩ := hc; exact sawtoothref02_whole.calls a b c d s r1 r2 r3 w (by rw [sawtoothref02_whole.main h1 h2 h3 h4]; exact h)

end Go.Proofs.YtbpcfamjidjhjaaDoor.Px
