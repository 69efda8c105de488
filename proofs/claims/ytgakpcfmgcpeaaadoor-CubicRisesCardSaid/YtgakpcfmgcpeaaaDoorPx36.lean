/- Printed by px.py, over the kit's print. Conditions: none beside the theorems' own. -/
import Derived.Test.YtgakpcfmgcpeaaaDoorPx0
import Derived.Test.YtgakpcfmgcpeaaaDoorPx28
import Derived.Test.YtgakpcfmgcpeaaaDoorPx29
import Derived.Test.YtgakpcfmgcpeaaaDoorPx30
import Derived.Test.YtgakpcfmgcpeaaaDoorPx34
import Derived.Test.YtgakpcfmgcpeaaaDoorPx35
import Derived.Test.YtgakpcfmgcpeaaaDoorSpec
namespace Go.Proofs.YtgakpcfmgcpeaaaDoor.Px
open Go.RowKit Go.Proofs.YtgakpcfmgcpeaaaDoorW.PrintWords Go.Proofs.YtgakpcfmgcpeaaaDoorW.PrintLast Go.Proofs.YtgakpcfmgcpeaaaDoorW.PrintMore
attribute [local go_sem] max2_int min2_int max_two min_two max_three min_three max_four min_four
set_option linter.unusedVariables false
set_option linter.unusedSimpArgs false

/-! ### sawtoothref02_CmpS: which is greater: pure, behind function 22 -/
noncomputable def sawtoothref02_CmpS.f (n : Bool) (h l : Int) (m : Bool) (i k : Int) : Option Int := Sp.cmpF n h l m i k
section Ref02Cmp
open Go.Proofs.YtgakpcfmgcpeaaaDoor.Sp
theorem sawtoothref02_Cmp.main {n m : Bool} {h l i k : Int} (h1 : U h) (h2 : U l) (h3 : U i) (h4 : U k) : sawtoothref02_Cmp.f 1 n h l m i k = some (cmpI (val n h l) (val m i k)) := by
 unfold sawtoothref02_Cmp.f
 rw [sawtoothref02_digits.eq h1 h2, sawtoothref02_digits.eq h3 h4]
 simp only [Option.bind_some, sawtoothref02_belowS.eq h1 h2, sawtoothref02_belowS.eq h3 h4, sawtoothref02_less.eq h1 h2 h3 h4, sawtoothref02_less.eq h3 h4 h1 h2, sawtoothref02_Cmp.j0]
 have v1 : val n h l = h * 18446744073709551616 + l ∨ val n h l = -(h * 18446744073709551616 + l) := by unfold val; cases n <;> simp
 have v2 : val m i k = i * 18446744073709551616 + k ∨ val m i k = -(i * 18446744073709551616 + k) := by unfold val; cases m <;> simp
 have p1 : 0 ≤ h * 18446744073709551616 + l := by omega
 have p2 : 0 ≤ i * 18446744073709551616 + k := by omega
 generalize val n h l = v at *
 generalize val m i k = w at *
 generalize h * 18446744073709551616 + l = M at *
 generalize i * 18446744073709551616 + k = N at *
 unfold cmpI
 by_cases a : v < 0 <;> by_cases b : w < 0 <;> by_cases c : M < N <;> by_cases d : N < M <;> simp [a, b, c, d] <;> omega
end Ref02Cmp
theorem sawtoothref02_CmpS.calls (a0_0 : Bool) (a0_1 a0_2 : Int) (a1_0 : Bool) (a1_1 a1_2 r : Int) (w : World) (h : sawtoothref02_CmpS.f a0_0 a0_1 a0_2 a1_0 a1_1 a1_2 = some r) :
  Calls Tryd.prog 22 #[.agg #[.bool a0_0, .int .u64 a0_1, .int .u64 a0_2], .agg #[.bool a1_0, .int .u64 a1_1, .int .u64 a1_2]] w fun e w' => e = .returned (.int .i64 r) ∧ Below w.heap.size w w' := by
 obtain ⟨hc, h⟩ := Sp.need_some h; obtain ⟨h1, h2, h3, h4⟩ := hc; exact sawtoothref02_Cmp.calls 1 a0_0 a0_1 a0_2 a1_0 a1_1 a1_2 r w (by rw [sawtoothref02_Cmp.main h1 h2 h3 h4]; exact h)

/-! ### sawtoothref03_Square: function 87 -/
noncomputable def sawtoothref03_Square.f (a0 : Int) : Option (Bool × Int × Int) := (sawtoothref02_Scale.f false 0 a0 a0).bind fun bt458 => (some (bt458.1, bt458.2.1, bt458.2.2.1))
set_option maxHeartbeats 8000000 in
set_option maxRecDepth 100000 in
theorem sawtoothref03_Square.calls (a0 : Int) (r1 : Bool) (r2 : Int) (r3 : Int) (w : World) (h : sawtoothref03_Square.f a0 = some (r1, r2, r3)) :
  Calls Tryd.prog 87 #[.int .u64 a0] w fun e w' => e = .returned (.agg #[.bool r1, .int .u64 r2, .int .u64 r3]) ∧ Below w.heap.size w w' := by
 have hu33 := Tryd.underlying33; have HB := Aside0.mk (Below.refl w.heap.size w); have H : ((sawtoothref02_Scale.f false 0 a0 a0).bind fun bt458 => (some (bt458.1, bt458.2.1, bt458.2.2.1))) = some (r1, r2, r3) := h; clear h; replace H := Option.bind_eq_some_iff.mp H; obtain ⟨⟨t458, t459, t460, t461⟩, A20, H⟩ := H; replace H : (some (t458, t459, t460)) = some (r1, r2, r3) := H; have A2 := Aside0.mk A20; clear A20; simp only [Option.some.injEq, Prod.mk.injEq] at H; obtain ⟨rfl, rfl, rfl⟩ := H
 go_enter Tryd.func87, Tryd.ntmps87
 go_wp2_with (first | ((with_reducible refine gate_dst (N := 2) rfl ?_); refine box_event ?hg (N := 2) ?hd (cs := #[.bool false, .int .u64 0, .int .u64 0]) (t := 33) ?hr ?_; (case hd => rfl); (case hg => rfl); (case hr => first | (go_simp; done) | (go_simp; rfl)); intro gb457 hg w3 hbox hb; have BK457 := Aside0.mk (hbox); obtain ⟨GW457, nHB⟩ := geA hg hb; have GE457 := GW457; replace HB := nHB; clear nHB; clear hb hbox hg) | ((with_reducible refine gate_callee (f := 20) rfl ?_); refine goesLA_ (some 9) rfl rfl Tryd.func20 rfl #[.agg #[.bool false, .int .u64 0, .int .u64 a0], .int .u64 a0] rfl ?_; (with_reducible refine (sawtoothref02_Scale.calls false 0 a0 a0 t458 t459 t460 t461 _ A2.out).mono ?_); rintro e w4 ⟨rfl, hb⟩; refine ⟨_, rfl, ?_⟩; replace BK457 := bdZ BK457 hb; replace HB := stA hb; clear hb) | ((with_reducible refine gate_dst (N := 3) rfl ?_); refine box_event ?hg (N := 3) ?hd (cs := #[.bool false, .int .u64 0, .int .u64 0]) (t := 33) ?hr ?_; (case hd => rfl); (case hg => rfl); (case hr => first | (go_simp; done) | (go_simp; rfl)); intro gb462 hg w5 hbox hb; have BK462 := Aside0.mk (hbox); obtain ⟨GW462, nHB⟩ := geA hg hb; have GE462 := GW462; obtain ⟨NB457_462, NB462_457, nBK⟩ := nbA BK457 hg hb; replace BK457 := nBK; clear nBK; replace HB := nHB; clear nHB; clear hb hbox hg; have hnb6 := NB462_457.out; have hnc6 := NB457_462.out; have hcz7_0 := czZ BK462 0 (.bool false); have hcz7_1 := czZ BK462 1 (.int .u64 0); have hcz7_2 := czZ BK462 2 (.int .u64 0); have hfz7_0 := blk_frozen BK462.out 0; have hfz7_1 := blk_frozen BK462.out 1; have hfz7_2 := blk_frozen BK462.out 2; have hcz8_0 := czZ BK457 0 (.bool false); have hcz8_1 := czZ BK457 1 (.int .u64 0); have hcz8_2 := czZ BK457 2 (.int .u64 0); have hfz8_0 := blk_frozen BK457.out 0; have hfz8_1 := blk_frozen BK457.out 1; have hfz8_2 := blk_frozen BK457.out 2))
 refine bodyPost_ret (results_cell_row rfl _ _ gb457 33 #[.bool t458, .int .u64 t459, .int .u64 t460] (0, 0) _ rfl (by (with_reducible repeat first | apply blk_drewN | apply blk_drew | apply blk_alloc); refine blk_put (cs := #[.bool t458, .int .u64 t459, .int .u64 0]) ?_ 2 _ rfl; (with_reducible repeat first | apply blk_drewN | apply blk_drew | apply blk_alloc); refine blk_put (cs := #[.bool t458, .int .u64 0, .int .u64 0]) ?_ 1 _ rfl; (with_reducible repeat first | apply blk_drewN | apply blk_drew | apply blk_alloc); refine blk_put (cs := #[.bool false, .int .u64 0, .int .u64 0]) ?_ 0 _ rfl; (with_reducible repeat first | apply blk_drewN | apply blk_drew | apply blk_alloc); refine blk_far ?_ NB457_462.out _; (with_reducible repeat first | apply blk_drewN | apply blk_drew | apply blk_alloc); refine blk_far ?_ NB457_462.out _; (with_reducible repeat first | apply blk_drewN | apply blk_drew | apply blk_alloc); refine blk_far ?_ NB457_462.out _; (with_reducible repeat first | apply blk_drewN | apply blk_drew | apply blk_alloc); exact BK457.out) Tryd.underlying33 rfl (by kernel_rfl)) rfl ?_; exact ⟨by first | rfl | (simp [errW_none, errW_some] <;> rfl) | (simp [*, errW_none, errW_some] <;> rfl), by repeat (first | (with_reducible first | exact HB.out | apply below_alloc | apply pw_below_drewN | apply below_drew1 | refine below_set ?_ (Aside0.out (by assumption))) | exact HB.out)⟩

/-! ### sawtoothref03_Cube: function 82 -/
noncomputable def sawtoothref03_Cube.f (a0 : Int) : Option (Bool × Int × Int × Int) := (sawtoothref03_Square.f a0).bind fun bt464 => ((sawtoothref02_Scale.f bt464.1 bt464.2.1 bt464.2.2 a0).bind fun bt467 => (some (bt467.1, bt467.2.1, bt467.2.2.1, bt467.2.2.2)))
set_option maxHeartbeats 8000000 in
set_option maxRecDepth 100000 in
theorem sawtoothref03_Cube.calls (a0 : Int) (r1 : Bool) (r2 : Int) (r3 : Int) (r4 : Int) (w : World) (h : sawtoothref03_Cube.f a0 = some (r1, r2, r3, r4)) :
  Calls Tryd.prog 82 #[.int .u64 a0] w fun e w' => e = .returned (.tuple #[.agg #[.bool r1, .int .u64 r2, .int .u64 r3], .int .i64 r4]) ∧ Below w.heap.size w w' := by
 have hu33 := Tryd.underlying33; have HB := Aside0.mk (Below.refl w.heap.size w); have H : ((sawtoothref03_Square.f a0).bind fun bt464 => ((sawtoothref02_Scale.f bt464.1 bt464.2.1 bt464.2.2 a0).bind fun bt467 => (some (bt467.1, bt467.2.1, bt467.2.2.1, bt467.2.2.2)))) = some (r1, r2, r3, r4) := h; clear h; replace H := Option.bind_eq_some_iff.mp H; obtain ⟨⟨t464, t465, t466⟩, A20, H⟩ := H; replace H : ((sawtoothref02_Scale.f t464 t465 t466 a0).bind fun bt467 => (some (bt467.1, bt467.2.1, bt467.2.2.1, bt467.2.2.2))) = some (r1, r2, r3, r4) := H; have A2 := Aside0.mk A20; clear A20; replace H := Option.bind_eq_some_iff.mp H; obtain ⟨⟨t467, t468, t469, t470⟩, A30, H⟩ := H; replace H : (some (t467, t468, t469, t470)) = some (r1, r2, r3, r4) := H; have A3 := Aside0.mk A30; clear A30; simp only [Option.some.injEq, Prod.mk.injEq] at H; obtain ⟨rfl, rfl, rfl, rfl⟩ := H
 go_enter Tryd.func82, Tryd.ntmps82
 go_wp2_with (first | ((with_reducible refine gate_dst (N := 2) rfl ?_); refine box_event ?hg (N := 2) ?hd (cs := #[.bool false, .int .u64 0, .int .u64 0]) (t := 33) ?hr ?_; (case hd => rfl); (case hg => rfl); (case hr => first | (go_simp; done) | (go_simp; rfl)); intro gb463 hg w4 hbox hb; have BK463 := Aside0.mk (hbox); obtain ⟨GW463, nHB⟩ := geA hg hb; have GE463 := GW463; replace HB := nHB; clear nHB; clear hb hbox hg) | ((with_reducible refine gate_callee (f := 87) rfl ?_); refine goesLA_ (some 5) rfl rfl Tryd.func87 rfl #[.int .u64 a0] rfl ?_; (with_reducible refine (sawtoothref03_Square.calls a0 t464 t465 t466 _ A2.out).mono ?_); rintro e w5 ⟨rfl, hb⟩; refine ⟨_, rfl, ?_⟩; replace BK463 := bdZ BK463 hb; replace HB := stA hb; clear hb) | ((with_reducible refine gate_callee (f := 20) rfl ?_); refine goesLA_ (some 7) rfl rfl Tryd.func20 rfl #[.agg #[.bool t464, .int .u64 t465, .int .u64 t466], .int .u64 a0] rfl ?_; (with_reducible refine (sawtoothref02_Scale.calls t464 t465 t466 a0 t467 t468 t469 t470 _ A3.out).mono ?_); rintro e w6 ⟨rfl, hb⟩; refine ⟨_, rfl, ?_⟩; replace BK463 := bdZ BK463 hb; replace HB := stA hb; clear hb; have hcz7_0 := czZ BK463 0 (.bool false); have hcz7_1 := czZ BK463 1 (.int .u64 0); have hcz7_2 := czZ BK463 2 (.int .u64 0); have hfz7_0 := blk_frozen BK463.out 0; have hfz7_1 := blk_frozen BK463.out 1; have hfz7_2 := blk_frozen BK463.out 2))
 refine bodyPost_ret (results_ct rfl _ _ gb463 33 #[.bool t467, .int .u64 t468, .int .u64 t469] (0, 0) _ rfl (by (with_reducible repeat first | apply blk_drewN | apply blk_drew | apply blk_alloc); refine blk_put (cs := #[.bool t467, .int .u64 t468, .int .u64 0]) ?_ 2 _ rfl; (with_reducible repeat first | apply blk_drewN | apply blk_drew | apply blk_alloc); refine blk_put (cs := #[.bool t467, .int .u64 0, .int .u64 0]) ?_ 1 _ rfl; (with_reducible repeat first | apply blk_drewN | apply blk_drew | apply blk_alloc); refine blk_put (cs := #[.bool false, .int .u64 0, .int .u64 0]) ?_ 0 _ rfl; (with_reducible repeat first | apply blk_drewN | apply blk_drew | apply blk_alloc); exact BK463.out) Tryd.underlying33 rfl (by kernel_rfl)) rfl ?_; exact ⟨by first | rfl | (simp [errW_none, errW_some] <;> rfl) | (simp [*, errW_none, errW_some] <;> rfl), by repeat (first | (with_reducible first | exact HB.out | apply below_alloc | apply pw_below_drewN | apply below_drew1 | refine below_set ?_ GE463.out) | exact HB.out)⟩

/-! ### sawtoothref11_Little: function 71 -/
noncomputable def sawtoothref11_Little.f (a0 : Int) (a1 : Int) : Option (Bool) := (sawtoothref03_Cube.f a0).bind fun bt471 => (if bt471.2.2.2 = 0 then ((sawtoothref02_Scale.f bt471.1 bt471.2.1 bt471.2.2.1 262144).bind fun bt476 => ((sawtoothref02_OfS.f a1).bind fun bt481 => ((sawtoothref02_Scale.f bt481.1 bt481.2.1 bt481.2.2 10000000000000000000).bind fun bt484 => (if bt476.2.2.2 = 0 then (if bt484.2.2.2 = 0 then ((sawtoothref02_CmpS.f bt476.1 bt476.2.1 bt476.2.2.1 bt484.1 bt484.2.1 bt484.2.2.1).bind fun t489 => (some (decide (t489 ≤ 0)))) else (some false)) else (some false))))) else (some false))
set_option maxHeartbeats 8000000 in
set_option maxRecDepth 100000 in
theorem sawtoothref11_Little.calls (a0 : Int) (a1 : Int) (r : Bool) (w : World) (h : sawtoothref11_Little.f a0 a1 = some r) :
  Calls Tryd.prog 71 #[.int .u64 a0, .int .i64 a1] w fun e w' => e = .returned (.bool r) ∧ Below w.heap.size w w' := by
 have hu33 := Tryd.underlying33; have HB := Aside0.mk (Below.refl w.heap.size w); have H : ((sawtoothref03_Cube.f a0).bind fun bt471 => (if bt471.2.2.2 = 0 then ((sawtoothref02_Scale.f bt471.1 bt471.2.1 bt471.2.2.1 262144).bind fun bt476 => ((sawtoothref02_OfS.f a1).bind fun bt481 => ((sawtoothref02_Scale.f bt481.1 bt481.2.1 bt481.2.2 10000000000000000000).bind fun bt484 => (if bt476.2.2.2 = 0 then (if bt484.2.2.2 = 0 then ((sawtoothref02_CmpS.f bt476.1 bt476.2.1 bt476.2.2.1 bt484.1 bt484.2.1 bt484.2.2.1).bind fun t489 => (some (decide (t489 ≤ 0)))) else (some false)) else (some false))))) else (some false))) = some r := h; clear h; replace H := Option.bind_eq_some_iff.mp H; obtain ⟨⟨t471, t472, t473, t474⟩, A30, H⟩ := H; (try dsimp only at H); have A3 := Aside0.mk A30; clear A30
 by_cases c4 : t474 = 0
 ·rw [if_pos c4] at H
  have c4b0 : (t474 == 0) = true := beq_iff_eq.mpr c4; have c4b1 : (t474 != 0) = false := bne_eq_false_iff_eq.mpr c4; clear c4; replace H := Option.bind_eq_some_iff.mp H; obtain ⟨⟨t476, t477, t478, t479⟩, A50, H⟩ := H; (try dsimp only at H); have A5 := Aside0.mk A50; clear A50; replace H := Option.bind_eq_some_iff.mp H; obtain ⟨⟨t481, t482, t483⟩, A60, H⟩ := H; (try dsimp only at H); have A6 := Aside0.mk A60; clear A60; replace H := Option.bind_eq_some_iff.mp H; obtain ⟨⟨t484, t485, t486, t487⟩, A70, H⟩ := H; replace H : (if t479 = 0 then (if t487 = 0 then ((sawtoothref02_CmpS.f t476 t477 t478 t484 t485 t486).bind fun t489 => (some (decide (t489 ≤ 0)))) else (some false)) else (some false)) = some r := H; have A7 := Aside0.mk A70; clear A70
  by_cases c8 : t479 = 0
  ·rw [if_pos c8] at H
   have c8b0 : (t479 == 0) = true := beq_iff_eq.mpr c8; have c8b1 : (t479 != 0) = false := bne_eq_false_iff_eq.mpr c8; clear c8
   by_cases c9 : t487 = 0
   ·rw [if_pos c9] at H
    have c9b0 : (t487 == 0) = true := beq_iff_eq.mpr c9; have c9b1 : (t487 != 0) = false := bne_eq_false_iff_eq.mpr c9; clear c9; replace H := Option.bind_eq_some_iff.mp H; obtain ⟨t489, A100, H⟩ := H; replace H : (some (decide (t489 ≤ 0))) = some r := H; have A10 := Aside0.mk A100; clear A100; obtain rfl := Option.some.inj H
    go_enter Tryd.func71, Tryd.ntmps71
    go_wp2_with (first | ((with_reducible refine gate_callee (f := 82) rfl ?_); refine goesLA_ (some 13) rfl rfl Tryd.func82 rfl #[.int .u64 a0] rfl ?_; (with_reducible refine (sawtoothref03_Cube.calls a0 t471 t472 t473 t474 _ A3.out).mono ?_); rintro e w11 ⟨rfl, hb⟩; refine ⟨_, rfl, ?_⟩; replace HB := stA hb; clear hb) | ((with_reducible refine gate_dst (N := 5) rfl ?_); refine box_event ?hg (N := 5) ?hd (cs := #[.bool false, .int .u64 0, .int .u64 0]) (t := 33) ?hr ?_; (case hd => rfl); (case hg => rfl); (case hr => first | (go_simp; done) | (go_simp; rfl)); intro gb475 hg w12 hbox hb; have BK475 := Aside0.mk (hbox); obtain ⟨GW475, nHB⟩ := geA hg hb; have GE475 := GW475; replace HB := nHB; clear nHB; clear hb hbox hg; have hcz13_0 := czZ BK475 0 (.bool false); have hcz13_1 := czZ BK475 1 (.int .u64 0); have hcz13_2 := czZ BK475 2 (.int .u64 0); have hfz13_0 := blk_frozen BK475.out 0; have hfz13_1 := blk_frozen BK475.out 1; have hfz13_2 := blk_frozen BK475.out 2) | ((with_reducible refine gate_callee (f := 20) rfl ?_); refine goesLA_ (some 20) rfl rfl Tryd.func20 rfl #[.agg #[.bool t471, .int .u64 t472, .int .u64 t473], .int .u64 262144] rfl ?_; (with_reducible refine (sawtoothref02_Scale.calls t471 t472 t473 262144 t476 t477 t478 t479 _ A5.out).mono ?_); rintro e w14 ⟨rfl, hb⟩; refine ⟨_, rfl, ?_⟩; replace BK475 := Aside0.mk (blk_below (g := gb475) (o := .cells #[.bool t471, .int .u64 t472, .int .u64 t473] 33 (0, 0)) (by (with_reducible repeat first | apply blk_drewN | apply blk_drew | apply blk_alloc); refine blk_put (cs := #[.bool t471, .int .u64 t472, .int .u64 0]) ?_ 2 _ rfl; (with_reducible repeat first | apply blk_drewN | apply blk_drew | apply blk_alloc); refine blk_put (cs := #[.bool t471, .int .u64 0, .int .u64 0]) ?_ 1 _ rfl; (with_reducible repeat first | apply blk_drewN | apply blk_drew | apply blk_alloc); refine blk_put (cs := #[.bool false, .int .u64 0, .int .u64 0]) ?_ 0 _ rfl; (with_reducible repeat first | apply blk_drewN | apply blk_drew | apply blk_alloc); exact BK475.out) hb); replace HB := stA hb; clear hb) | ((with_reducible refine gate_dst (N := 7) rfl ?_); refine box_event ?hg (N := 7) ?hd (cs := #[.bool false, .int .u64 0, .int .u64 0]) (t := 33) ?hr ?_; (case hd => rfl); (case hg => rfl); (case hr => first | (go_simp; done) | (go_simp; rfl)); intro gb480 hg w15 hbox hb; have BK480 := Aside0.mk (hbox); obtain ⟨GW480, nHB⟩ := geA hg hb; have GE480 := GW480; obtain ⟨NB475_480, NB480_475, nBK⟩ := nbA BK475 hg hb; replace BK475 := nBK; clear nBK; replace HB := nHB; clear nHB; clear hb hbox hg; have hnb16 := NB480_475.out; have hnc16 := NB475_480.out; have hcz17_0 := czZ BK480 0 (.bool false); have hcz17_1 := czZ BK480 1 (.int .u64 0); have hcz17_2 := czZ BK480 2 (.int .u64 0); have hfz17_0 := blk_frozen BK480.out 0; have hfz17_1 := blk_frozen BK480.out 1; have hfz17_2 := blk_frozen BK480.out 2) | ((with_reducible refine gate_callee (f := 21) rfl ?_); refine goesLA_ (some 25) rfl rfl Tryd.func21 rfl #[.int .i64 a1] rfl ?_; (with_reducible refine (sawtoothref02_OfS.calls a1 t481 t482 t483 _ A6.out).mono ?_); rintro e w18 ⟨rfl, hb⟩; refine ⟨_, rfl, ?_⟩; replace BK475 := bfZ BK475 (fun h_ => by (with_reducible repeat first | apply blk_drewN | apply blk_drew | apply blk_alloc | refine farZ ?_ NB475_480 _); exact h_) hb; replace BK480 := Aside0.mk (blk_below (g := gb480) (o := .cells #[.bool t476, .int .u64 t477, .int .u64 t478] 33 (0, 0)) (by (with_reducible repeat first | apply blk_drewN | apply blk_drew | apply blk_alloc); refine blk_put (cs := #[.bool t476, .int .u64 t477, .int .u64 0]) ?_ 2 _ rfl; (with_reducible repeat first | apply blk_drewN | apply blk_drew | apply blk_alloc); refine blk_put (cs := #[.bool t476, .int .u64 0, .int .u64 0]) ?_ 1 _ rfl; (with_reducible repeat first | apply blk_drewN | apply blk_drew | apply blk_alloc); refine blk_put (cs := #[.bool false, .int .u64 0, .int .u64 0]) ?_ 0 _ rfl; (with_reducible repeat first | apply blk_drewN | apply blk_drew | apply blk_alloc); exact BK480.out) hb); replace HB := stA hb; clear hb) | ((with_reducible refine gate_callee (f := 20) rfl ?_); refine goesLA_ (some 26) rfl rfl Tryd.func20 rfl #[.agg #[.bool t481, .int .u64 t482, .int .u64 t483], .int .u64 10000000000000000000] rfl ?_; (with_reducible refine (sawtoothref02_Scale.calls t481 t482 t483 10000000000000000000 t484 t485 t486 t487 _ A7.out).mono ?_); rintro e w19 ⟨rfl, hb⟩; refine ⟨_, rfl, ?_⟩; replace BK475 := bdZ BK475 hb; replace BK480 := bdZ BK480 hb; replace HB := stA hb; clear hb) | ((with_reducible refine gate_dst (N := 9) rfl ?_); refine box_event ?hg (N := 9) ?hd (cs := #[.bool false, .int .u64 0, .int .u64 0]) (t := 33) ?hr ?_; (case hd => rfl); (case hg => rfl); (case hr => first | (go_simp; done) | (go_simp; rfl)); intro gb488 hg w20 hbox hb; have BK488 := Aside0.mk (hbox); obtain ⟨GW488, nHB⟩ := geA hg hb; have GE488 := GW488; obtain ⟨NB475_488, NB488_475, nBK⟩ := nbA BK475 hg hb; replace BK475 := nBK; clear nBK; obtain ⟨NB480_488, NB488_480, nBK⟩ := nbA BK480 hg hb; replace BK480 := nBK; clear nBK; replace HB := nHB; clear nHB; clear hb hbox hg; have hnb21 := NB488_475.out; have hnc21 := NB475_488.out; have hnb22 := NB488_480.out; have hnc22 := NB480_488.out; have hcz23_0 := czZ BK488 0 (.bool false); have hcz23_1 := czZ BK488 1 (.int .u64 0); have hcz23_2 := czZ BK488 2 (.int .u64 0); have hfz23_0 := blk_frozen BK488.out 0; have hfz23_1 := blk_frozen BK488.out 1; have hfz23_2 := blk_frozen BK488.out 2; have hcz24_0 := czZ BK480 0 (.bool t476); have hcz24_1 := czZ BK480 1 (.int .u64 t477); have hcz24_2 := czZ BK480 2 (.int .u64 t478); have hfz24_0 := blk_frozen BK480.out 0; have hfz24_1 := blk_frozen BK480.out 1; have hfz24_2 := blk_frozen BK480.out 2) | (go_at_call 22; (with_reducible refine (sawtoothref02_CmpS.calls t476 t477 t478 t484 t485 t486 t489 _ A10.out).mono ?_); rintro e w25 ⟨rfl, hb⟩; replace BK475 := bfZ BK475 (fun h_ => by (with_reducible repeat first | apply blk_drewN | apply blk_drew | apply blk_alloc | refine farZ ?_ NB475_488 _); exact h_) hb; replace BK480 := bfZ BK480 (fun h_ => by (with_reducible repeat first | apply blk_drewN | apply blk_drew | apply blk_alloc | refine farZ ?_ NB480_488 _); exact h_) hb; replace BK488 := Aside0.mk (blk_below (g := gb488) (o := .cells #[.bool t484, .int .u64 t485, .int .u64 t486] 33 (0, 0)) (by (with_reducible repeat first | apply blk_drewN | apply blk_drew | apply blk_alloc); refine blk_put (cs := #[.bool t484, .int .u64 t485, .int .u64 0]) ?_ 2 _ rfl; (with_reducible repeat first | apply blk_drewN | apply blk_drew | apply blk_alloc); refine blk_put (cs := #[.bool t484, .int .u64 0, .int .u64 0]) ?_ 1 _ rfl; (with_reducible repeat first | apply blk_drewN | apply blk_drew | apply blk_alloc); refine blk_put (cs := #[.bool false, .int .u64 0, .int .u64 0]) ?_ 0 _ rfl; (with_reducible repeat first | apply blk_drewN | apply blk_drew | apply blk_alloc); exact BK488.out) hb); replace HB := stA hb; clear hb))
    go_ret
    exact ⟨by first | rfl | (simp [errW_none, errW_some] <;> rfl) | (simp [*, errW_none, errW_some] <;> rfl), by repeat (first | (with_reducible first | exact HB.out | apply below_alloc | apply pw_below_drewN | apply below_drew1 | refine below_set ?_ (Aside0.out (by assumption))) | exact HB.out)⟩
   ·rw [if_neg c9] at H
    have c9b0 : (t487 == 0) = false := beq_eq_false_iff_ne.mpr c9; have c9b1 : (t487 != 0) = true := bne_iff_ne.mpr c9; obtain rfl := Option.some.inj H
    go_enter Tryd.func71, Tryd.ntmps71
    go_wp2_with (first | ((with_reducible refine gate_callee (f := 82) rfl ?_); refine goesLA_ (some 13) rfl rfl Tryd.func82 rfl #[.int .u64 a0] rfl ?_; (with_reducible refine (sawtoothref03_Cube.calls a0 t471 t472 t473 t474 _ A3.out).mono ?_); rintro e w26 ⟨rfl, hb⟩; refine ⟨_, rfl, ?_⟩; replace HB := stA hb; clear hb) | ((with_reducible refine gate_dst (N := 5) rfl ?_); refine box_event ?hg (N := 5) ?hd (cs := #[.bool false, .int .u64 0, .int .u64 0]) (t := 33) ?hr ?_; (case hd => rfl); (case hg => rfl); (case hr => first | (go_simp; done) | (go_simp; rfl)); intro gb475 hg w27 hbox hb; have BK475 := Aside0.mk (hbox); obtain ⟨GW475, nHB⟩ := geA hg hb; have GE475 := GW475; replace HB := nHB; clear nHB; clear hb hbox hg; have hcz28_0 := czZ BK475 0 (.bool false); have hcz28_1 := czZ BK475 1 (.int .u64 0); have hcz28_2 := czZ BK475 2 (.int .u64 0); have hfz28_0 := blk_frozen BK475.out 0; have hfz28_1 := blk_frozen BK475.out 1; have hfz28_2 := blk_frozen BK475.out 2) | ((with_reducible refine gate_callee (f := 20) rfl ?_); refine goesLA_ (some 20) rfl rfl Tryd.func20 rfl #[.agg #[.bool t471, .int .u64 t472, .int .u64 t473], .int .u64 262144] rfl ?_; (with_reducible refine (sawtoothref02_Scale.calls t471 t472 t473 262144 t476 t477 t478 t479 _ A5.out).mono ?_); rintro e w29 ⟨rfl, hb⟩; refine ⟨_, rfl, ?_⟩; replace BK475 := Aside0.mk (blk_below (g := gb475) (o := .cells #[.bool t471, .int .u64 t472, .int .u64 t473] 33 (0, 0)) (by (with_reducible repeat first | apply blk_drewN | apply blk_drew | apply blk_alloc); refine blk_put (cs := #[.bool t471, .int .u64 t472, .int .u64 0]) ?_ 2 _ rfl; (with_reducible repeat first | apply blk_drewN | apply blk_drew | apply blk_alloc); refine blk_put (cs := #[.bool t471, .int .u64 0, .int .u64 0]) ?_ 1 _ rfl; (with_reducible repeat first | apply blk_drewN | apply blk_drew | apply blk_alloc); refine blk_put (cs := #[.bool false, .int .u64 0, .int .u64 0]) ?_ 0 _ rfl; (with_reducible repeat first | apply blk_drewN | apply blk_drew | apply blk_alloc); exact BK475.out) hb); replace HB := stA hb; clear hb) | ((with_reducible refine gate_dst (N := 7) rfl ?_); refine box_event ?hg (N := 7) ?hd (cs := #[.bool false, .int .u64 0, .int .u64 0]) (t := 33) ?hr ?_; (case hd => rfl); (case hg => rfl); (case hr => first | (go_simp; done) | (go_simp; rfl)); intro gb480 hg w30 hbox hb; have BK480 := Aside0.mk (hbox); obtain ⟨GW480, nHB⟩ := geA hg hb; have GE480 := GW480; obtain ⟨NB475_480, NB480_475, nBK⟩ := nbA BK475 hg hb; replace BK475 := nBK; clear nBK; replace HB := nHB; clear nHB; clear hb hbox hg; have hnb31 := NB480_475.out; have hnc31 := NB475_480.out; have hcz32_0 := czZ BK480 0 (.bool false); have hcz32_1 := czZ BK480 1 (.int .u64 0); have hcz32_2 := czZ BK480 2 (.int .u64 0); have hfz32_0 := blk_frozen BK480.out 0; have hfz32_1 := blk_frozen BK480.out 1; have hfz32_2 := blk_frozen BK480.out 2) | ((with_reducible refine gate_callee (f := 21) rfl ?_); refine goesLA_ (some 25) rfl rfl Tryd.func21 rfl #[.int .i64 a1] rfl ?_; (with_reducible refine (sawtoothref02_OfS.calls a1 t481 t482 t483 _ A6.out).mono ?_); rintro e w33 ⟨rfl, hb⟩; refine ⟨_, rfl, ?_⟩; replace BK475 := bfZ BK475 (fun h_ => by (with_reducible repeat first | apply blk_drewN | apply blk_drew | apply blk_alloc | refine farZ ?_ NB475_480 _); exact h_) hb; replace BK480 := Aside0.mk (blk_below (g := gb480) (o := .cells #[.bool t476, .int .u64 t477, .int .u64 t478] 33 (0, 0)) (by (with_reducible repeat first | apply blk_drewN | apply blk_drew | apply blk_alloc); refine blk_put (cs := #[.bool t476, .int .u64 t477, .int .u64 0]) ?_ 2 _ rfl; (with_reducible repeat first | apply blk_drewN | apply blk_drew | apply blk_alloc); refine blk_put (cs := #[.bool t476, .int .u64 0, .int .u64 0]) ?_ 1 _ rfl; (with_reducible repeat first | apply blk_drewN | apply blk_drew | apply blk_alloc); refine blk_put (cs := #[.bool false, .int .u64 0, .int .u64 0]) ?_ 0 _ rfl; (with_reducible repeat first | apply blk_drewN | apply blk_drew | apply blk_alloc); exact BK480.out) hb); replace HB := stA hb; clear hb) | ((with_reducible refine gate_callee (f := 20) rfl ?_); refine goesLA_ (some 26) rfl rfl Tryd.func20 rfl #[.agg #[.bool t481, .int .u64 t482, .int .u64 t483], .int .u64 10000000000000000000] rfl ?_; (with_reducible refine (sawtoothref02_Scale.calls t481 t482 t483 10000000000000000000 t484 t485 t486 t487 _ A7.out).mono ?_); rintro e w34 ⟨rfl, hb⟩; refine ⟨_, rfl, ?_⟩; replace BK475 := bdZ BK475 hb; replace BK480 := bdZ BK480 hb; replace HB := stA hb; clear hb) | ((with_reducible refine gate_dst (N := 9) rfl ?_); refine box_event ?hg (N := 9) ?hd (cs := #[.bool false, .int .u64 0, .int .u64 0]) (t := 33) ?hr ?_; (case hd => rfl); (case hg => rfl); (case hr => first | (go_simp; done) | (go_simp; rfl)); intro gb488 hg w35 hbox hb; have BK488 := Aside0.mk (hbox); obtain ⟨GW488, nHB⟩ := geA hg hb; have GE488 := GW488; obtain ⟨NB475_488, NB488_475, nBK⟩ := nbA BK475 hg hb; replace BK475 := nBK; clear nBK; obtain ⟨NB480_488, NB488_480, nBK⟩ := nbA BK480 hg hb; replace BK480 := nBK; clear nBK; replace HB := nHB; clear nHB; clear hb hbox hg; have hnb36 := NB488_475.out; have hnc36 := NB475_488.out; have hnb37 := NB488_480.out; have hnc37 := NB480_488.out; have hcz38_0 := czZ BK488 0 (.bool false); have hcz38_1 := czZ BK488 1 (.int .u64 0); have hcz38_2 := czZ BK488 2 (.int .u64 0); have hfz38_0 := blk_frozen BK488.out 0; have hfz38_1 := blk_frozen BK488.out 1; have hfz38_2 := blk_frozen BK488.out 2))
    go_ret
    exact ⟨by first | rfl | (simp [errW_none, errW_some] <;> rfl) | (simp [*, errW_none, errW_some] <;> rfl), by repeat (first | (with_reducible first | exact HB.out | apply below_alloc | apply pw_below_drewN | apply below_drew1 | refine below_set ?_ (Aside0.out (by assumption))) | exact HB.out)⟩
  ·rw [if_neg c8] at H
   have c8b0 : (t479 == 0) = false := beq_eq_false_iff_ne.mpr c8; have c8b1 : (t479 != 0) = true := bne_iff_ne.mpr c8; obtain rfl := Option.some.inj H
   go_enter Tryd.func71, Tryd.ntmps71
   go_wp2_with (first | ((with_reducible refine gate_callee (f := 82) rfl ?_); refine goesLA_ (some 13) rfl rfl Tryd.func82 rfl #[.int .u64 a0] rfl ?_; (with_reducible refine (sawtoothref03_Cube.calls a0 t471 t472 t473 t474 _ A3.out).mono ?_); rintro e w39 ⟨rfl, hb⟩; refine ⟨_, rfl, ?_⟩; replace HB := stA hb; clear hb) | ((with_reducible refine gate_dst (N := 5) rfl ?_); refine box_event ?hg (N := 5) ?hd (cs := #[.bool false, .int .u64 0, .int .u64 0]) (t := 33) ?hr ?_; (case hd => rfl); (case hg => rfl); (case hr => first | (go_simp; done) | (go_simp; rfl)); intro gb475 hg w40 hbox hb; have BK475 := Aside0.mk (hbox); obtain ⟨GW475, nHB⟩ := geA hg hb; have GE475 := GW475; replace HB := nHB; clear nHB; clear hb hbox hg; have hcz41_0 := czZ BK475 0 (.bool false); have hcz41_1 := czZ BK475 1 (.int .u64 0); have hcz41_2 := czZ BK475 2 (.int .u64 0); have hfz41_0 := blk_frozen BK475.out 0; have hfz41_1 := blk_frozen BK475.out 1; have hfz41_2 := blk_frozen BK475.out 2) | ((with_reducible refine gate_callee (f := 20) rfl ?_); refine goesLA_ (some 20) rfl rfl Tryd.func20 rfl #[.agg #[.bool t471, .int .u64 t472, .int .u64 t473], .int .u64 262144] rfl ?_; (with_reducible refine (sawtoothref02_Scale.calls t471 t472 t473 262144 t476 t477 t478 t479 _ A5.out).mono ?_); rintro e w42 ⟨rfl, hb⟩; refine ⟨_, rfl, ?_⟩; replace BK475 := Aside0.mk (blk_below (g := gb475) (o := .cells #[.bool t471, .int .u64 t472, .int .u64 t473] 33 (0, 0)) (by (with_reducible repeat first | apply blk_drewN | apply blk_drew | apply blk_alloc); refine blk_put (cs := #[.bool t471, .int .u64 t472, .int .u64 0]) ?_ 2 _ rfl; (with_reducible repeat first | apply blk_drewN | apply blk_drew | apply blk_alloc); refine blk_put (cs := #[.bool t471, .int .u64 0, .int .u64 0]) ?_ 1 _ rfl; (with_reducible repeat first | apply blk_drewN | apply blk_drew | apply blk_alloc); refine blk_put (cs := #[.bool false, .int .u64 0, .int .u64 0]) ?_ 0 _ rfl; (with_reducible repeat first | apply blk_drewN | apply blk_drew | apply blk_alloc); exact BK475.out) hb); replace HB := stA hb; clear hb) | ((with_reducible refine gate_dst (N := 7) rfl ?_); refine box_event ?hg (N := 7) ?hd (cs := #[.bool false, .int .u64 0, .int .u64 0]) (t := 33) ?hr ?_; (case hd => rfl); (case hg => rfl); (case hr => first | (go_simp; done) | (go_simp; rfl)); intro gb480 hg w43 hbox hb; have BK480 := Aside0.mk (hbox); obtain ⟨GW480, nHB⟩ := geA hg hb; have GE480 := GW480; obtain ⟨NB475_480, NB480_475, nBK⟩ := nbA BK475 hg hb; replace BK475 := nBK; clear nBK; replace HB := nHB; clear nHB; clear hb hbox hg; have hnb44 := NB480_475.out; have hnc44 := NB475_480.out; have hcz45_0 := czZ BK480 0 (.bool false); have hcz45_1 := czZ BK480 1 (.int .u64 0); have hcz45_2 := czZ BK480 2 (.int .u64 0); have hfz45_0 := blk_frozen BK480.out 0; have hfz45_1 := blk_frozen BK480.out 1; have hfz45_2 := blk_frozen BK480.out 2) | ((with_reducible refine gate_callee (f := 21) rfl ?_); refine goesLA_ (some 25) rfl rfl Tryd.func21 rfl #[.int .i64 a1] rfl ?_; (with_reducible refine (sawtoothref02_OfS.calls a1 t481 t482 t483 _ A6.out).mono ?_); rintro e w46 ⟨rfl, hb⟩; refine ⟨_, rfl, ?_⟩; replace BK475 := bfZ BK475 (fun h_ => by (with_reducible repeat first | apply blk_drewN | apply blk_drew | apply blk_alloc | refine farZ ?_ NB475_480 _); exact h_) hb; replace BK480 := Aside0.mk (blk_below (g := gb480) (o := .cells #[.bool t476, .int .u64 t477, .int .u64 t478] 33 (0, 0)) (by (with_reducible repeat first | apply blk_drewN | apply blk_drew | apply blk_alloc); refine blk_put (cs := #[.bool t476, .int .u64 t477, .int .u64 0]) ?_ 2 _ rfl; (with_reducible repeat first | apply blk_drewN | apply blk_drew | apply blk_alloc); refine blk_put (cs := #[.bool t476, .int .u64 0, .int .u64 0]) ?_ 1 _ rfl; (with_reducible repeat first | apply blk_drewN | apply blk_drew | apply blk_alloc); refine blk_put (cs := #[.bool false, .int .u64 0, .int .u64 0]) ?_ 0 _ rfl; (with_reducible repeat first | apply blk_drewN | apply blk_drew | apply blk_alloc); exact BK480.out) hb); replace HB := stA hb; clear hb) | ((with_reducible refine gate_callee (f := 20) rfl ?_); refine goesLA_ (some 26) rfl rfl Tryd.func20 rfl #[.agg #[.bool t481, .int .u64 t482, .int .u64 t483], .int .u64 10000000000000000000] rfl ?_; (with_reducible refine (sawtoothref02_Scale.calls t481 t482 t483 10000000000000000000 t484 t485 t486 t487 _ A7.out).mono ?_); rintro e w47 ⟨rfl, hb⟩; refine ⟨_, rfl, ?_⟩; replace BK475 := bdZ BK475 hb; replace BK480 := bdZ BK480 hb; replace HB := stA hb; clear hb) | ((with_reducible refine gate_dst (N := 9) rfl ?_); refine box_event ?hg (N := 9) ?hd (cs := #[.bool false, .int .u64 0, .int .u64 0]) (t := 33) ?hr ?_; (case hd => rfl); (case hg => rfl); (case hr => first | (go_simp; done) | (go_simp; rfl)); intro gb488 hg w48 hbox hb; have BK488 := Aside0.mk (hbox); obtain ⟨GW488, nHB⟩ := geA hg hb; have GE488 := GW488; obtain ⟨NB475_488, NB488_475, nBK⟩ := nbA BK475 hg hb; replace BK475 := nBK; clear nBK; obtain ⟨NB480_488, NB488_480, nBK⟩ := nbA BK480 hg hb; replace BK480 := nBK; clear nBK; replace HB := nHB; clear nHB; clear hb hbox hg; have hnb49 := NB488_475.out; have hnc49 := NB475_488.out; have hnb50 := NB488_480.out; have hnc50 := NB480_488.out; have hcz51_0 := czZ BK488 0 (.bool false); have hcz51_1 := czZ BK488 1 (.int .u64 0); have hcz51_2 := czZ BK488 2 (.int .u64 0); have hfz51_0 := blk_frozen BK488.out 0; have hfz51_1 := blk_frozen BK488.out 1; have hfz51_2 := blk_frozen BK488.out 2))
   go_ret
   exact ⟨by first | rfl | (simp [errW_none, errW_some] <;> rfl) | (simp [*, errW_none, errW_some] <;> rfl), by repeat (first | (with_reducible first | exact HB.out | apply below_alloc | apply pw_below_drewN | apply below_drew1 | refine below_set ?_ (Aside0.out (by assumption))) | exact HB.out)⟩
 ·rw [if_neg c4] at H
  have c4b0 : (t474 == 0) = false := beq_eq_false_iff_ne.mpr c4; have c4b1 : (t474 != 0) = true := bne_iff_ne.mpr c4; obtain rfl := Option.some.inj H
  go_enter Tryd.func71, Tryd.ntmps71
  go_wp2_with (first | ((with_reducible refine gate_callee (f := 82) rfl ?_); refine goesLA_ (some 13) rfl rfl Tryd.func82 rfl #[.int .u64 a0] rfl ?_; (with_reducible refine (sawtoothref03_Cube.calls a0 t471 t472 t473 t474 _ A3.out).mono ?_); rintro e w52 ⟨rfl, hb⟩; refine ⟨_, rfl, ?_⟩; replace HB := stA hb; clear hb) | ((with_reducible refine gate_dst (N := 5) rfl ?_); refine box_event ?hg (N := 5) ?hd (cs := #[.bool false, .int .u64 0, .int .u64 0]) (t := 33) ?hr ?_; (case hd => rfl); (case hg => rfl); (case hr => first | (go_simp; done) | (go_simp; rfl)); intro gb475 hg w53 hbox hb; have BK475 := Aside0.mk (hbox); obtain ⟨GW475, nHB⟩ := geA hg hb; have GE475 := GW475; replace HB := nHB; clear nHB; clear hb hbox hg; have hcz54_0 := czZ BK475 0 (.bool false); have hcz54_1 := czZ BK475 1 (.int .u64 0); have hcz54_2 := czZ BK475 2 (.int .u64 0); have hfz54_0 := blk_frozen BK475.out 0; have hfz54_1 := blk_frozen BK475.out 1; have hfz54_2 := blk_frozen BK475.out 2))
  go_ret
  exact ⟨by first | rfl | (simp [errW_none, errW_some] <;> rfl) | (simp [*, errW_none, errW_some] <;> rfl), by repeat (first | (with_reducible first | exact HB.out | apply below_alloc | apply pw_below_drewN | apply below_drew1 | refine below_set ?_ GE475.out) | exact HB.out)⟩

/-! ### sawtoothref11_LittleS: pure, behind function 71 -/
section
open Go.Proofs.YtgakpcfmgcpeaaaDoor.Sp
noncomputable def sawtoothref11_LittleS.f (n : Int) (g : Int) : Option (Bool) := need ((0 ≤ n ∧ n ≤ 4294967296) ∧ (0 ≤ g ∧ g ≤ 68719476736)) (some (decide (n * n * n * 262144 ≤ g * 10000000000000000000)))
theorem sawtoothref11_LittleS.eq {n : Int} {g : Int} (h1 : 0 ≤ n ∧ n ≤ 4294967296) (h2 : 0 ≤ g ∧ g ≤ 68719476736) : sawtoothref11_LittleS.f n g = some (decide (n * n * n * 262144 ≤ g * 10000000000000000000)) := need_pos ⟨h1, h2⟩
theorem sawtoothref11_Little.main {n : Int} {g : Int} (h1 : 0 ≤ n ∧ n ≤ 4294967296) (h2 : 0 ≤ g ∧ g ≤ 68719476736) : sawtoothref11_Little.f n g = some (decide (n * n * n * 262144 ≤ g * 10000000000000000000)) := by
 unfold sawtoothref11_Little.f sawtoothref03_Cube.f sawtoothref03_Square.f sawtoothref02_Scale.f sawtoothref02_OfS.f sawtoothref02_CmpS.f
 have p1 := mul_le (A := 4294967296) (C := 4294967296) h1.1 h1.2 h1.1 h1.2; have p2 := mul_le (A := 18446744073709551616) (C := 4294967296) p1.1 p1.2 h1.1 h1.2
 rw [scaleF_eq (by omega) (by omega) (by omega), val_f]
 have e : (0 * 18446744073709551616 + n) * n = n * n := by rw [Int.zero_mul, Int.zero_add]
 rw [e, held_in (by omega)]
 simp only [Option.bind_some]
 rw [scaleF_enc (by omega) (by omega), held_in (by omega)]
 simp only [Option.bind_some, if_true]
 rw [scaleF_enc (by omega) (by omega), held_in (by omega), ofF_eq (by omega)]
 simp only [Option.bind_some]
 rw [scaleF_enc (by omega) (by omega), held_in (by omega)]
 simp only [Option.bind_some, if_true]
 rw [cmpF_enc (by omega) (by omega)]
 simp only [Option.bind_some]
 congr 1
 rw [decide_eq_decide]
 unfold cmpI
 split
 ·omega
 ·split <;> omega
end
theorem sawtoothref11_LittleS.calls (a0 : Int) (a1 : Int) (r : Bool) (w : World) (h : sawtoothref11_LittleS.f a0 a1 = some r) :
  Calls Tryd.prog 71 #[.int .u64 a0, .int .i64 a1] w fun e w' => e = .returned (.bool r) ∧ Below w.heap.size w w' := by
 obtain ⟨hc, h⟩ := Sp.need_some h; obtain ⟨h1, h2⟩ := hc; exact sawtoothref11_Little.calls a0 a1 r w (by rw [sawtoothref11_Little.main h1 h2]; exact h)

/-! ### sawtoothref11_K: function 54 -/
noncomputable def sawtoothref11_K.l0 : Nat → Int → Int → Int → Option (Int)
 | 0, _, _, _ => none
 | k + 1, x3, x4, x5 => if x5 > 0 then ((sawtoothref11_LittleS.f (IntKind.u64.wrap (x4 + x5)) x3).bind fun t491 => (if t491 = true then (sawtoothref11_K.l0 k x3 (IntKind.u64.wrap (x4 + x5)) (IntKind.u64.wrap (Int.tdiv x5 2))) else (sawtoothref11_K.l0 k x3 x4 (IntKind.u64.wrap (Int.tdiv x5 2))))) else (some (wrap64 (x4)))
noncomputable def sawtoothref11_K.f (k : Nat) (a0 : Int) : Option (Int) := (sawtoothref01_ClampS.f a0 0 68719476736).bind fun t490 => (sawtoothref11_K.l0 k t490 0 1073741824)
set_option maxHeartbeats 8000000 in
set_option maxRecDepth 100000 in
theorem sawtoothref11_K.calls (k : Nat) (a0 : Int) (r : Int) (w : World) (h : sawtoothref11_K.f k a0 = some r) :
  Calls Tryd.prog 54 #[.int .i64 a0] w fun e w' => e = .returned (.int .i64 r) ∧ Below w.heap.size w w' := by
 have HB := Aside0.mk (Below.refl w.heap.size w); have H : ((sawtoothref01_ClampS.f a0 0 68719476736).bind fun t490 => (sawtoothref11_K.l0 k t490 0 1073741824)) = some r := h; clear h; replace H := Option.bind_eq_some_iff.mp H; obtain ⟨t490, A20, H⟩ := H; replace H : (sawtoothref11_K.l0 k t490 0 1073741824) = some r := H; have A2 := Aside0.mk A20; clear A20; have H' := Aside0.mk H; clear H
 go_enter Tryd.func54, Tryd.ntmps54
 go_wp2_with (first | ((with_reducible refine gate_callee (f := 36) rfl ?_); refine goesLA_ (some 8) rfl rfl Tryd.func36 rfl #[.int .i64 a0, .int .i64 0, .int .i64 68719476736] rfl ?_; (with_reducible refine (sawtoothref01_ClampS.calls a0 0 68719476736 t490 _ A2.out).mono ?_); rintro e w3 ⟨rfl, hb⟩; refine ⟨_, rfl, ?_⟩; replace HB := stA hb; clear hb))
 go_loopg [4, 5] k (fun kq v4 v5 w' => ∃ (x4_1 : Int) (x5_1 : Int), v4 = .int .u64 x4_1 ∧ v5 = .int .u64 x5_1 ∧ Aside0 (sawtoothref11_K.l0 kq t490 x4_1 x5_1 = some r) ∧ Aside0 (kq ≤ k) ∧ Aside0 (Below w.heap.size w w'))
 case atStart => exact ⟨(0), (1073741824), (by first | rfl | (simp; done) | (simp [*]; done)), (by first | rfl | (simp; done) | (simp [*]; done)), H', ⟨Nat.le_refl _⟩, ⟨by repeat (first | (with_reducible first | exact HB.out | apply below_alloc | apply pw_below_drewN | apply below_drew1) | exact HB.out)⟩⟩
 case round =>
  clear H'
  try clear p2
  try clear c3
  obtain ⟨x4_1, x5_1, rfl, rfl, HA, HK1, HB⟩ := hrel
  cases gk with
  | zero => exact absurd HA.out (by simp [sawtoothref11_K.l0])
  | succ k1 =>
   have H := HA.out; clear HA; simp only [sawtoothref11_K.l0] at H
   by_cases c4 : x5_1 > 0
   ·rw [if_pos c4] at H
    have c4b0 : decide (0 < x5_1) = true := decide_eq_true c4; clear c4; replace H := Option.bind_eq_some_iff.mp H; obtain ⟨t491, A50, H⟩ := H; (try dsimp only at H); have A5 := Aside0.mk A50; clear A50
    by_cases c6 : t491 = true
    ·subst c6
     have H1 : (sawtoothref11_K.l0 k1 t490 (IntKind.u64.wrap (x4_1 + x5_1)) (IntKind.u64.wrap (Int.tdiv x5_1 2))) = some r := by rw [if_pos rfl] at H; exact H
     clear H; have H := H1; clear H1; have H' := Aside0.mk H; clear H
     go_wp2_with (first | ((with_reducible refine gate_callee (f := 71) rfl ?_); refine goesLA_ (some 15) rfl rfl Tryd.func71 rfl #[.int .u64 (IntKind.u64.wrap (x4_1 + x5_1)), .int .i64 t490] rfl ?_; (with_reducible refine (sawtoothref11_LittleS.calls (IntKind.u64.wrap (x4_1 + x5_1)) t490 true _ A5.out).mono ?_); rintro e w7 ⟨rfl, hb⟩; refine ⟨_, rfl, ?_⟩; replace HB := stA hb; clear hb))
     go_roundg k1
     case measure => have := HK1.out; omega
     case rel => exact ⟨(IntKind.u64.wrap (x4_1 + x5_1)), (IntKind.u64.wrap (Int.tdiv x5_1 2)), (by first | rfl | (simp; done) | (simp [*]; done)), (by first | rfl | (simp; done) | (simp [*]; done)), H', ⟨by have := HK1.out; omega⟩, ⟨by repeat (first | (with_reducible first | exact HB.out | apply below_alloc | apply pw_below_drewN | apply below_drew1) | exact HB.out)⟩⟩
    ·replace c6 := Bool.eq_false_iff.mpr c6
     subst c6
     have H1 : (sawtoothref11_K.l0 k1 t490 x4_1 (IntKind.u64.wrap (Int.tdiv x5_1 2))) = some r := by rw [if_neg (show ¬ (false = true) by decide)] at H; exact H
     clear H; have H := H1; clear H1; have H' := Aside0.mk H; clear H
     go_wp2_with (first | ((with_reducible refine gate_callee (f := 71) rfl ?_); refine goesLA_ (some 15) rfl rfl Tryd.func71 rfl #[.int .u64 (IntKind.u64.wrap (x4_1 + x5_1)), .int .i64 t490] rfl ?_; (with_reducible refine (sawtoothref11_LittleS.calls (IntKind.u64.wrap (x4_1 + x5_1)) t490 false _ A5.out).mono ?_); rintro e w8 ⟨rfl, hb⟩; refine ⟨_, rfl, ?_⟩; replace HB := stA hb; clear hb))
     go_roundg k1
     case measure => have := HK1.out; omega
     case rel => exact ⟨(x4_1), (IntKind.u64.wrap (Int.tdiv x5_1 2)), (by first | rfl | (simp; done) | (simp [*]; done)), (by first | rfl | (simp; done) | (simp [*]; done)), H', ⟨by have := HK1.out; omega⟩, ⟨by repeat (first | (with_reducible first | exact HB.out | apply below_alloc | apply pw_below_drewN | apply below_drew1) | exact HB.out)⟩⟩
   ·rw [if_neg c4] at H
    have c4b0 : decide (0 < x5_1) = false := decide_eq_false c4; clear c4; obtain rfl := Option.some.inj H
    go_wp2
    go_ret
    exact ⟨by first | rfl | (simp [errW_none, errW_some] <;> rfl) | (simp [*, errW_none, errW_some] <;> rfl), by repeat (first | (with_reducible first | exact HB.out | apply below_alloc | apply pw_below_drewN | apply below_drew1) | exact HB.out)⟩

/-! ### sawtoothref11_KS: pure, behind function 54 -/
section
open Go.Proofs.YtgakpcfmgcpeaaaDoor.Sp
noncomputable def sawtoothref11_KS.f (a : Int) : Option (Int) := need ((I a)) (some (kQ a))
theorem sawtoothref11_KS.eq {a : Int} (h1 : I a) : sawtoothref11_KS.f a = some (kQ a) := need_pos h1
theorem sawtoothref11_K.main {a : Int} (h1 : I a) : sawtoothref11_K.f 32 a = some (kQ a) := by
 unfold sawtoothref11_K.f
 rw [sawtoothref01_ClampS.eq]
 simp only [Option.bind_some]; have c := clamp_bd (a := a) (low := 0) (high := 68719476736) (by omega); have b := kQ_bd a
 have e : kQ a = kQ (clamp a 0 68719476736) := by
  unfold kQ; rw [clamp_in (a := clamp a 0 68719476736) c.1 c.2]
 rw [e] at b ⊢
 generalize clamp a 0 68719476736 = g at *
 have loop : ∀ (n : Nat) (out : Int), n ≤ 31 → 0 ≤ out → out ≤ kQ g → kQ g < out + 2 ^ n → out + 2 ^ n ≤ 2147483648 → sawtoothref11_K.l0 (n + 1) g out (if n = 0 then 0 else 2 ^ (n - 1)) = some (kQ g) := by
  intro n
  induction n with
  | zero =>
   intro out _ o0 o1 o2 o3; simp only [sawtoothref11_K.l0, if_true]
   simp at o2
   rw [if_neg (by omega), w64 (by omega)]
   congr 1; omega
  | succ n ih =>
   intro out hn o0 o1 o2 o3
   rw [if_neg (by omega), show n + 1 - 1 = n by omega]
   rw [Int.pow_succ] at o2 o3
   have p0 : (0 : Int) < 2 ^ n := Int.pow_pos (by omega)
   have nx : IntKind.u64.wrap (Int.tdiv (2 ^ n) 2) = if n = 0 then 0 else 2 ^ (n - 1) := by
    rw [Int.tdiv_eq_ediv_of_nonneg (by omega)]
    cases n with
    | zero => rfl
    | succ m =>
     rw [if_neg (by omega), show m + 1 - 1 = m by omega]
     rw [Int.pow_succ] at *
     have q0 : (0 : Int) < 2 ^ m := Int.pow_pos (by omega)
     generalize (2 : Int) ^ m = q at *
     rw [u64w_in (by omega)]; omega
   have ih' := fun o => ih o (by omega)
   rw [sawtoothref11_K.l0, if_pos (by omega), nx]
   generalize hq : (2 : Int) ^ n = q at *
   rw [u64w_in (x := out + q) (by omega), sawtoothref11_LittleS.eq (by omega) (by omega)]
   simp only [Option.bind_some]; have k := kQ_le (g := g) (n := out + q) (by omega) (by omega) (by omega)
   by_cases l : out + q ≤ kQ g
   ·rw [if_pos (decide_eq_true (k.2 l))]
    exact ih' (out + q) (by omega) l (by omega) (by omega)
   ·rw [if_neg (show ¬ decide ((out + q) * (out + q) * (out + q) * 262144 ≤ g * 10000000000000000000) = true by rw [decide_eq_true_iff, k]; exact l)]
    exact ih' out o0 o1 (by omega) (by omega)
 have p31 : (2 : Int) ^ 31 = 2147483648 := by decide
 exact loop 31 0 (by omega) (by omega) b.1 (by omega) (by omega)
end
theorem sawtoothref11_KS.calls (a0 : Int) (r : Int) (w : World) (h : sawtoothref11_KS.f a0 = some r) :
  Calls Tryd.prog 54 #[.int .i64 a0] w fun e w' => e = .returned (.int .i64 r) ∧ Below w.heap.size w w' := by
 obtain ⟨hc, h⟩ := Sp.need_some h; have h1 := hc; exact sawtoothref11_K.calls 32 a0 r w (by rw [sawtoothref11_K.main h1]; exact h)

end Go.Proofs.YtgakpcfmgcpeaaaDoor.Px
