/- Printed by px.py, over the kit's print. Conditions: none beside the theorems' own. -/
import Derived.Test.YtceiakiihkaamaaDoorPx0
import Derived.Test.YtceiakiihkaamaaDoorPx30
import Derived.Test.YtceiakiihkaamaaDoorPx31
import Derived.Test.YtceiakiihkaamaaDoorPx32
import Derived.Test.YtceiakiihkaamaaDoorPx33
import Derived.Test.YtceiakiihkaamaaDoorSpec
namespace Go.Proofs.YtceiakiihkaamaaDoor.Px
open Go.RowKit Go.Proofs.YtceiakiihkaamaaDoorW.PrintWords Go.Proofs.YtceiakiihkaamaaDoorW.PrintLast Go.Proofs.YtceiakiihkaamaaDoorW.PrintMore
attribute [local go_sem] max2_int min2_int max_two min_two max_three min_three max_four min_four
set_option linter.unusedVariables false
set_option linter.unusedSimpArgs false

/-! ### sawtoothref02_CmpS: which is greater: pure, behind function 52 -/
noncomputable def sawtoothref02_CmpS.f (n : Bool) (h l : Int) (m : Bool) (i k : Int) : Option Int := Sp.cmpF n h l m i k
section Ref02Cmp
open Go.Proofs.YtceiakiihkaamaaDoor.Sp
theorem sawtoothref02_Cmp.main {n m : Bool} {h l i k : Int} (h1 : U h) (h2 : U l) (h3 : U i) (h4 : U k) : sawtoothref02_Cmp.f 1 n h l m i k = some (cmpI (val n h l) (val m i k)) := by
 unfold sawtoothref02_Cmp.f
 rw [sawtoothref02_digits.eq h1 h2, sawtoothref02_digits.eq h3 h4]
 simp only [Option.bind_some, sawtoothref02_belowS.eq h1 h2, sawtoothref02_belowS.eq h3 h4, sawtoothref02_less.eq h1 h2 h3 h4, sawtoothref02_less.eq h3 h4 h1 h2, sawtoothref02_Cmp.j0]
 have v1 : val n h l = h * 18446744073709551616 + l ∨ val n h l = -(h * 18446744073709551616 + l) := by unfold val; cases n <;> simp
 have v2 : val m i k = i * 18446744073709551616 + k ∨ val m i k = -(i * 18446744073709551616 + k) := by unfold val; cases m <;> simp
 have p1 : 0 ≤ h * 18446744073709551616 + l := by omega
 have p2 : 0 ≤ i * 18446744073709551616 + k := by omega
 generalize val n h l = v at *
 generalize val m i k = w at *
 generalize h * 18446744073709551616 + l = M at *
 generalize i * 18446744073709551616 + k = N at *
 unfold cmpI
 by_cases a : v < 0 <;> by_cases b : w < 0 <;> by_cases c : M < N <;> by_cases d : N < M <;> simp [a, b, c, d] <;> omega
end Ref02Cmp
theorem sawtoothref02_CmpS.calls (a0_0 : Bool) (a0_1 a0_2 : Int) (a1_0 : Bool) (a1_1 a1_2 r : Int) (w : World) (h : sawtoothref02_CmpS.f a0_0 a0_1 a0_2 a1_0 a1_1 a1_2 = some r) :
  Calls Tryd.prog 52 #[.agg #[.bool a0_0, .int .u64 a0_1, .int .u64 a0_2], .agg #[.bool a1_0, .int .u64 a1_1, .int .u64 a1_2]] w fun e w' => e = .returned (.int .i64 r) ∧ Below w.heap.size w w' := by
 obtain ⟨hc, h⟩ := Sp.need_some h; obtain ⟨h1, h2, h3, h4⟩ := hc; exact sawtoothref02_Cmp.calls 1 a0_0 a0_1 a0_2 a1_0 a1_1 a1_2 r w (by rw [sawtoothref02_Cmp.main h1 h2 h3 h4]; exact h)

/-! ### sawtoothref11_Little: function 32 -/
noncomputable def sawtoothref11_Little.f (a0 : Int) (a1 : Int) : Option (Bool) := (sawtoothref03_Cube.f a0).bind fun bt388 => (if bt388.2.2.2 = 0 then ((sawtoothref02_Scale.f bt388.1 bt388.2.1 bt388.2.2.1 262144).bind fun bt393 => ((sawtoothref02_OfS.f a1).bind fun bt398 => ((sawtoothref02_Scale.f bt398.1 bt398.2.1 bt398.2.2 10000000000000000000).bind fun bt401 => (if bt393.2.2.2 = 0 then (if bt401.2.2.2 = 0 then ((sawtoothref02_CmpS.f bt393.1 bt393.2.1 bt393.2.2.1 bt401.1 bt401.2.1 bt401.2.2.1).bind fun t406 => (some (decide (t406 ≤ 0)))) else (some false)) else (some false))))) else (some false))
set_option maxHeartbeats 8000000 in
set_option maxRecDepth 100000 in
theorem sawtoothref11_Little.calls (a0 : Int) (a1 : Int) (r : Bool) (w : World) (h : sawtoothref11_Little.f a0 a1 = some r) :
  Calls Tryd.prog 32 #[.int .u64 a0, .int .i64 a1] w fun e w' => e = .returned (.bool r) ∧ Below w.heap.size w w' := by
 have hu35 := Tryd.underlying35; have HB := Aside0.mk (Below.refl w.heap.size w); have H : ((sawtoothref03_Cube.f a0).bind fun bt388 => (if bt388.2.2.2 = 0 then ((sawtoothref02_Scale.f bt388.1 bt388.2.1 bt388.2.2.1 262144).bind fun bt393 => ((sawtoothref02_OfS.f a1).bind fun bt398 => ((sawtoothref02_Scale.f bt398.1 bt398.2.1 bt398.2.2 10000000000000000000).bind fun bt401 => (if bt393.2.2.2 = 0 then (if bt401.2.2.2 = 0 then ((sawtoothref02_CmpS.f bt393.1 bt393.2.1 bt393.2.2.1 bt401.1 bt401.2.1 bt401.2.2.1).bind fun t406 => (some (decide (t406 ≤ 0)))) else (some false)) else (some false))))) else (some false))) = some r := h; clear h; replace H := Option.bind_eq_some_iff.mp H; obtain ⟨⟨t388, t389, t390, t391⟩, A30, H⟩ := H; (try dsimp only at H); have A3 := Aside0.mk A30; clear A30
 by_cases c4 : t391 = 0
 ·rw [if_pos c4] at H
  have c4b0 : (t391 == 0) = true := beq_iff_eq.mpr c4; have c4b1 : (t391 != 0) = false := bne_eq_false_iff_eq.mpr c4; clear c4; replace H := Option.bind_eq_some_iff.mp H; obtain ⟨⟨t393, t394, t395, t396⟩, A50, H⟩ := H; (try dsimp only at H); have A5 := Aside0.mk A50; clear A50; replace H := Option.bind_eq_some_iff.mp H; obtain ⟨⟨t398, t399, t400⟩, A60, H⟩ := H; (try dsimp only at H); have A6 := Aside0.mk A60; clear A60; replace H := Option.bind_eq_some_iff.mp H; obtain ⟨⟨t401, t402, t403, t404⟩, A70, H⟩ := H; replace H : (if t396 = 0 then (if t404 = 0 then ((sawtoothref02_CmpS.f t393 t394 t395 t401 t402 t403).bind fun t406 => (some (decide (t406 ≤ 0)))) else (some false)) else (some false)) = some r := H; have A7 := Aside0.mk A70; clear A70
  by_cases c8 : t396 = 0
  ·rw [if_pos c8] at H
   have c8b0 : (t396 == 0) = true := beq_iff_eq.mpr c8; have c8b1 : (t396 != 0) = false := bne_eq_false_iff_eq.mpr c8; clear c8
   by_cases c9 : t404 = 0
   ·rw [if_pos c9] at H
    have c9b0 : (t404 == 0) = true := beq_iff_eq.mpr c9; have c9b1 : (t404 != 0) = false := bne_eq_false_iff_eq.mpr c9; clear c9; replace H := Option.bind_eq_some_iff.mp H; obtain ⟨t406, A100, H⟩ := H; replace H : (some (decide (t406 ≤ 0))) = some r := H; have A10 := Aside0.mk A100; clear A100; obtain rfl := Option.some.inj H
    go_enter Tryd.func32, Tryd.ntmps32
    go_wp2_with (first | ((with_reducible refine gate_callee (f := 49) rfl ?_); refine goesLA_ (some 13) rfl rfl Tryd.func49 rfl #[.int .u64 a0] rfl ?_; (with_reducible refine (sawtoothref03_Cube.calls a0 t388 t389 t390 t391 _ A3.out).mono ?_); rintro e w11 ⟨rfl, hb⟩; refine ⟨_, rfl, ?_⟩; replace HB := stA hb; clear hb) | ((with_reducible refine gate_dst (N := 5) rfl ?_); refine box_event ?hg (N := 5) ?hd (cs := #[.bool false, .int .u64 0, .int .u64 0]) (t := 35) ?hr ?_; (case hd => rfl); (case hg => rfl); (case hr => first | (go_simp; done) | (go_simp; rfl)); intro gb392 hg w12 hbox hb; have BK392 := Aside0.mk (hbox); obtain ⟨GW392, nHB⟩ := geA hg hb; have GE392 := GW392; replace HB := nHB; clear nHB; clear hb hbox hg; have hcz13_0 := czZ BK392 0 (.bool false); have hcz13_1 := czZ BK392 1 (.int .u64 0); have hcz13_2 := czZ BK392 2 (.int .u64 0); have hfz13_0 := blk_frozen BK392.out 0; have hfz13_1 := blk_frozen BK392.out 1; have hfz13_2 := blk_frozen BK392.out 2) | ((with_reducible refine gate_callee (f := 50) rfl ?_); refine goesLA_ (some 20) rfl rfl Tryd.func50 rfl #[.agg #[.bool t388, .int .u64 t389, .int .u64 t390], .int .u64 262144] rfl ?_; (with_reducible refine (sawtoothref02_Scale.calls t388 t389 t390 262144 t393 t394 t395 t396 _ A5.out).mono ?_); rintro e w14 ⟨rfl, hb⟩; refine ⟨_, rfl, ?_⟩; replace BK392 := Aside0.mk (blk_below (g := gb392) (o := .cells #[.bool t388, .int .u64 t389, .int .u64 t390] 35 (0, 0)) (by (with_reducible repeat first | apply blk_drewN | apply blk_drew | apply blk_alloc); refine blk_put (cs := #[.bool t388, .int .u64 t389, .int .u64 0]) ?_ 2 _ rfl; (with_reducible repeat first | apply blk_drewN | apply blk_drew | apply blk_alloc); refine blk_put (cs := #[.bool t388, .int .u64 0, .int .u64 0]) ?_ 1 _ rfl; (with_reducible repeat first | apply blk_drewN | apply blk_drew | apply blk_alloc); refine blk_put (cs := #[.bool false, .int .u64 0, .int .u64 0]) ?_ 0 _ rfl; (with_reducible repeat first | apply blk_drewN | apply blk_drew | apply blk_alloc); exact BK392.out) hb); replace HB := stA hb; clear hb) | ((with_reducible refine gate_dst (N := 7) rfl ?_); refine box_event ?hg (N := 7) ?hd (cs := #[.bool false, .int .u64 0, .int .u64 0]) (t := 35) ?hr ?_; (case hd => rfl); (case hg => rfl); (case hr => first | (go_simp; done) | (go_simp; rfl)); intro gb397 hg w15 hbox hb; have BK397 := Aside0.mk (hbox); obtain ⟨GW397, nHB⟩ := geA hg hb; have GE397 := GW397; obtain ⟨NB392_397, NB397_392, nBK⟩ := nbA BK392 hg hb; replace BK392 := nBK; clear nBK; replace HB := nHB; clear nHB; clear hb hbox hg; have hnb16 := NB397_392.out; have hnc16 := NB392_397.out; have hcz17_0 := czZ BK397 0 (.bool false); have hcz17_1 := czZ BK397 1 (.int .u64 0); have hcz17_2 := czZ BK397 2 (.int .u64 0); have hfz17_0 := blk_frozen BK397.out 0; have hfz17_1 := blk_frozen BK397.out 1; have hfz17_2 := blk_frozen BK397.out 2) | ((with_reducible refine gate_callee (f := 51) rfl ?_); refine goesLA_ (some 25) rfl rfl Tryd.func51 rfl #[.int .i64 a1] rfl ?_; (with_reducible refine (sawtoothref02_OfS.calls a1 t398 t399 t400 _ A6.out).mono ?_); rintro e w18 ⟨rfl, hb⟩; refine ⟨_, rfl, ?_⟩; replace BK392 := bfZ BK392 (fun h_ => by (with_reducible repeat first | apply blk_drewN | apply blk_drew | apply blk_alloc | refine farZ ?_ NB392_397 _); exact h_) hb; replace BK397 := Aside0.mk (blk_below (g := gb397) (o := .cells #[.bool t393, .int .u64 t394, .int .u64 t395] 35 (0, 0)) (by (with_reducible repeat first | apply blk_drewN | apply blk_drew | apply blk_alloc); refine blk_put (cs := #[.bool t393, .int .u64 t394, .int .u64 0]) ?_ 2 _ rfl; (with_reducible repeat first | apply blk_drewN | apply blk_drew | apply blk_alloc); refine blk_put (cs := #[.bool t393, .int .u64 0, .int .u64 0]) ?_ 1 _ rfl; (with_reducible repeat first | apply blk_drewN | apply blk_drew | apply blk_alloc); refine blk_put (cs := #[.bool false, .int .u64 0, .int .u64 0]) ?_ 0 _ rfl; (with_reducible repeat first | apply blk_drewN | apply blk_drew | apply blk_alloc); exact BK397.out) hb); replace HB := stA hb; clear hb) | ((with_reducible refine gate_callee (f := 50) rfl ?_); refine goesLA_ (some 26) rfl rfl Tryd.func50 rfl #[.agg #[.bool t398, .int .u64 t399, .int .u64 t400], .int .u64 10000000000000000000] rfl ?_; (with_reducible refine (sawtoothref02_Scale.calls t398 t399 t400 10000000000000000000 t401 t402 t403 t404 _ A7.out).mono ?_); rintro e w19 ⟨rfl, hb⟩; refine ⟨_, rfl, ?_⟩; replace BK392 := bdZ BK392 hb; replace BK397 := bdZ BK397 hb; replace HB := stA hb; clear hb) | ((with_reducible refine gate_dst (N := 9) rfl ?_); refine box_event ?hg (N := 9) ?hd (cs := #[.bool false, .int .u64 0, .int .u64 0]) (t := 35) ?hr ?_; (case hd => rfl); (case hg => rfl); (case hr => first | (go_simp; done) | (go_simp; rfl)); intro gb405 hg w20 hbox hb; have BK405 := Aside0.mk (hbox); obtain ⟨GW405, nHB⟩ := geA hg hb; have GE405 := GW405; obtain ⟨NB392_405, NB405_392, nBK⟩ := nbA BK392 hg hb; replace BK392 := nBK; clear nBK; obtain ⟨NB397_405, NB405_397, nBK⟩ := nbA BK397 hg hb; replace BK397 := nBK; clear nBK; replace HB := nHB; clear nHB; clear hb hbox hg; have hnb21 := NB405_392.out; have hnc21 := NB392_405.out; have hnb22 := NB405_397.out; have hnc22 := NB397_405.out; have hcz23_0 := czZ BK405 0 (.bool false); have hcz23_1 := czZ BK405 1 (.int .u64 0); have hcz23_2 := czZ BK405 2 (.int .u64 0); have hfz23_0 := blk_frozen BK405.out 0; have hfz23_1 := blk_frozen BK405.out 1; have hfz23_2 := blk_frozen BK405.out 2; have hcz24_0 := czZ BK397 0 (.bool t393); have hcz24_1 := czZ BK397 1 (.int .u64 t394); have hcz24_2 := czZ BK397 2 (.int .u64 t395); have hfz24_0 := blk_frozen BK397.out 0; have hfz24_1 := blk_frozen BK397.out 1; have hfz24_2 := blk_frozen BK397.out 2) | (go_at_call 52; (with_reducible refine (sawtoothref02_CmpS.calls t393 t394 t395 t401 t402 t403 t406 _ A10.out).mono ?_); rintro e w25 ⟨rfl, hb⟩; replace BK392 := bfZ BK392 (fun h_ => by (with_reducible repeat first | apply blk_drewN | apply blk_drew | apply blk_alloc | refine farZ ?_ NB392_405 _); exact h_) hb; replace BK397 := bfZ BK397 (fun h_ => by (with_reducible repeat first | apply blk_drewN | apply blk_drew | apply blk_alloc | refine farZ ?_ NB397_405 _); exact h_) hb; replace BK405 := Aside0.mk (blk_below (g := gb405) (o := .cells #[.bool t401, .int .u64 t402, .int .u64 t403] 35 (0, 0)) (by (with_reducible repeat first | apply blk_drewN | apply blk_drew | apply blk_alloc); refine blk_put (cs := #[.bool t401, .int .u64 t402, .int .u64 0]) ?_ 2 _ rfl; (with_reducible repeat first | apply blk_drewN | apply blk_drew | apply blk_alloc); refine blk_put (cs := #[.bool t401, .int .u64 0, .int .u64 0]) ?_ 1 _ rfl; (with_reducible repeat first | apply blk_drewN | apply blk_drew | apply blk_alloc); refine blk_put (cs := #[.bool false, .int .u64 0, .int .u64 0]) ?_ 0 _ rfl; (with_reducible repeat first | apply blk_drewN | apply blk_drew | apply blk_alloc); exact BK405.out) hb); replace HB := stA hb; clear hb))
    go_ret
    exact ⟨by first | rfl | (simp [errW_none, errW_some] <;> rfl) | (simp [*, errW_none, errW_some] <;> rfl), by repeat (first | (with_reducible first | exact HB.out | apply below_alloc | apply pw_below_drewN | apply below_drew1 | refine below_set ?_ (Aside0.out (by assumption))) | exact HB.out)⟩
   ·rw [if_neg c9] at H
    have c9b0 : (t404 == 0) = false := beq_eq_false_iff_ne.mpr c9; have c9b1 : (t404 != 0) = true := bne_iff_ne.mpr c9; obtain rfl := Option.some.inj H
    go_enter Tryd.func32, Tryd.ntmps32
    go_wp2_with (first | ((with_reducible refine gate_callee (f := 49) rfl ?_); refine goesLA_ (some 13) rfl rfl Tryd.func49 rfl #[.int .u64 a0] rfl ?_; (with_reducible refine (sawtoothref03_Cube.calls a0 t388 t389 t390 t391 _ A3.out).mono ?_); rintro e w26 ⟨rfl, hb⟩; refine ⟨_, rfl, ?_⟩; replace HB := stA hb; clear hb) | ((with_reducible refine gate_dst (N := 5) rfl ?_); refine box_event ?hg (N := 5) ?hd (cs := #[.bool false, .int .u64 0, .int .u64 0]) (t := 35) ?hr ?_; (case hd => rfl); (case hg => rfl); (case hr => first | (go_simp; done) | (go_simp; rfl)); intro gb392 hg w27 hbox hb; have BK392 := Aside0.mk (hbox); obtain ⟨GW392, nHB⟩ := geA hg hb; have GE392 := GW392; replace HB := nHB; clear nHB; clear hb hbox hg; have hcz28_0 := czZ BK392 0 (.bool false); have hcz28_1 := czZ BK392 1 (.int .u64 0); have hcz28_2 := czZ BK392 2 (.int .u64 0); have hfz28_0 := blk_frozen BK392.out 0; have hfz28_1 := blk_frozen BK392.out 1; have hfz28_2 := blk_frozen BK392.out 2) | ((with_reducible refine gate_callee (f := 50) rfl ?_); refine goesLA_ (some 20) rfl rfl Tryd.func50 rfl #[.agg #[.bool t388, .int .u64 t389, .int .u64 t390], .int .u64 262144] rfl ?_; (with_reducible refine (sawtoothref02_Scale.calls t388 t389 t390 262144 t393 t394 t395 t396 _ A5.out).mono ?_); rintro e w29 ⟨rfl, hb⟩; refine ⟨_, rfl, ?_⟩; replace BK392 := Aside0.mk (blk_below (g := gb392) (o := .cells #[.bool t388, .int .u64 t389, .int .u64 t390] 35 (0, 0)) (by (with_reducible repeat first | apply blk_drewN | apply blk_drew | apply blk_alloc); refine blk_put (cs := #[.bool t388, .int .u64 t389, .int .u64 0]) ?_ 2 _ rfl; (with_reducible repeat first | apply blk_drewN | apply blk_drew | apply blk_alloc); refine blk_put (cs := #[.bool t388, .int .u64 0, .int .u64 0]) ?_ 1 _ rfl; (with_reducible repeat first | apply blk_drewN | apply blk_drew | apply blk_alloc); refine blk_put (cs := #[.bool false, .int .u64 0, .int .u64 0]) ?_ 0 _ rfl; (with_reducible repeat first | apply blk_drewN | apply blk_drew | apply blk_alloc); exact BK392.out) hb); replace HB := stA hb; clear hb) | ((with_reducible refine gate_dst (N := 7) rfl ?_); refine box_event ?hg (N := 7) ?hd (cs := #[.bool false, .int .u64 0, .int .u64 0]) (t := 35) ?hr ?_; (case hd => rfl); (case hg => rfl); (case hr => first | (go_simp; done) | (go_simp; rfl)); intro gb397 hg w30 hbox hb; have BK397 := Aside0.mk (hbox); obtain ⟨GW397, nHB⟩ := geA hg hb; have GE397 := GW397; obtain ⟨NB392_397, NB397_392, nBK⟩ := nbA BK392 hg hb; replace BK392 := nBK; clear nBK; replace HB := nHB; clear nHB; clear hb hbox hg; have hnb31 := NB397_392.out; have hnc31 := NB392_397.out; have hcz32_0 := czZ BK397 0 (.bool false); have hcz32_1 := czZ BK397 1 (.int .u64 0); have hcz32_2 := czZ BK397 2 (.int .u64 0); have hfz32_0 := blk_frozen BK397.out 0; have hfz32_1 := blk_frozen BK397.out 1; have hfz32_2 := blk_frozen BK397.out 2) | ((with_reducible refine gate_callee (f := 51) rfl ?_); refine goesLA_ (some 25) rfl rfl Tryd.func51 rfl #[.int .i64 a1] rfl ?_; (with_reducible refine (sawtoothref02_OfS.calls a1 t398 t399 t400 _ A6.out).mono ?_); rintro e w33 ⟨rfl, hb⟩; refine ⟨_, rfl, ?_⟩; replace BK392 := bfZ BK392 (fun h_ => by (with_reducible repeat first | apply blk_drewN | apply blk_drew | apply blk_alloc | refine farZ ?_ NB392_397 _); exact h_) hb; replace BK397 := Aside0.mk (blk_below (g := gb397) (o := .cells #[.bool t393, .int .u64 t394, .int .u64 t395] 35 (0, 0)) (by (with_reducible repeat first | apply blk_drewN | apply blk_drew | apply blk_alloc); refine blk_put (cs := #[.bool t393, .int .u64 t394, .int .u64 0]) ?_ 2 _ rfl; (with_reducible repeat first | apply blk_drewN | apply blk_drew | apply blk_alloc); refine blk_put (cs := #[.bool t393, .int .u64 0, .int .u64 0]) ?_ 1 _ rfl; (with_reducible repeat first | apply blk_drewN | apply blk_drew | apply blk_alloc); refine blk_put (cs := #[.bool false, .int .u64 0, .int .u64 0]) ?_ 0 _ rfl; (with_reducible repeat first | apply blk_drewN | apply blk_drew | apply blk_alloc); exact BK397.out) hb); replace HB := stA hb; clear hb) | ((with_reducible refine gate_callee (f := 50) rfl ?_); refine goesLA_ (some 26) rfl rfl Tryd.func50 rfl #[.agg #[.bool t398, .int .u64 t399, .int .u64 t400], .int .u64 10000000000000000000] rfl ?_; (with_reducible refine (sawtoothref02_Scale.calls t398 t399 t400 10000000000000000000 t401 t402 t403 t404 _ A7.out).mono ?_); rintro e w34 ⟨rfl, hb⟩; refine ⟨_, rfl, ?_⟩; replace BK392 := bdZ BK392 hb; replace BK397 := bdZ BK397 hb; replace HB := stA hb; clear hb) | ((with_reducible refine gate_dst (N := 9) rfl ?_); refine box_event ?hg (N := 9) ?hd (cs := #[.bool false, .int .u64 0, .int .u64 0]) (t := 35) ?hr ?_; (case hd => rfl); (case hg => rfl); (case hr => first | (go_simp; done) | (go_simp; rfl)); intro gb405 hg w35 hbox hb; have BK405 := Aside0.mk (hbox); obtain ⟨GW405, nHB⟩ := geA hg hb; have GE405 := GW405; obtain ⟨NB392_405, NB405_392, nBK⟩ := nbA BK392 hg hb; replace BK392 := nBK; clear nBK; obtain ⟨NB397_405, NB405_397, nBK⟩ := nbA BK397 hg hb; replace BK397 := nBK; clear nBK; replace HB := nHB; clear nHB; clear hb hbox hg; have hnb36 := NB405_392.out; have hnc36 := NB392_405.out; have hnb37 := NB405_397.out; have hnc37 := NB397_405.out; have hcz38_0 := czZ BK405 0 (.bool false); have hcz38_1 := czZ BK405 1 (.int .u64 0); have hcz38_2 := czZ BK405 2 (.int .u64 0); have hfz38_0 := blk_frozen BK405.out 0; have hfz38_1 := blk_frozen BK405.out 1; have hfz38_2 := blk_frozen BK405.out 2))
    go_ret
    exact ⟨by first | rfl | (simp [errW_none, errW_some] <;> rfl) | (simp [*, errW_none, errW_some] <;> rfl), by repeat (first | (with_reducible first | exact HB.out | apply below_alloc | apply pw_below_drewN | apply below_drew1 | refine below_set ?_ (Aside0.out (by assumption))) | exact HB.out)⟩
  ·rw [if_neg c8] at H
   have c8b0 : (t396 == 0) = false := beq_eq_false_iff_ne.mpr c8; have c8b1 : (t396 != 0) = true := bne_iff_ne.mpr c8; obtain rfl := Option.some.inj H
   go_enter Tryd.func32, Tryd.ntmps32
   go_wp2_with (first | ((with_reducible refine gate_callee (f := 49) rfl ?_); refine goesLA_ (some 13) rfl rfl Tryd.func49 rfl #[.int .u64 a0] rfl ?_; (with_reducible refine (sawtoothref03_Cube.calls a0 t388 t389 t390 t391 _ A3.out).mono ?_); rintro e w39 ⟨rfl, hb⟩; refine ⟨_, rfl, ?_⟩; replace HB := stA hb; clear hb) | ((with_reducible refine gate_dst (N := 5) rfl ?_); refine box_event ?hg (N := 5) ?hd (cs := #[.bool false, .int .u64 0, .int .u64 0]) (t := 35) ?hr ?_; (case hd => rfl); (case hg => rfl); (case hr => first | (go_simp; done) | (go_simp; rfl)); intro gb392 hg w40 hbox hb; have BK392 := Aside0.mk (hbox); obtain ⟨GW392, nHB⟩ := geA hg hb; have GE392 := GW392; replace HB := nHB; clear nHB; clear hb hbox hg; have hcz41_0 := czZ BK392 0 (.bool false); have hcz41_1 := czZ BK392 1 (.int .u64 0); have hcz41_2 := czZ BK392 2 (.int .u64 0); have hfz41_0 := blk_frozen BK392.out 0; have hfz41_1 := blk_frozen BK392.out 1; have hfz41_2 := blk_frozen BK392.out 2) | ((with_reducible refine gate_callee (f := 50) rfl ?_); refine goesLA_ (some 20) rfl rfl Tryd.func50 rfl #[.agg #[.bool t388, .int .u64 t389, .int .u64 t390], .int .u64 262144] rfl ?_; (with_reducible refine (sawtoothref02_Scale.calls t388 t389 t390 262144 t393 t394 t395 t396 _ A5.out).mono ?_); rintro e w42 ⟨rfl, hb⟩; refine ⟨_, rfl, ?_⟩; replace BK392 := Aside0.mk (blk_below (g := gb392) (o := .cells #[.bool t388, .int .u64 t389, .int .u64 t390] 35 (0, 0)) (by (with_reducible repeat first | apply blk_drewN | apply blk_drew | apply blk_alloc); refine blk_put (cs := #[.bool t388, .int .u64 t389, .int .u64 0]) ?_ 2 _ rfl; (with_reducible repeat first | apply blk_drewN | apply blk_drew | apply blk_alloc); refine blk_put (cs := #[.bool t388, .int .u64 0, .int .u64 0]) ?_ 1 _ rfl; (with_reducible repeat first | apply blk_drewN | apply blk_drew | apply blk_alloc); refine blk_put (cs := #[.bool false, .int .u64 0, .int .u64 0]) ?_ 0 _ rfl; (with_reducible repeat first | apply blk_drewN | apply blk_drew | apply blk_alloc); exact BK392.out) hb); replace HB := stA hb; clear hb) | ((with_reducible refine gate_dst (N := 7) rfl ?_); refine box_event ?hg (N := 7) ?hd (cs := #[.bool false, .int .u64 0, .int .u64 0]) (t := 35) ?hr ?_; (case hd => rfl); (case hg => rfl); (case hr => first | (go_simp; done) | (go_simp; rfl)); intro gb397 hg w43 hbox hb; have BK397 := Aside0.mk (hbox); obtain ⟨GW397, nHB⟩ := geA hg hb; have GE397 := GW397; obtain ⟨NB392_397, NB397_392, nBK⟩ := nbA BK392 hg hb; replace BK392 := nBK; clear nBK; replace HB := nHB; clear nHB; clear hb hbox hg; have hnb44 := NB397_392.out; have hnc44 := NB392_397.out; have hcz45_0 := czZ BK397 0 (.bool false); have hcz45_1 := czZ BK397 1 (.int .u64 0); have hcz45_2 := czZ BK397 2 (.int .u64 0); have hfz45_0 := blk_frozen BK397.out 0; have hfz45_1 := blk_frozen BK397.out 1; have hfz45_2 := blk_frozen BK397.out 2) | ((with_reducible refine gate_callee (f := 51) rfl ?_); refine goesLA_ (some 25) rfl rfl Tryd.func51 rfl #[.int .i64 a1] rfl ?_; (with_reducible refine (sawtoothref02_OfS.calls a1 t398 t399 t400 _ A6.out).mono ?_); rintro e w46 ⟨rfl, hb⟩; refine ⟨_, rfl, ?_⟩; replace BK392 := bfZ BK392 (fun h_ => by (with_reducible repeat first | apply blk_drewN | apply blk_drew | apply blk_alloc | refine farZ ?_ NB392_397 _); exact h_) hb; replace BK397 := Aside0.mk (blk_below (g := gb397) (o := .cells #[.bool t393, .int .u64 t394, .int .u64 t395] 35 (0, 0)) (by (with_reducible repeat first | apply blk_drewN | apply blk_drew | apply blk_alloc); refine blk_put (cs := #[.bool t393, .int .u64 t394, .int .u64 0]) ?_ 2 _ rfl; (with_reducible repeat first | apply blk_drewN | apply blk_drew | apply blk_alloc); refine blk_put (cs := #[.bool t393, .int .u64 0, .int .u64 0]) ?_ 1 _ rfl; (with_reducible repeat first | apply blk_drewN | apply blk_drew | apply blk_alloc); refine blk_put (cs := #[.bool false, .int .u64 0, .int .u64 0]) ?_ 0 _ rfl; (with_reducible repeat first | apply blk_drewN | apply blk_drew | apply blk_alloc); exact BK397.out) hb); replace HB := stA hb; clear hb) | ((with_reducible refine gate_callee (f := 50) rfl ?_); refine goesLA_ (some 26) rfl rfl Tryd.func50 rfl #[.agg #[.bool t398, .int .u64 t399, .int .u64 t400], .int .u64 10000000000000000000] rfl ?_; (with_reducible refine (sawtoothref02_Scale.calls t398 t399 t400 10000000000000000000 t401 t402 t403 t404 _ A7.out).mono ?_); rintro e w47 ⟨rfl, hb⟩; refine ⟨_, rfl, ?_⟩; replace BK392 := bdZ BK392 hb; replace BK397 := bdZ BK397 hb; replace HB := stA hb; clear hb) | ((with_reducible refine gate_dst (N := 9) rfl ?_); refine box_event ?hg (N := 9) ?hd (cs := #[.bool false, .int .u64 0, .int .u64 0]) (t := 35) ?hr ?_; (case hd => rfl); (case hg => rfl); (case hr => first | (go_simp; done) | (go_simp; rfl)); intro gb405 hg w48 hbox hb; have BK405 := Aside0.mk (hbox); obtain ⟨GW405, nHB⟩ := geA hg hb; have GE405 := GW405; obtain ⟨NB392_405, NB405_392, nBK⟩ := nbA BK392 hg hb; replace BK392 := nBK; clear nBK; obtain ⟨NB397_405, NB405_397, nBK⟩ := nbA BK397 hg hb; replace BK397 := nBK; clear nBK; replace HB := nHB; clear nHB; clear hb hbox hg; have hnb49 := NB405_392.out; have hnc49 := NB392_405.out; have hnb50 := NB405_397.out; have hnc50 := NB397_405.out; have hcz51_0 := czZ BK405 0 (.bool false); have hcz51_1 := czZ BK405 1 (.int .u64 0); have hcz51_2 := czZ BK405 2 (.int .u64 0); have hfz51_0 := blk_frozen BK405.out 0; have hfz51_1 := blk_frozen BK405.out 1; have hfz51_2 := blk_frozen BK405.out 2))
   go_ret
   exact ⟨by first | rfl | (simp [errW_none, errW_some] <;> rfl) | (simp [*, errW_none, errW_some] <;> rfl), by repeat (first | (with_reducible first | exact HB.out | apply below_alloc | apply pw_below_drewN | apply below_drew1 | refine below_set ?_ (Aside0.out (by assumption))) | exact HB.out)⟩
 ·rw [if_neg c4] at H
  have c4b0 : (t391 == 0) = false := beq_eq_false_iff_ne.mpr c4; have c4b1 : (t391 != 0) = true := bne_iff_ne.mpr c4; obtain rfl := Option.some.inj H
  go_enter Tryd.func32, Tryd.ntmps32
  go_wp2_with (first | ((with_reducible refine gate_callee (f := 49) rfl ?_); refine goesLA_ (some 13) rfl rfl Tryd.func49 rfl #[.int .u64 a0] rfl ?_; (with_reducible refine (sawtoothref03_Cube.calls a0 t388 t389 t390 t391 _ A3.out).mono ?_); rintro e w52 ⟨rfl, hb⟩; refine ⟨_, rfl, ?_⟩; replace HB := stA hb; clear hb) | ((with_reducible refine gate_dst (N := 5) rfl ?_); refine box_event ?hg (N := 5) ?hd (cs := #[.bool false, .int .u64 0, .int .u64 0]) (t := 35) ?hr ?_; (case hd => rfl); (case hg => rfl); (case hr => first | (go_simp; done) | (go_simp; rfl)); intro gb392 hg w53 hbox hb; have BK392 := Aside0.mk (hbox); obtain ⟨GW392, nHB⟩ := geA hg hb; have GE392 := GW392; replace HB := nHB; clear nHB; clear hb hbox hg; have hcz54_0 := czZ BK392 0 (.bool false); have hcz54_1 := czZ BK392 1 (.int .u64 0); have hcz54_2 := czZ BK392 2 (.int .u64 0); have hfz54_0 := blk_frozen BK392.out 0; have hfz54_1 := blk_frozen BK392.out 1; have hfz54_2 := blk_frozen BK392.out 2))
  go_ret
  exact ⟨by first | rfl | (simp [errW_none, errW_some] <;> rfl) | (simp [*, errW_none, errW_some] <;> rfl), by repeat (first | (with_reducible first | exact HB.out | apply below_alloc | apply pw_below_drewN | apply below_drew1 | refine below_set ?_ GE392.out) | exact HB.out)⟩

/-! ### sawtoothref11_LittleS: pure, behind function 32 -/
section
open Go.Proofs.YtceiakiihkaamaaDoor.Sp
noncomputable def sawtoothref11_LittleS.f (n : Int) (g : Int) : Option (Bool) := need ((0 ≤ n ∧ n ≤ 4294967296) ∧ (0 ≤ g ∧ g ≤ 68719476736)) (some (decide (n * n * n * 262144 ≤ g * 10000000000000000000)))
theorem sawtoothref11_LittleS.eq {n : Int} {g : Int} (h1 : 0 ≤ n ∧ n ≤ 4294967296) (h2 : 0 ≤ g ∧ g ≤ 68719476736) : sawtoothref11_LittleS.f n g = some (decide (n * n * n * 262144 ≤ g * 10000000000000000000)) := need_pos ⟨h1, h2⟩
theorem sawtoothref11_Little.main {n : Int} {g : Int} (h1 : 0 ≤ n ∧ n ≤ 4294967296) (h2 : 0 ≤ g ∧ g ≤ 68719476736) : sawtoothref11_Little.f n g = some (decide (n * n * n * 262144 ≤ g * 10000000000000000000)) := by
 unfold sawtoothref11_Little.f sawtoothref03_Cube.f sawtoothref03_Square.f sawtoothref02_Scale.f sawtoothref02_OfS.f sawtoothref02_CmpS.f
 have p1 := mul_le (A := 4294967296) (C := 4294967296) h1.1 h1.2 h1.1 h1.2; have p2 := mul_le (A := 18446744073709551616) (C := 4294967296) p1.1 p1.2 h1.1 h1.2
 rw [scaleF_eq (by omega) (by omega) (by omega), val_f]
 have e : (0 * 18446744073709551616 + n) * n = n * n := by rw [Int.zero_mul, Int.zero_add]
 rw [e, held_in (by omega)]
 simp only [Option.bind_some]
 rw [scaleF_enc (by omega) (by omega), held_in (by omega)]
 simp only [Option.bind_some, if_true]
 rw [scaleF_enc (by omega) (by omega), held_in (by omega), ofF_eq (by omega)]
 simp only [Option.bind_some]
 rw [scaleF_enc (by omega) (by omega), held_in (by omega)]
 simp only [Option.bind_some, if_true]
 rw [cmpF_enc (by omega) (by omega)]
 simp only [Option.bind_some]
 congr 1
 rw [decide_eq_decide]
 unfold cmpI
 split
 ·omega
 ·split <;> omega
end
theorem sawtoothref11_LittleS.calls (a0 : Int) (a1 : Int) (r : Bool) (w : World) (h : sawtoothref11_LittleS.f a0 a1 = some r) :
  Calls Tryd.prog 32 #[.int .u64 a0, .int .i64 a1] w fun e w' => e = .returned (.bool r) ∧ Below w.heap.size w w' := by
 obtain ⟨hc, h⟩ := Sp.need_some h; obtain ⟨h1, h2⟩ := hc; exact sawtoothref11_Little.calls a0 a1 r w (by rw [sawtoothref11_Little.main h1 h2]; exact h)

/-! ### sawtoothref11_K: function 14 -/
noncomputable def sawtoothref11_K.l0 : Nat → Int → Int → Int → Option (Int)
 | 0, _, _, _ => none
 | k + 1, x3, x4, x5 => if x5 > 0 then ((sawtoothref11_LittleS.f (IntKind.u64.wrap (x4 + x5)) x3).bind fun t408 => (if t408 = true then (sawtoothref11_K.l0 k x3 (IntKind.u64.wrap (x4 + x5)) (IntKind.u64.wrap (Int.tdiv x5 2))) else (sawtoothref11_K.l0 k x3 x4 (IntKind.u64.wrap (Int.tdiv x5 2))))) else (some (wrap64 (x4)))
noncomputable def sawtoothref11_K.f (k : Nat) (a0 : Int) : Option (Int) := (sawtoothref01_ClampS.f a0 0 68719476736).bind fun t407 => (sawtoothref11_K.l0 k t407 0 1073741824)
theorem sawtoothref11_K.mono_l : ∀ k, (∀ y0 y1 y2, LeO (sawtoothref11_K.l0 k y0 y1 y2) (sawtoothref11_K.l0 (k + 1) y0 y1 y2))
 | 0 => fun _ _ _ r h => by simp [sawtoothref11_K.l0] at h
 | k + 1 => by
  have ih0 := sawtoothref11_K.mono_l k
  ·intro y0 y1 y2
   unfold sawtoothref11_K.l0
   repeat' first
   | (with_reducible exact ih0 _ _ _)
   | (with_reducible exact LeO.refl _)
   | (with_reducible exact LeO.none _)
   | (with_reducible refine LeO.ite ?_ ?_)
   | (with_reducible refine LeO.bind ?_ (fun _ => ?_))
   | exact ih0 _ _ _
   | exact LeO.none _
   | refine LeO.ite ?_ ?_
   | refine LeO.bind ?_ (fun _ => ?_)
theorem sawtoothref11_K.mono : ∀ a0 k, LeO (sawtoothref11_K.f k a0) (sawtoothref11_K.f (k + 1) a0) := by
 intro a0 k; have ih0 := sawtoothref11_K.mono_l k
 unfold sawtoothref11_K.f
 repeat' first
   | (with_reducible exact ih0 _ _ _)
   | (with_reducible exact LeO.refl _)
   | (with_reducible exact LeO.none _)
   | (with_reducible refine LeO.ite ?_ ?_)
   | (with_reducible refine LeO.bind ?_ (fun _ => ?_))
   | exact ih0 _ _ _
   | exact LeO.none _
   | refine LeO.ite ?_ ?_
   | refine LeO.bind ?_ (fun _ => ?_)
set_option maxHeartbeats 8000000 in
set_option maxRecDepth 100000 in
theorem sawtoothref11_K.calls (k : Nat) (a0 : Int) (r : Int) (w : World) (h : sawtoothref11_K.f k a0 = some r) :
  Calls Tryd.prog 14 #[.int .i64 a0] w fun e w' => e = .returned (.int .i64 r) ∧ Below w.heap.size w w' := by
 have HB := Aside0.mk (Below.refl w.heap.size w); have H : ((sawtoothref01_ClampS.f a0 0 68719476736).bind fun t407 => (sawtoothref11_K.l0 k t407 0 1073741824)) = some r := h; clear h; replace H := Option.bind_eq_some_iff.mp H; obtain ⟨t407, A20, H⟩ := H; replace H : (sawtoothref11_K.l0 k t407 0 1073741824) = some r := H; have A2 := Aside0.mk A20; clear A20; have H' := Aside0.mk H; clear H
 go_enter Tryd.func14, Tryd.ntmps14
 go_wp2_with (first | ((with_reducible refine gate_callee (f := 31) rfl ?_); refine goesLA_ (some 8) rfl rfl Tryd.func31 rfl #[.int .i64 a0, .int .i64 0, .int .i64 68719476736] rfl ?_; (with_reducible refine (sawtoothref01_ClampS.calls a0 0 68719476736 t407 _ A2.out).mono ?_); rintro e w3 ⟨rfl, hb⟩; refine ⟨_, rfl, ?_⟩; replace HB := stA hb; clear hb))
 go_loopg [4, 5] k (fun kq v4 v5 w' => ∃ (x4_1 : Int) (x5_1 : Int), v4 = .int .u64 x4_1 ∧ v5 = .int .u64 x5_1 ∧ Aside0 (sawtoothref11_K.l0 kq t407 x4_1 x5_1 = some r) ∧ Aside0 (kq ≤ k) ∧ Aside0 (Below w.heap.size w w'))
 case atStart => exact ⟨(0), (1073741824), (by first | rfl | (simp; done) | (simp [*]; done)), (by first | rfl | (simp; done) | (simp [*]; done)), H', ⟨Nat.le_refl _⟩, ⟨by repeat (first | (with_reducible first | exact HB.out | apply below_alloc | apply pw_below_drewN | apply below_drew1) | exact HB.out)⟩⟩
 case round =>
  clear H'
  try clear c1
  try clear p2
  try clear c3
  obtain ⟨x4_1, x5_1, rfl, rfl, HA, HK1, HB⟩ := hrel
  cases gk with
  | zero => exact absurd HA.out (by simp [sawtoothref11_K.l0])
  | succ k1 =>
   have H := HA.out; clear HA; simp only [sawtoothref11_K.l0] at H
   by_cases c4 : x5_1 > 0
   ·rw [if_pos c4] at H
    have c4b0 : decide (0 < x5_1) = true := decide_eq_true c4; clear c4; replace H := Option.bind_eq_some_iff.mp H; obtain ⟨t408, A50, H⟩ := H; (try dsimp only at H); have A5 := Aside0.mk A50; clear A50
    by_cases c6 : t408 = true
    ·subst c6
     have H1 : (sawtoothref11_K.l0 k1 t407 (IntKind.u64.wrap (x4_1 + x5_1)) (IntKind.u64.wrap (Int.tdiv x5_1 2))) = some r := by rw [if_pos rfl] at H; exact H
     clear H; have H := H1; clear H1; have H' := Aside0.mk H; clear H
     go_wp2_with (first | ((with_reducible refine gate_callee (f := 32) rfl ?_); refine goesLA_ (some 15) rfl rfl Tryd.func32 rfl #[.int .u64 (IntKind.u64.wrap (x4_1 + x5_1)), .int .i64 t407] rfl ?_; (with_reducible refine (sawtoothref11_LittleS.calls (IntKind.u64.wrap (x4_1 + x5_1)) t407 true _ A5.out).mono ?_); rintro e w7 ⟨rfl, hb⟩; refine ⟨_, rfl, ?_⟩; replace HB := stA hb; clear hb))
     go_roundg k1
     case measure => have := HK1.out; omega
     case rel => exact ⟨(IntKind.u64.wrap (x4_1 + x5_1)), (IntKind.u64.wrap (Int.tdiv x5_1 2)), (by first | rfl | (simp; done) | (simp [*]; done)), (by first | rfl | (simp; done) | (simp [*]; done)), H', ⟨by have := HK1.out; omega⟩, ⟨by repeat (first | (with_reducible first | exact HB.out | apply below_alloc | apply pw_below_drewN | apply below_drew1) | exact HB.out)⟩⟩
    ·replace c6 := Bool.eq_false_iff.mpr c6
     subst c6
     have H1 : (sawtoothref11_K.l0 k1 t407 x4_1 (IntKind.u64.wrap (Int.tdiv x5_1 2))) = some r := by rw [if_neg (show ¬ (false = true) by decide)] at H; exact H
     clear H; have H := H1; clear H1; have H' := Aside0.mk H; clear H
     go_wp2_with (first | ((with_reducible refine gate_callee (f := 32) rfl ?_); refine goesLA_ (some 15) rfl rfl Tryd.func32 rfl #[.int .u64 (IntKind.u64.wrap (x4_1 + x5_1)), .int .i64 t407] rfl ?_; (with_reducible refine (sawtoothref11_LittleS.calls (IntKind.u64.wrap (x4_1 + x5_1)) t407 false _ A5.out).mono ?_); rintro e w8 ⟨rfl, hb⟩; refine ⟨_, rfl, ?_⟩; replace HB := stA hb; clear hb))
     go_roundg k1
     case measure => have := HK1.out; omega
     case rel => exact ⟨(x4_1), (IntKind.u64.wrap (Int.tdiv x5_1 2)), (by first | rfl | (simp; done) | (simp [*]; done)), (by first | rfl | (simp; done) | (simp [*]; done)), H', ⟨by have := HK1.out; omega⟩, ⟨by repeat (first | (with_reducible first | exact HB.out | apply below_alloc | apply pw_below_drewN | apply below_drew1) | exact HB.out)⟩⟩
   ·rw [if_neg c4] at H
    have c4b0 : decide (0 < x5_1) = false := decide_eq_false c4; clear c4; obtain rfl := Option.some.inj H
    go_wp2
    go_ret
    exact ⟨by first | rfl | (simp [errW_none, errW_some] <;> rfl) | (simp [*, errW_none, errW_some] <;> rfl), by repeat (first | (with_reducible first | exact HB.out | apply below_alloc | apply pw_below_drewN | apply below_drew1) | exact HB.out)⟩

/-! ### sawtoothref11_KS: pure, behind function 14 -/
section
open Go.Proofs.YtceiakiihkaamaaDoor.Sp
noncomputable def sawtoothref11_KS.f (a : Int) : Option (Int) := need ((I a)) (some (kQ a))
theorem sawtoothref11_KS.eq {a : Int} (h1 : I a) : sawtoothref11_KS.f a = some (kQ a) := need_pos h1
theorem sawtoothref11_K.main {a : Int} (h1 : I a) : sawtoothref11_K.f 32 a = some (kQ a) := by
 unfold sawtoothref11_K.f
 rw [sawtoothref01_ClampS.eq]
 simp only [Option.bind_some]; have c := clamp_bd (a := a) (low := 0) (high := 68719476736) (by omega); have b := kQ_bd a
 have e : kQ a = kQ (clamp a 0 68719476736) := by
  unfold kQ; rw [clamp_in (a := clamp a 0 68719476736) c.1 c.2]
 rw [e] at b ⊢
 generalize clamp a 0 68719476736 = g at *
 have loop : ∀ (n : Nat) (out : Int), n ≤ 31 → 0 ≤ out → out ≤ kQ g → kQ g < out + 2 ^ n → out + 2 ^ n ≤ 2147483648 → sawtoothref11_K.l0 (n + 1) g out (if n = 0 then 0 else 2 ^ (n - 1)) = some (kQ g) := by
  intro n
  induction n with
  | zero =>
   intro out _ o0 o1 o2 o3; simp only [sawtoothref11_K.l0, if_true]
   simp at o2
   rw [if_neg (by omega), w64 (by omega)]
   congr 1; omega
  | succ n ih =>
   intro out hn o0 o1 o2 o3
   rw [if_neg (by omega), show n + 1 - 1 = n by omega]
   rw [Int.pow_succ] at o2 o3
   have p0 : (0 : Int) < 2 ^ n := Int.pow_pos (by omega)
   have nx : IntKind.u64.wrap (Int.tdiv (2 ^ n) 2) = if n = 0 then 0 else 2 ^ (n - 1) := by
    rw [Int.tdiv_eq_ediv_of_nonneg (by omega)]
    cases n with
    | zero => rfl
    | succ m =>
     rw [if_neg (by omega), show m + 1 - 1 = m by omega]
     rw [Int.pow_succ] at *
     have q0 : (0 : Int) < 2 ^ m := Int.pow_pos (by omega)
     generalize (2 : Int) ^ m = q at *
     rw [u64w_in (by omega)]; omega
   have ih' := fun o => ih o (by omega)
   rw [sawtoothref11_K.l0, if_pos (by omega), nx]
   generalize hq : (2 : Int) ^ n = q at *
   rw [u64w_in (x := out + q) (by omega), sawtoothref11_LittleS.eq (by omega) (by omega)]
   simp only [Option.bind_some]; have k := kQ_le (g := g) (n := out + q) (by omega) (by omega) (by omega)
   by_cases l : out + q ≤ kQ g
   ·rw [if_pos (decide_eq_true (k.2 l))]
    exact ih' (out + q) (by omega) l (by omega) (by omega)
   ·rw [if_neg (show ¬ decide ((out + q) * (out + q) * (out + q) * 262144 ≤ g * 10000000000000000000) = true by rw [decide_eq_true_iff, k]; exact l)]
    exact ih' out o0 o1 (by omega) (by omega)
 have p31 : (2 : Int) ^ 31 = 2147483648 := by decide
 exact loop 31 0 (by omega) (by omega) b.1 (by omega) (by omega)
end
theorem sawtoothref11_KS.calls (a0 : Int) (r : Int) (w : World) (h : sawtoothref11_KS.f a0 = some r) :
  Calls Tryd.prog 14 #[.int .i64 a0] w fun e w' => e = .returned (.int .i64 r) ∧ Below w.heap.size w w' := by
 obtain ⟨hc, h⟩ := Sp.need_some h; have h1 := hc; exact sawtoothref11_K.calls 32 a0 r w (by rw [sawtoothref11_K.main h1]; exact h)

/-! ### sawtoothref11_window: function 27 -/
noncomputable def sawtoothref11_window.f (a0 : Int) : Option (Bool) := if a0 ≥ 0 then (some (decide (a0 ≤ 68719476736))) else (some false)
set_option maxHeartbeats 8000000 in
set_option maxRecDepth 100000 in
theorem sawtoothref11_window.calls (a0 : Int) (r : Bool) (w : World) (h : sawtoothref11_window.f a0 = some r) :
  Calls Tryd.prog 27 #[.int .i64 a0] w fun e w' => e = .returned (.bool r) ∧ Drawn0 w w' := by
 have H : (if a0 ≥ 0 then (some (decide (a0 ≤ 68719476736))) else (some false)) = some r := h; clear h
 by_cases c2 : a0 ≥ 0
 ·rw [if_pos c2] at H
  have c2b0 : decide (0 ≤ a0) = true := decide_eq_true c2; clear c2; obtain rfl := Option.some.inj H
  go_enter Tryd.func27, Tryd.ntmps27
  go_wp2
  go_ret
  exact ⟨by first | rfl | (simp; done) | (simp [*]; done), by repeat (first | exact Drawn0.refl _ | apply Drawn0.step)⟩
 ·rw [if_neg c2] at H
  have c2b0 : decide (0 ≤ a0) = false := decide_eq_false c2; clear c2; obtain rfl := Option.some.inj H
  go_enter Tryd.func27, Tryd.ntmps27
  go_wp2
  go_ret
  exact ⟨by first | rfl | (simp; done) | (simp [*]; done), by repeat (first | exact Drawn0.refl _ | apply Drawn0.step)⟩

/-! ### sawtoothref11_Begin: function 12 -/
noncomputable def sawtoothref11_Begin.j0 : Nat → Int → Int → Int → Bool → Option (Bool × Int × Int × Int × Int × Int × Int)
 | 0, _, _, _, _ => none
 | k + 1, x0, x1, x2, x24 => if x24 = true then (some (false, 0, 0, 0, 0, 0, 201)) else (if x1 > x2 then ((sawtoothref11_KS.f (wrap64 (x1 - x1))).bind fun t412 => (some (true, x0, x1, x1, t412, x1, 0))) else ((sawtoothref11_KS.f (wrap64 (x2 - x1))).bind fun t413 => (some (true, x0, x1, x2, t413, x1, 0))))
noncomputable def sawtoothref11_Begin.f (k : Nat) (a0 : Int) (a1 : Int) (a2 : Int) : Option (Bool × Int × Int × Int × Int × Int × Int) := if a0 < 0 then (sawtoothref11_Begin.j0 k a0 a1 a2 true) else (if a0 > 1099511627776 then (sawtoothref11_Begin.j0 k a0 a1 a2 true) else ((sawtoothref11_window.f a1).bind fun t410 => (if t410 = true then ((sawtoothref11_window.f a2).bind fun t411 => (sawtoothref11_Begin.j0 k a0 a1 a2 (!t411))) else (sawtoothref11_Begin.j0 k a0 a1 a2 true))))
theorem sawtoothref11_Begin.mono_l : ∀ k, (∀ y0 y1 y2 y3, LeO (sawtoothref11_Begin.j0 k y0 y1 y2 y3) (sawtoothref11_Begin.j0 (k + 1) y0 y1 y2 y3))
 | 0 => fun _ _ _ _ r h => by simp [sawtoothref11_Begin.j0] at h
 | k + 1 => by
  have ih0 := sawtoothref11_Begin.mono_l k
  ·intro y0 y1 y2 y3
   unfold sawtoothref11_Begin.j0
   repeat' first
   | (with_reducible exact ih0 _ _ _ _)
   | (with_reducible exact LeO.refl _)
   | (with_reducible exact LeO.none _)
   | (with_reducible refine LeO.ite ?_ ?_)
   | (with_reducible refine LeO.bind ?_ (fun _ => ?_))
   | exact ih0 _ _ _ _
   | exact LeO.none _
   | refine LeO.ite ?_ ?_
   | refine LeO.bind ?_ (fun _ => ?_)
theorem sawtoothref11_Begin.mono : ∀ a0 a1 a2 k, LeO (sawtoothref11_Begin.f k a0 a1 a2) (sawtoothref11_Begin.f (k + 1) a0 a1 a2) := by
 intro a0 a1 a2 k; have ih0 := sawtoothref11_Begin.mono_l k
 unfold sawtoothref11_Begin.f
 repeat' first
   | (with_reducible exact ih0 _ _ _ _)
   | (with_reducible exact LeO.refl _)
   | (with_reducible exact LeO.none _)
   | (with_reducible refine LeO.ite ?_ ?_)
   | (with_reducible refine LeO.bind ?_ (fun _ => ?_))
   | exact ih0 _ _ _ _
   | exact LeO.none _
   | refine LeO.ite ?_ ?_
   | refine LeO.bind ?_ (fun _ => ?_)
set_option maxHeartbeats 8000000 in
set_option maxRecDepth 100000 in
theorem sawtoothref11_Begin.calls (k : Nat) (a0 : Int) (a1 : Int) (a2 : Int) (r1 : Bool) (r2 : Int) (r3 : Int) (r4 : Int) (r5 : Int) (r6 : Int) (r7 : Int) (w : World) (h : sawtoothref11_Begin.f k a0 a1 a2 = some (r1, r2, r3, r4, r5, r6, r7)) :
  Calls Tryd.prog 12 #[.int .i64 a0, .int .i64 a1, .int .i64 a2] w fun e w' => e = .returned (.tuple #[.agg #[.bool r1, .int .i64 r2, .int .i64 r3, .int .i64 r4, .int .i64 r5, .int .i64 r6], .int .i64 r7]) ∧ Below w.heap.size w w' := by
 have hu23 := Tryd.underlying23; have HB := Aside0.mk (Below.refl w.heap.size w); have H : (if a0 < 0 then (sawtoothref11_Begin.j0 k a0 a1 a2 true) else (if a0 > 1099511627776 then (sawtoothref11_Begin.j0 k a0 a1 a2 true) else ((sawtoothref11_window.f a1).bind fun t410 => (if t410 = true then ((sawtoothref11_window.f a2).bind fun t411 => (sawtoothref11_Begin.j0 k a0 a1 a2 (!t411))) else (sawtoothref11_Begin.j0 k a0 a1 a2 true))))) = some (r1, r2, r3, r4, r5, r6, r7) := h; clear h; have HC4 := Aside0.mk H; clear H
 go_enter Tryd.func12, Tryd.ntmps12
 go_upto_region 1 with (first | ((with_reducible refine gate_dst (N := 6) rfl ?_); refine box_event ?hg (N := 6) ?hd (cs := #[.bool false, .int .i64 0, .int .i64 0, .int .i64 0, .int .i64 0, .int .i64 0]) (t := 23) ?hr ?_; (case hd => rfl); (case hg => rfl); (case hr => first | (go_simp; done) | (go_simp; rfl)); intro gb409 hg w5 hbox hb; have BK409 := Aside0.mk (hbox); obtain ⟨GW409, nHB⟩ := geA hg hb; have GE409 := GW409; replace HB := nHB; clear nHB; clear hb hbox hg))
 (try simp only [Act.put, sA, sB, sC])
 go_cut [24] (fun v24 wc => ∃ (kq : Nat) (x24_3 : Bool), v24 = .bool x24_3 ∧ Aside0 (sawtoothref11_Begin.j0 kq a0 a1 a2 x24_3 = some (r1, r2, r3, r4, r5, r6, r7)) ∧ Aside0 (kq ≤ k) ∧ Aside0 (wc.heap[gb409]? = some (.cells #[.bool false, .int .i64 0, .int .i64 0, .int .i64 0, .int .i64 0, .int .i64 0] 23 (0, 0))) ∧ Aside0 (Below w.heap.size w wc))
 case first =>
  have H := HC4.out; clear HC4
  by_cases c6 : a0 < 0
  ·rw [if_pos c6] at H
   have c6b0 : decide (a0 < 0) = true := decide_eq_true c6; clear c6
   (first | rw [c6b0] | (simp only [i64_w, i32_w]; rw [c6b0]) | skip)
   have H' := Aside0.mk H; clear H
   go_wp2
   go_meet
   case rel => exact ⟨_, (true), (by first | rfl | (simp; done) | (simp [*]; done)), H', ⟨by first | omega | exact Nat.le_refl _⟩, ⟨by (with_reducible repeat first | apply blk_drewN | apply blk_drew | apply blk_alloc); exact BK409.out⟩, ⟨by repeat (first | (with_reducible first | exact HB.out | apply below_alloc | apply pw_below_drewN | apply below_drew1 | refine below_set ?_ GE409.out) | exact HB.out)⟩⟩
  ·rw [if_neg c6] at H
   have c6b0 : decide (a0 < 0) = false := decide_eq_false c6; clear c6
   (first | rw [c6b0] | (simp only [i64_w, i32_w]; rw [c6b0]) | skip)
   by_cases c7 : a0 > 1099511627776
   ·rw [if_pos c7] at H
    have c7b0 : decide (1099511627776 < a0) = true := decide_eq_true c7; clear c7; have H' := Aside0.mk H; clear H
    go_wp2
    go_meet
    case rel => exact ⟨_, (true), (by first | rfl | (simp; done) | (simp [*]; done)), H', ⟨by first | omega | exact Nat.le_refl _⟩, ⟨by (with_reducible repeat first | apply blk_drewN | apply blk_drew | apply blk_alloc); exact BK409.out⟩, ⟨by repeat (first | (with_reducible first | exact HB.out | apply below_alloc | apply pw_below_drewN | apply below_drew1 | refine below_set ?_ GE409.out) | exact HB.out)⟩⟩
   ·rw [if_neg c7] at H
    have c7b0 : decide (1099511627776 < a0) = false := decide_eq_false c7; clear c7; replace H := Option.bind_eq_some_iff.mp H; obtain ⟨t410, A80, H⟩ := H; replace H : (if t410 = true then ((sawtoothref11_window.f a2).bind fun t411 => (sawtoothref11_Begin.j0 k a0 a1 a2 (!t411))) else (sawtoothref11_Begin.j0 k a0 a1 a2 true)) = some (r1, r2, r3, r4, r5, r6, r7) := H; have A8 := Aside0.mk A80; clear A80
    by_cases c9 : t410 = true
    ·subst c9
     have H1 : ((sawtoothref11_window.f a2).bind fun t411 => (sawtoothref11_Begin.j0 k a0 a1 a2 (!t411))) = some (r1, r2, r3, r4, r5, r6, r7) := by rw [if_pos rfl] at H; exact H
     clear H; have H := H1; clear H1; replace H := Option.bind_eq_some_iff.mp H; obtain ⟨t411, A100, H⟩ := H; replace H : (sawtoothref11_Begin.j0 k a0 a1 a2 (!t411)) = some (r1, r2, r3, r4, r5, r6, r7) := H; have A10 := Aside0.mk A100; clear A100; have H' := Aside0.mk H; clear H
     go_wp2_with (first | (go_at_call 27; (with_reducible refine (sawtoothref11_window.calls a1 true _ A8.out).mono ?_); rintro e w' ⟨rfl, ⟨nd, rfl⟩⟩) | (go_at_call 27; (with_reducible refine (sawtoothref11_window.calls a2 t411 _ A10.out).mono ?_); rintro e w' ⟨rfl, ⟨nd, rfl⟩⟩))
     go_meet
     case rel => exact ⟨_, (!t411), (by first | rfl | (simp; done) | (simp [*]; done)), H', ⟨by first | omega | exact Nat.le_refl _⟩, ⟨by (with_reducible repeat first | apply blk_drewN | apply blk_drew | apply blk_alloc); exact BK409.out⟩, ⟨by repeat (first | (with_reducible first | exact HB.out | apply below_alloc | apply pw_below_drewN | apply below_drew1 | refine below_set ?_ GE409.out) | exact HB.out)⟩⟩
    ·replace c9 := Bool.eq_false_iff.mpr c9
     subst c9
     have H1 : (sawtoothref11_Begin.j0 k a0 a1 a2 true) = some (r1, r2, r3, r4, r5, r6, r7) := by rw [if_neg (show ¬ (false = true) by decide)] at H; exact H
     clear H; have H := H1; clear H1; have H' := Aside0.mk H; clear H
     go_wp2_with (first | (go_at_call 27; (with_reducible refine (sawtoothref11_window.calls a1 false _ A8.out).mono ?_); rintro e w' ⟨rfl, ⟨nd, rfl⟩⟩))
     go_meet
     case rel => exact ⟨_, (true), (by first | rfl | (simp; done) | (simp [*]; done)), H', ⟨by first | omega | exact Nat.le_refl _⟩, ⟨by (with_reducible repeat first | apply blk_drewN | apply blk_drew | apply blk_alloc); exact BK409.out⟩, ⟨by repeat (first | (with_reducible first | exact HB.out | apply below_alloc | apply pw_below_drewN | apply below_drew1 | refine below_set ?_ GE409.out) | exact HB.out)⟩⟩
 case rest =>
  clear HC4
  try clear c1
  try clear p2
  try clear c6
  try clear c6b0
  try clear c7
  try clear c7b0
  try clear c9
  obtain ⟨kq, x24_3, rfl, HA, HJ3, BK409, HB⟩ := hcut
  cases kq with
  | zero => exact absurd HA.out (by simp [sawtoothref11_Begin.j0])
  | succ kj3 =>
   have H := HA.out; clear HA; simp only [sawtoothref11_Begin.j0] at H
   by_cases c11 : x24_3 = true
   ·subst c11
    have H1 : (some (false, 0, 0, 0, 0, 0, 201)) = some (r1, r2, r3, r4, r5, r6, r7) := by rw [if_pos rfl] at H; exact H
    clear H; have H := H1; clear H1; simp only [Option.some.injEq, Prod.mk.injEq] at H; obtain ⟨rfl, rfl, rfl, rfl, rfl, rfl, rfl⟩ := H; have hcz12_0 : wc.cell? ⟨gb409, 0, none⟩ = some (.bool false) := (blk_cell BK409.out 0).trans rfl; have hcz12_1 : wc.cell? ⟨gb409, 1, none⟩ = some (.int .i64 0) := (blk_cell BK409.out 1).trans rfl; have hcz12_2 : wc.cell? ⟨gb409, 2, none⟩ = some (.int .i64 0) := (blk_cell BK409.out 2).trans rfl; have hcz12_3 : wc.cell? ⟨gb409, 3, none⟩ = some (.int .i64 0) := (blk_cell BK409.out 3).trans rfl; have hcz12_4 : wc.cell? ⟨gb409, 4, none⟩ = some (.int .i64 0) := (blk_cell BK409.out 4).trans rfl; have hcz12_5 : wc.cell? ⟨gb409, 5, none⟩ = some (.int .i64 0) := (blk_cell BK409.out 5).trans rfl; have hfz12_0 := blk_frozen BK409.out 0; have hfz12_1 := blk_frozen BK409.out 1; have hfz12_2 := blk_frozen BK409.out 2; have hfz12_3 := blk_frozen BK409.out 3; have hfz12_4 := blk_frozen BK409.out 4; have hfz12_5 := blk_frozen BK409.out 5
    go_wp2
    refine bodyPost_ret (results_ct rfl _ _ gb409 23 #[.bool false, .int .i64 0, .int .i64 0, .int .i64 0, .int .i64 0, .int .i64 0] (0, 0) _ rfl (by (with_reducible repeat first | apply blk_drewN | apply blk_drew | apply blk_alloc); refine blk_put (cs := #[.bool false, .int .i64 0, .int .i64 0, .int .i64 0, .int .i64 0, .int .i64 0]) ?_ 5 _ rfl; (with_reducible repeat first | apply blk_drewN | apply blk_drew | apply blk_alloc); refine blk_put (cs := #[.bool false, .int .i64 0, .int .i64 0, .int .i64 0, .int .i64 0, .int .i64 0]) ?_ 4 _ rfl; (with_reducible repeat first | apply blk_drewN | apply blk_drew | apply blk_alloc); refine blk_put (cs := #[.bool false, .int .i64 0, .int .i64 0, .int .i64 0, .int .i64 0, .int .i64 0]) ?_ 3 _ rfl; (with_reducible repeat first | apply blk_drewN | apply blk_drew | apply blk_alloc); refine blk_put (cs := #[.bool false, .int .i64 0, .int .i64 0, .int .i64 0, .int .i64 0, .int .i64 0]) ?_ 2 _ rfl; (with_reducible repeat first | apply blk_drewN | apply blk_drew | apply blk_alloc); refine blk_put (cs := #[.bool false, .int .i64 0, .int .i64 0, .int .i64 0, .int .i64 0, .int .i64 0]) ?_ 1 _ rfl; (with_reducible repeat first | apply blk_drewN | apply blk_drew | apply blk_alloc); refine blk_put (cs := #[.bool false, .int .i64 0, .int .i64 0, .int .i64 0, .int .i64 0, .int .i64 0]) ?_ 0 _ rfl; (with_reducible repeat first | apply blk_drewN | apply blk_drew | apply blk_alloc); exact BK409.out) Tryd.underlying23 rfl (by kernel_rfl)) rfl ?_; exact ⟨by first | rfl | (simp [errW_none, errW_some] <;> rfl) | (simp [*, errW_none, errW_some] <;> rfl), by repeat (first | (with_reducible first | exact HB.out | apply below_alloc | apply pw_below_drewN | apply below_drew1 | refine below_set ?_ GE409.out) | exact HB.out)⟩
   ·replace c11 := Bool.eq_false_iff.mpr c11
    subst c11
    have H1 : (if a1 > a2 then ((sawtoothref11_KS.f (wrap64 (a1 - a1))).bind fun t412 => (some (true, a0, a1, a1, t412, a1, 0))) else ((sawtoothref11_KS.f (wrap64 (a2 - a1))).bind fun t413 => (some (true, a0, a1, a2, t413, a1, 0)))) = some (r1, r2, r3, r4, r5, r6, r7) := by rw [if_neg (show ¬ (false = true) by decide)] at H; exact H
    clear H; have H := H1; clear H1
    by_cases c13 : a1 > a2
    ·rw [if_pos c13] at H
     have c13b0 : decide (a2 < a1) = true := decide_eq_true c13; clear c13; replace H := Option.bind_eq_some_iff.mp H; obtain ⟨t412, A140, H⟩ := H; replace H : (some (true, a0, a1, a1, t412, a1, 0)) = some (r1, r2, r3, r4, r5, r6, r7) := H; rw [show wrap64 (a1 - a1) = 0 by rw [Int.sub_self]; first | decide | (simp [wrap64]; done)] at A140; have A14 := Aside0.mk A140; clear A140; simp only [Option.some.injEq, Prod.mk.injEq] at H; obtain ⟨rfl, rfl, rfl, rfl, rfl, rfl, rfl⟩ := H
     go_wp2_with (first | ((with_reducible refine gate_callee (f := 14) rfl ?_); refine goesLA_ (some 37) rfl rfl Tryd.func14 rfl #[.int .i64 0] rfl ?_; (with_reducible refine (sawtoothref11_KS.calls 0 t412 _ A14.out).mono ?_); rintro e w15 ⟨rfl, hb⟩; refine ⟨_, rfl, ?_⟩; replace BK409 := bdZ BK409 hb; replace HB := stA hb; clear hb; have hcz16_0 := czZ BK409 0 (.bool false); have hcz16_1 := czZ BK409 1 (.int .i64 0); have hcz16_2 := czZ BK409 2 (.int .i64 0); have hcz16_3 := czZ BK409 3 (.int .i64 0); have hcz16_4 := czZ BK409 4 (.int .i64 0); have hcz16_5 := czZ BK409 5 (.int .i64 0); have hfz16_0 := blk_frozen BK409.out 0; have hfz16_1 := blk_frozen BK409.out 1; have hfz16_2 := blk_frozen BK409.out 2; have hfz16_3 := blk_frozen BK409.out 3; have hfz16_4 := blk_frozen BK409.out 4; have hfz16_5 := blk_frozen BK409.out 5))
     refine bodyPost_ret (results_ct rfl _ _ gb409 23 #[.bool true, .int .i64 a0, .int .i64 a1, .int .i64 a1, .int .i64 t412, .int .i64 a1] (0, 0) _ rfl (by (with_reducible repeat first | apply blk_drewN | apply blk_drew | apply blk_alloc); refine blk_put (cs := #[.bool true, .int .i64 a0, .int .i64 a1, .int .i64 a1, .int .i64 t412, .int .i64 0]) ?_ 5 _ rfl; (with_reducible repeat first | apply blk_drewN | apply blk_drew | apply blk_alloc); refine blk_put (cs := #[.bool true, .int .i64 a0, .int .i64 a1, .int .i64 a1, .int .i64 0, .int .i64 0]) ?_ 4 _ rfl; (with_reducible repeat first | apply blk_drewN | apply blk_drew | apply blk_alloc); refine blk_put (cs := #[.bool true, .int .i64 a0, .int .i64 a1, .int .i64 0, .int .i64 0, .int .i64 0]) ?_ 3 _ rfl; (with_reducible repeat first | apply blk_drewN | apply blk_drew | apply blk_alloc); refine blk_put (cs := #[.bool true, .int .i64 a0, .int .i64 0, .int .i64 0, .int .i64 0, .int .i64 0]) ?_ 2 _ rfl; (with_reducible repeat first | apply blk_drewN | apply blk_drew | apply blk_alloc); refine blk_put (cs := #[.bool true, .int .i64 0, .int .i64 0, .int .i64 0, .int .i64 0, .int .i64 0]) ?_ 1 _ rfl; (with_reducible repeat first | apply blk_drewN | apply blk_drew | apply blk_alloc); refine blk_put (cs := #[.bool false, .int .i64 0, .int .i64 0, .int .i64 0, .int .i64 0, .int .i64 0]) ?_ 0 _ rfl; (with_reducible repeat first | apply blk_drewN | apply blk_drew | apply blk_alloc); exact BK409.out) Tryd.underlying23 rfl (by kernel_rfl)) rfl ?_; exact ⟨by first | rfl | (simp [errW_none, errW_some] <;> rfl) | (simp [*, errW_none, errW_some] <;> rfl), by repeat (first | (with_reducible first | exact HB.out | apply below_alloc | apply pw_below_drewN | apply below_drew1 | refine below_set ?_ GE409.out) | exact HB.out)⟩
    ·rw [if_neg c13] at H
     have c13b0 : decide (a2 < a1) = false := decide_eq_false c13; clear c13; replace H := Option.bind_eq_some_iff.mp H; obtain ⟨t413, A170, H⟩ := H; replace H : (some (true, a0, a1, a2, t413, a1, 0)) = some (r1, r2, r3, r4, r5, r6, r7) := H; have A17 := Aside0.mk A170; clear A170; simp only [Option.some.injEq, Prod.mk.injEq] at H; obtain ⟨rfl, rfl, rfl, rfl, rfl, rfl, rfl⟩ := H
     go_wp2_with (first | ((with_reducible refine gate_callee (f := 14) rfl ?_); refine goesLA_ (some 37) rfl rfl Tryd.func14 rfl #[.int .i64 (wrap64 (a2 - a1))] rfl ?_; (with_reducible refine (sawtoothref11_KS.calls (wrap64 (a2 - a1)) t413 _ A17.out).mono ?_); rintro e w18 ⟨rfl, hb⟩; refine ⟨_, rfl, ?_⟩; replace BK409 := bdZ BK409 hb; replace HB := stA hb; clear hb; have hcz19_0 := czZ BK409 0 (.bool false); have hcz19_1 := czZ BK409 1 (.int .i64 0); have hcz19_2 := czZ BK409 2 (.int .i64 0); have hcz19_3 := czZ BK409 3 (.int .i64 0); have hcz19_4 := czZ BK409 4 (.int .i64 0); have hcz19_5 := czZ BK409 5 (.int .i64 0); have hfz19_0 := blk_frozen BK409.out 0; have hfz19_1 := blk_frozen BK409.out 1; have hfz19_2 := blk_frozen BK409.out 2; have hfz19_3 := blk_frozen BK409.out 3; have hfz19_4 := blk_frozen BK409.out 4; have hfz19_5 := blk_frozen BK409.out 5))
     refine bodyPost_ret (results_ct rfl _ _ gb409 23 #[.bool true, .int .i64 a0, .int .i64 a1, .int .i64 a2, .int .i64 t413, .int .i64 a1] (0, 0) _ rfl (by (with_reducible repeat first | apply blk_drewN | apply blk_drew | apply blk_alloc); refine blk_put (cs := #[.bool true, .int .i64 a0, .int .i64 a1, .int .i64 a2, .int .i64 t413, .int .i64 0]) ?_ 5 _ rfl; (with_reducible repeat first | apply blk_drewN | apply blk_drew | apply blk_alloc); refine blk_put (cs := #[.bool true, .int .i64 a0, .int .i64 a1, .int .i64 a2, .int .i64 0, .int .i64 0]) ?_ 4 _ rfl; (with_reducible repeat first | apply blk_drewN | apply blk_drew | apply blk_alloc); refine blk_put (cs := #[.bool true, .int .i64 a0, .int .i64 a1, .int .i64 0, .int .i64 0, .int .i64 0]) ?_ 3 _ rfl; (with_reducible repeat first | apply blk_drewN | apply blk_drew | apply blk_alloc); refine blk_put (cs := #[.bool true, .int .i64 a0, .int .i64 0, .int .i64 0, .int .i64 0, .int .i64 0]) ?_ 2 _ rfl; (with_reducible repeat first | apply blk_drewN | apply blk_drew | apply blk_alloc); refine blk_put (cs := #[.bool true, .int .i64 0, .int .i64 0, .int .i64 0, .int .i64 0, .int .i64 0]) ?_ 1 _ rfl; (with_reducible repeat first | apply blk_drewN | apply blk_drew | apply blk_alloc); refine blk_put (cs := #[.bool false, .int .i64 0, .int .i64 0, .int .i64 0, .int .i64 0, .int .i64 0]) ?_ 0 _ rfl; (with_reducible repeat first | apply blk_drewN | apply blk_drew | apply blk_alloc); exact BK409.out) Tryd.underlying23 rfl (by kernel_rfl)) rfl ?_; exact ⟨by first | rfl | (simp [errW_none, errW_some] <;> rfl) | (simp [*, errW_none, errW_some] <;> rfl), by repeat (first | (with_reducible first | exact HB.out | apply below_alloc | apply pw_below_drewN | apply below_drew1 | refine below_set ?_ GE409.out) | exact HB.out)⟩

/-! ### sawtoothref11_BeginS: pure, behind function 12 -/
section
open Go.Proofs.YtceiakiihkaamaaDoor.Sp
noncomputable def sawtoothref11_BeginS.f (s : Int) (f : Int) (m : Int) : Option (Bool × Int × Int × Int × Int × Int × Int) := need ((I s) ∧ (I f) ∧ (I m)) (some (beginQ s f m))
theorem sawtoothref11_BeginS.eq {s : Int} {f : Int} {m : Int} (h1 : I s) (h2 : I f) (h3 : I m) : sawtoothref11_BeginS.f s f m = some (beginQ s f m) := need_pos ⟨h1, h2, h3⟩
theorem sawtoothref11_Begin.main {s : Int} {f : Int} {m : Int} (h1 : I s) (h2 : I f) (h3 : I m) : sawtoothref11_Begin.f 1 s f m = some (beginQ s f m) := by
 unfold sawtoothref11_Begin.f
 simp only [sawtoothref11_Begin.j0]
 unfold sawtoothref11_window.f beginQ
 by_cases c1 : s < 0
 ·rw [if_pos c1, if_neg (show ¬ (0 ≤ s ∧ s ≤ 1099511627776 ∧ 0 ≤ f ∧ f ≤ 68719476736 ∧ 0 ≤ m ∧ m ≤ 68719476736) from fun h => by omega)]; simp
 rw [if_neg c1]
 by_cases c2 : s > 1099511627776
 ·rw [if_pos c2, if_neg (show ¬ (0 ≤ s ∧ s ≤ 1099511627776 ∧ 0 ≤ f ∧ f ≤ 68719476736 ∧ 0 ≤ m ∧ m ≤ 68719476736) from fun h => by omega)]; simp
 rw [if_neg c2]
 by_cases c3 : f ≥ 0
 ·by_cases c4 : f ≤ 68719476736
  ·by_cases c5 : m ≥ 0
   ·by_cases c6 : m ≤ 68719476736
    ·have h : 0 ≤ s ∧ s ≤ 1099511627776 ∧ 0 ≤ f ∧ f ≤ 68719476736 ∧ 0 ≤ m ∧ m ≤ 68719476736 := ⟨by omega, by omega, c3, c4, c5, c6⟩
     simp only [Option.bind_some, if_pos c3, decide_eq_true c4, if_pos c5, decide_eq_true c6, if_true, if_pos h, Bool.not_true, Bool.false_eq_true, if_false]
     unfold max2
     by_cases c7 : f > m
     ·rw [if_pos c7, w64 (by omega), sawtoothref11_KS.eq (by omega), if_pos (show m < f from c7)]
      rfl
     ·rw [if_neg c7, w64 (by omega), sawtoothref11_KS.eq (by omega), if_neg (show ¬ m < f from c7)]
      rfl
    ·rw [if_neg (show ¬ (0 ≤ s ∧ s ≤ 1099511627776 ∧ 0 ≤ f ∧ f ≤ 68719476736 ∧ 0 ≤ m ∧ m ≤ 68719476736) from fun h => c6 h.2.2.2.2.2)]; simp [c3, c4, c5, c6]
   ·rw [if_neg (show ¬ (0 ≤ s ∧ s ≤ 1099511627776 ∧ 0 ≤ f ∧ f ≤ 68719476736 ∧ 0 ≤ m ∧ m ≤ 68719476736) from fun h => c5 h.2.2.2.2.1)]; simp [c3, c4, c5]
  ·rw [if_neg (show ¬ (0 ≤ s ∧ s ≤ 1099511627776 ∧ 0 ≤ f ∧ f ≤ 68719476736 ∧ 0 ≤ m ∧ m ≤ 68719476736) from fun h => c4 h.2.2.2.1)]; simp [c3, c4]
 ·rw [if_neg (show ¬ (0 ≤ s ∧ s ≤ 1099511627776 ∧ 0 ≤ f ∧ f ≤ 68719476736 ∧ 0 ≤ m ∧ m ≤ 68719476736) from fun h => c3 h.2.2.1)]; simp [c3]
end
theorem sawtoothref11_BeginS.calls (a0 : Int) (a1 : Int) (a2 : Int) (r1 : Bool) (r2 : Int) (r3 : Int) (r4 : Int) (r5 : Int) (r6 : Int) (r7 : Int) (w : World) (h : sawtoothref11_BeginS.f a0 a1 a2 = some (r1, r2, r3, r4, r5, r6, r7)) :
  Calls Tryd.prog 12 #[.int .i64 a0, .int .i64 a1, .int .i64 a2] w fun e w' => e = .returned (.tuple #[.agg #[.bool r1, .int .i64 r2, .int .i64 r3, .int .i64 r4, .int .i64 r5, .int .i64 r6], .int .i64 r7]) ∧ Below w.heap.size w w' := by
 obtain ⟨hc, h⟩ := Sp.need_some h; obtain ⟨h1, h2, h3⟩ := hc; exact sawtoothref11_Begin.calls 1 a0 a1 a2 r1 r2 r3 r4 r5 r6 r7 w (by rw [sawtoothref11_Begin.main h1 h2 h3]; exact h)

/-! ### sawtoothref02_plus: function 79 -/
noncomputable def sawtoothref02_plus.f (a0 a1 a2 a3 b0 b1 b2 b3 : Int) : Option (Int × Int × Int × Int × Int) := Sp.need (Sp.Dg a0 ∧ Sp.Dg a1 ∧ Sp.Dg a2 ∧ Sp.Dg a3 ∧ Sp.Dg b0 ∧ Sp.Dg b1 ∧ Sp.Dg b2 ∧ Sp.Dg b3) (some ((a0 + b0) % 4294967296, (a1 + b1 + (a0 + b0) / 4294967296) % 4294967296, (a2 + b2 + (a1 + b1 + (a0 + b0) / 4294967296) / 4294967296) % 4294967296, (a3 + b3 + (a2 + b2 + (a1 + b1 + (a0 + b0) / 4294967296) / 4294967296) / 4294967296) % 4294967296, (a3 + b3 + (a2 + b2 + (a1 + b1 + (a0 + b0) / 4294967296) / 4294967296) / 4294967296) / 4294967296))
set_option maxHeartbeats 4000000 in
set_option maxRecDepth 100000 in
theorem sawtoothref02_plus.walk (a0 a1 a2 a3 b0 b1 b2 b3 s0 o0 c0 t1 s1 o1 c1 t2 s2 o2 c2 t3 s3 o3 c3 : Int) (E0 : IntKind.u64.wrap (a0 + b0) = s0) (F0 : IntKind.u64.wrap s0 = s0) (R0 : Int.tmod s0 4294967296 = o0) (Q0 : IntKind.u64.wrap (Int.tdiv s0 4294967296) = c0) (E1 : IntKind.u64.wrap (a1 + b1) = t1) (F1 : IntKind.u64.wrap (t1 + c0) = s1) (R1 : Int.tmod s1 4294967296 = o1) (Q1 : IntKind.u64.wrap (Int.tdiv s1 4294967296) = c1) (E2 : IntKind.u64.wrap (a2 + b2) = t2) (F2 : IntKind.u64.wrap (t2 + c1) = s2) (R2 : Int.tmod s2 4294967296 = o2) (Q2 : IntKind.u64.wrap (Int.tdiv s2 4294967296) = c2) (E3 : IntKind.u64.wrap (a3 + b3) = t3) (F3 : IntKind.u64.wrap (t3 + c2) = s3) (R3 : Int.tmod s3 4294967296 = o3) (Q3 : IntKind.u64.wrap (Int.tdiv s3 4294967296) = c3) (w : World) :
  Calls Tryd.prog 79 #[.agg #[.int .u64 a0, .int .u64 a1, .int .u64 a2, .int .u64 a3], .agg #[.int .u64 b0, .int .u64 b1, .int .u64 b2, .int .u64 b3]] w fun e w' => e = .returned (.tuple #[.agg #[.int .u64 o0, .int .u64 o1, .int .u64 o2, .int .u64 o3], .int .u64 c3]) ∧ Below w.heap.size w w' := by
 have hu69 := Tryd.underlying82; have HB := Aside0.mk (Below.refl w.heap.size w)
 go_enter Tryd.func79, Tryd.ntmps79
 go_wp2_with (fail)
 refine wp_loop_rounds 5 ?_
 rw [rounds_succ]
 go_wp2_with (fail)
 go_quiet (fail)
 go_wp2_with (fail)
 rw [rounds_succ]
 go_wp2_with (fail)
 go_quiet (fail)
 go_wp2_with (fail)
 rw [rounds_succ]
 go_wp2_with (fail)
 go_quiet (fail)
 go_wp2_with (fail)
 rw [rounds_succ]
 go_wp2_with (fail)
 go_quiet (fail)
 go_wp2_with (fail)
 rw [rounds_succ]
 go_wp2_with (fail)
 have eB : w.heap.size + 1 + 1 = ((w.alloc (.cells #[.int .u64 a0, .int .u64 a1, .int .u64 a2, .int .u64 a3] 82)).alloc (.cells #[.int .u64 b0, .int .u64 b1, .int .u64 b2, .int .u64 b3] 82)).heap.size := by simp
 refine bodyPost_ret (Sp.results_row_tmp rfl _ _ (w.heap.size + 1 + 1) 82 #[.int .u64 o0, .int .u64 o1, .int .u64 o2, .int .u64 o3] (0, 0) _ rfl (by
  refine blk_put (cs := #[.int .u64 o0, .int .u64 o1, .int .u64 o2, .int .u64 0]) ?_ 3 _ rfl; refine blk_put (cs := #[.int .u64 o0, .int .u64 o1, .int .u64 0, .int .u64 0]) ?_ 2 _ rfl; refine blk_put (cs := #[.int .u64 o0, .int .u64 0, .int .u64 0, .int .u64 0]) ?_ 1 _ rfl; refine blk_put (cs := #[.int .u64 0, .int .u64 0, .int .u64 0, .int .u64 0]) ?_ 0 _ rfl; (with_reducible repeat (first | refine blk_far ?_ (by simp) _ | refine blk_drewN ?_ _)); refine blk_alloc ?_ _
  rw [eB]; exact blk_new _ _) hu69 rfl (by first | rfl | kernel_rfl)) rfl ?_
 exact ⟨rfl, by repeat (with_reducible first | exact HB.out | refine below_set ?_ (by omega) | apply below_alloc | apply pw_below_drewN)⟩
theorem sawtoothref02_plus.calls (a0 a1 a2 a3 b0 b1 b2 b3 r0 r1 r2 r3 r4 : Int) (w : World) (h : sawtoothref02_plus.f a0 a1 a2 a3 b0 b1 b2 b3 = some (r0, r1, r2, r3, r4)) :
  Calls Tryd.prog 79 #[.agg #[.int .u64 a0, .int .u64 a1, .int .u64 a2, .int .u64 a3], .agg #[.int .u64 b0, .int .u64 b1, .int .u64 b2, .int .u64 b3]] w fun e w' => e = .returned (.tuple #[.agg #[.int .u64 r0, .int .u64 r1, .int .u64 r2, .int .u64 r3], .int .u64 r4]) ∧ Below w.heap.size w w' := by
 obtain ⟨⟨A0, A1, A2, A3, B0, B1, B2, B3⟩, h⟩ := Sp.need_some h; simp only [Option.some.injEq, Prod.mk.injEq] at h; obtain ⟨rfl, rfl, rfl, rfl, rfl⟩ := h
 have sm : ∀ {x : Int}, 0 ≤ x → x < 18446744073709551616 → IntKind.u64.wrap x = x := fun h1 h2 => Sp.u64w_in ⟨h1, h2⟩
 have tm : ∀ {x : Int}, 0 ≤ x → Int.tmod x 4294967296 = x % 4294967296 := fun h => Int.tmod_eq_emod_of_nonneg h
 have td : ∀ {x : Int}, 0 ≤ x → x < 18446744073709551616 → IntKind.u64.wrap (Int.tdiv x 4294967296) = x / 4294967296 := fun h1 h2 => by rw [Int.tdiv_eq_ediv_of_nonneg h1]; exact sm (by omega) (by omega)
 exact sawtoothref02_plus.walk (E0 := sm (by omega) (by omega)) (F0 := sm (by omega) (by omega)) (R0 := tm (by omega)) (Q0 := td (by omega) (by omega)) (E1 := sm (by omega) (by omega)) (F1 := sm (by omega) (by omega)) (R1 := tm (by omega)) (Q1 := td (by omega) (by omega)) (E2 := sm (by omega) (by omega)) (F2 := sm (by omega) (by omega)) (R2 := tm (by omega)) (Q2 := td (by omega) (by omega)) (E3 := sm (by omega) (by omega)) (F3 := sm (by omega) (by omega)) (R3 := tm (by omega)) (Q3 := td (by omega) (by omega)) (w := w)

/-! ### sawtoothref02_minus: function 80 -/
noncomputable def sawtoothref02_minus.f (a0 a1 a2 a3 b0 b1 b2 b3 : Int) : Option (Int × Int × Int × Int) := Sp.need (Sp.Dg a0 ∧ Sp.Dg a1 ∧ Sp.Dg a2 ∧ Sp.Dg a3 ∧ Sp.Dg b0 ∧ Sp.Dg b1 ∧ Sp.Dg b2 ∧ Sp.Dg b3) (some ((4294967296 + a0 - b0) % 4294967296, (4294967296 + a1 - b1 - (1 - (4294967296 + a0 - b0) / 4294967296)) % 4294967296, (4294967296 + a2 - b2 - (1 - (4294967296 + a1 - b1 - (1 - (4294967296 + a0 - b0) / 4294967296)) / 4294967296)) % 4294967296, (4294967296 + a3 - b3 - (1 - (4294967296 + a2 - b2 - (1 - (4294967296 + a1 - b1 - (1 - (4294967296 + a0 - b0) / 4294967296)) / 4294967296)) / 4294967296)) % 4294967296))
set_option maxHeartbeats 4000000 in
set_option maxRecDepth 100000 in
theorem sawtoothref02_minus.walk (a0 a1 a2 a3 b0 b1 b2 b3 t0 u0 s0 o0 q0 c0 t1 u1 s1 o1 q1 c1 t2 u2 s2 o2 q2 c2 t3 u3 s3 o3 q3 c3 : Int) (E0 : IntKind.u64.wrap (4294967296 + a0) = t0) (G0 : IntKind.u64.wrap (t0 - b0) = u0) (F0 : IntKind.u64.wrap (u0) = s0) (R0 : Int.tmod s0 4294967296 = o0) (Q0 : IntKind.u64.wrap (Int.tdiv s0 4294967296) = q0) (Z0 : IntKind.u64.wrap (1 - q0) = c0) (E1 : IntKind.u64.wrap (4294967296 + a1) = t1) (G1 : IntKind.u64.wrap (t1 - b1) = u1) (F1 : IntKind.u64.wrap (u1 - c0) = s1) (R1 : Int.tmod s1 4294967296 = o1) (Q1 : IntKind.u64.wrap (Int.tdiv s1 4294967296) = q1) (Z1 : IntKind.u64.wrap (1 - q1) = c1) (E2 : IntKind.u64.wrap (4294967296 + a2) = t2) (G2 : IntKind.u64.wrap (t2 - b2) = u2) (F2 : IntKind.u64.wrap (u2 - c1) = s2) (R2 : Int.tmod s2 4294967296 = o2) (Q2 : IntKind.u64.wrap (Int.tdiv s2 4294967296) = q2) (Z2 : IntKind.u64.wrap (1 - q2) = c2) (E3 : IntKind.u64.wrap (4294967296 + a3) = t3) (G3 : IntKind.u64.wrap (t3 - b3) = u3) (F3 : IntKind.u64.wrap (u3 - c2) = s3) (R3 : Int.tmod s3 4294967296 = o3) (Q3 : IntKind.u64.wrap (Int.tdiv s3 4294967296) = q3) (Z3 : IntKind.u64.wrap (1 - q3) = c3) (w : World) :
  Calls Tryd.prog 80 #[.agg #[.int .u64 a0, .int .u64 a1, .int .u64 a2, .int .u64 a3], .agg #[.int .u64 b0, .int .u64 b1, .int .u64 b2, .int .u64 b3]] w fun e w' => e = .returned (.agg #[.int .u64 o0, .int .u64 o1, .int .u64 o2, .int .u64 o3]) ∧ Below w.heap.size w w' := by
 have hu69 := Tryd.underlying82; have HB := Aside0.mk (Below.refl w.heap.size w)
 go_enter Tryd.func80, Tryd.ntmps80
 go_wp2_with (fail)
 refine wp_loop_rounds 5 ?_
 rw [rounds_succ]
 go_wp2_with (fail)
 go_quiet (fail)
 go_wp2_with (fail)
 rw [rounds_succ]
 go_wp2_with (fail)
 go_quiet (fail)
 go_wp2_with (fail)
 rw [rounds_succ]
 go_wp2_with (fail)
 go_quiet (fail)
 go_wp2_with (fail)
 rw [rounds_succ]
 go_wp2_with (fail)
 go_quiet (fail)
 go_wp2_with (fail)
 rw [rounds_succ]
 go_wp2_with (fail)
 have eB : w.heap.size + 1 + 1 = ((w.alloc (.cells #[.int .u64 a0, .int .u64 a1, .int .u64 a2, .int .u64 a3] 82)).alloc (.cells #[.int .u64 b0, .int .u64 b1, .int .u64 b2, .int .u64 b3] 82)).heap.size := by simp
 refine bodyPost_ret (results_cell_row rfl _ _ (w.heap.size + 1 + 1) 82 #[.int .u64 o0, .int .u64 o1, .int .u64 o2, .int .u64 o3] (0, 0) _ rfl (by
  refine blk_put (cs := #[.int .u64 o0, .int .u64 o1, .int .u64 o2, .int .u64 0]) ?_ 3 _ rfl; refine blk_put (cs := #[.int .u64 o0, .int .u64 o1, .int .u64 0, .int .u64 0]) ?_ 2 _ rfl; refine blk_put (cs := #[.int .u64 o0, .int .u64 0, .int .u64 0, .int .u64 0]) ?_ 1 _ rfl; refine blk_put (cs := #[.int .u64 0, .int .u64 0, .int .u64 0, .int .u64 0]) ?_ 0 _ rfl; (with_reducible repeat (first | refine blk_far ?_ (by simp) _ | refine blk_drewN ?_ _)); refine blk_alloc ?_ _
  rw [eB]; exact blk_new _ _) hu69 rfl (by kernel_rfl)) rfl ?_
 exact ⟨rfl, by repeat (with_reducible first | exact HB.out | refine below_set ?_ (by omega) | apply below_alloc | apply pw_below_drewN)⟩
theorem sawtoothref02_minus.calls (a0 a1 a2 a3 b0 b1 b2 b3 r0 r1 r2 r3 : Int) (w : World) (h : sawtoothref02_minus.f a0 a1 a2 a3 b0 b1 b2 b3 = some (r0, r1, r2, r3)) :
  Calls Tryd.prog 80 #[.agg #[.int .u64 a0, .int .u64 a1, .int .u64 a2, .int .u64 a3], .agg #[.int .u64 b0, .int .u64 b1, .int .u64 b2, .int .u64 b3]] w fun e w' => e = .returned (.agg #[.int .u64 r0, .int .u64 r1, .int .u64 r2, .int .u64 r3]) ∧ Below w.heap.size w w' := by
 obtain ⟨⟨A0, A1, A2, A3, B0, B1, B2, B3⟩, h⟩ := Sp.need_some h; simp only [Option.some.injEq, Prod.mk.injEq] at h; obtain ⟨rfl, rfl, rfl, rfl⟩ := h
 have sm : ∀ {x : Int}, 0 ≤ x → x < 18446744073709551616 → IntKind.u64.wrap x = x := fun h1 h2 => Sp.u64w_in ⟨h1, h2⟩
 have tm : ∀ {x : Int}, 0 ≤ x → Int.tmod x 4294967296 = x % 4294967296 := fun h => Int.tmod_eq_emod_of_nonneg h
 have td : ∀ {x : Int}, 0 ≤ x → x < 18446744073709551616 → IntKind.u64.wrap (Int.tdiv x 4294967296) = x / 4294967296 := fun h1 h2 => by rw [Int.tdiv_eq_ediv_of_nonneg h1]; exact sm (by omega) (by omega)
 exact sawtoothref02_minus.walk (E0 := sm (by omega) (by omega)) (G0 := sm (by omega) (by omega)) (F0 := sm (by omega) (by omega)) (R0 := tm (by omega)) (Q0 := td (by omega) (by omega)) (Z0 := sm (by omega) (by omega)) (E1 := sm (by omega) (by omega)) (G1 := sm (by omega) (by omega)) (F1 := sm (by omega) (by omega)) (R1 := tm (by omega)) (Q1 := td (by omega) (by omega)) (Z1 := sm (by omega) (by omega)) (E2 := sm (by omega) (by omega)) (G2 := sm (by omega) (by omega)) (F2 := sm (by omega) (by omega)) (R2 := tm (by omega)) (Q2 := td (by omega) (by omega)) (Z2 := sm (by omega) (by omega)) (E3 := sm (by omega) (by omega)) (G3 := sm (by omega) (by omega)) (F3 := sm (by omega) (by omega)) (R3 := tm (by omega)) (Q3 := td (by omega) (by omega)) (Z3 := sm (by omega) (by omega)) (w := w)

end Go.Proofs.YtceiakiihkaamaaDoor.Px
