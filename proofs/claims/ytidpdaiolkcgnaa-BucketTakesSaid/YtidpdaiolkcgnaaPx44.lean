/- Printed by a program of this session (wip/tool/px.py), over the kit's print: for each Go function a Lean function, and the proof that the machine's call answers as that function says. Conditions: none beside what the theorems state. -/
import Derived.Test.YtidpdaiolkcgnaaPx0
import Derived.Test.YtidpdaiolkcgnaaPx1
import Derived.Test.YtidpdaiolkcgnaaPx6
import Derived.Test.YtidpdaiolkcgnaaPx27
namespace Go.Proofs.Ytidpdaiolkcgnaa.Px
open Go.RowKit Go.Proofs.YtidpdaiolkcgnaaW.PrintWords Go.Proofs.YtidpdaiolkcgnaaW.PrintLast Go.Proofs.YtidpdaiolkcgnaaW.PrintMore
attribute [local go_sem] max2_int min2_int max_two min_two max_three min_three max_four min_four   -- for this text's walks alone
set_option linter.unusedVariables false
set_option linter.unusedSimpArgs false

attribute [local go_sem high] eqA23
/-! ### sawtoothlaw18_BucketTakes: function 7 -/
noncomputable def sawtoothlaw18_BucketTakes.j0 : Nat → Bool → Int → Int → Int → Int → Bool → Int → Int → Int → Int → Int → Int → Int → Int → Option (Bool)
 | 0, _, _, _, _, _, _, _, _, _, _, _, _, _, _ => none
 | k + 1, x7, x8, x9, x11, x15, x48, x540000, x540001, x545000, x545001, x549000, x549001, x553000, x553001 => if x48 = true then (if x7 = true then (if x15 = 0 then (none) else (if (x553000 == x540000 && (x553001 == x540001)) = true then (if x11 = 0 then (some true) else (some (x545000 == x540000 && (x545001 == x540001)))) else (none))) else (none)) else (if x7 = true then (if x15 = 0 then (if (x549000 == x553000 && (x549001 == x553001)) = true then ((bucket_BytesS.f x549000 x549001).bind fun t553 => ((bucket_BytesS.f x540000 x540001).bind fun t554 => (if t553 = (wrap64 ((wrap64 (t554 - x8)) - x9)) then (some (x549000 == x540000)) else (none)))) else (none)) else (none)) else (none))
noncomputable def sawtoothlaw18_BucketTakes.f (k : Nat) (a0_0 : Int) (a0_1 : Int) (a1 : Int) (a2 : Int) : Option (Bool) := (sawtoothlaw18_awakeS.f).bind fun t540 => ((bucket_TakeS.f a0_0 a0_1 (wrap64 (1 + (wrap64 (a1))))).bind fun bt541 => ((bucket_TakeS.f bt541.1 bt541.2.1 (wrap64 (1 + (wrap64 (a2))))).bind fun bt545 => ((bucket_TakeS.f a0_0 a0_1 (wrap64 ((wrap64 (1 + (wrap64 (a1)))) + (wrap64 (1 + (wrap64 (a2))))))).bind fun bt549 => (if bt541.2.2 = 0 then (sawtoothlaw18_BucketTakes.j0 k t540 (wrap64 (1 + (wrap64 (a1)))) (wrap64 (1 + (wrap64 (a2)))) bt541.2.2 bt549.2.2 (bt545.2.2 != 0) a0_0 a0_1 bt541.1 bt541.2.1 bt545.1 bt545.2.1 bt549.1 bt549.2.1) else (sawtoothlaw18_BucketTakes.j0 k t540 (wrap64 (1 + (wrap64 (a1)))) (wrap64 (1 + (wrap64 (a2)))) bt541.2.2 bt549.2.2 true a0_0 a0_1 bt541.1 bt541.2.1 bt545.1 bt545.2.1 bt549.1 bt549.2.1)))))
theorem sawtoothlaw18_BucketTakes.mono_l : ∀ k, (∀ y0 y1 y2 y3 y4 y5 y6 y7 y8 y9 y10 y11 y12 y13, LeO (sawtoothlaw18_BucketTakes.j0 k y0 y1 y2 y3 y4 y5 y6 y7 y8 y9 y10 y11 y12 y13) (sawtoothlaw18_BucketTakes.j0 (k + 1) y0 y1 y2 y3 y4 y5 y6 y7 y8 y9 y10 y11 y12 y13))
 | 0 => fun _ _ _ _ _ _ _ _ _ _ _ _ _ _ r h => by simp [sawtoothlaw18_BucketTakes.j0] at h
 | k + 1 => by
  have ih0 := sawtoothlaw18_BucketTakes.mono_l k
  ·intro y0 y1 y2 y3 y4 y5 y6 y7 y8 y9 y10 y11 y12 y13
   unfold sawtoothlaw18_BucketTakes.j0
   repeat' first
   | (with_reducible exact ih0 _ _ _ _ _ _ _ _ _ _ _ _ _ _)
   | (with_reducible exact LeO.refl _)
   | (with_reducible exact LeO.none _)
   | (with_reducible refine LeO.ite ?_ ?_)
   | (with_reducible refine LeO.bind ?_ (fun _ => ?_))
   | exact ih0 _ _ _ _ _ _ _ _ _ _ _ _ _ _
   | exact LeO.none _
   | refine LeO.ite ?_ ?_
   | refine LeO.bind ?_ (fun _ => ?_)
theorem sawtoothlaw18_BucketTakes.mono : ∀ a0 a1 a2 a3 k, LeO (sawtoothlaw18_BucketTakes.f k a0 a1 a2 a3) (sawtoothlaw18_BucketTakes.f (k + 1) a0 a1 a2 a3) := by
 intro a0 a1 a2 a3 k; have ih0 := sawtoothlaw18_BucketTakes.mono_l k
 unfold sawtoothlaw18_BucketTakes.f
 repeat' first
   | (with_reducible exact ih0 _ _ _ _ _ _ _ _ _ _ _ _ _ _)
   | (with_reducible exact LeO.refl _)
   | (with_reducible exact LeO.none _)
   | (with_reducible refine LeO.ite ?_ ?_)
   | (with_reducible refine LeO.bind ?_ (fun _ => ?_))
   | exact ih0 _ _ _ _ _ _ _ _ _ _ _ _ _ _
   | exact LeO.none _
   | refine LeO.ite ?_ ?_
   | refine LeO.bind ?_ (fun _ => ?_)
def sawtoothlaw18_BucketTakes.T9 : Bool × List (List Nat × List Nat) := (true, [([], []), ([0], [0]), ([1], [1]), ([2, 1], [1, 2]), ([1, 3], [1, 3]), ([4, 1], [4]), ([5], [5]), ([5], [5]), ([6, 7, 5], [5, 6, 7]), ([5, 8], [5, 8]), ([9, 5], [9]), ([10], [10]), ([11, 10, 10], [10, 11]), ([10], [10]), ([13, 12, 10], [10, 13]), ([10], [10]), ([14, 15, 10], [10, 14, 15]), ([10], [10]), ([16, 17, 10], [10, 16, 17]), ([12, 18, 10], [10, 12, 18]), ([10, 19], [10, 19]), ([20, 14], [20]), ([21], [21]), ([22, 21], [21, 22]), ([21], [21]), ([24, 21], [21, 24]), ([23, 25, 21], [21, 23, 25]), ([21, 26], [21, 26]), ([27, 21, 0, 1, 2, 3, 4, 5, 6, 7, 8, 9, 10, 11, 12, 13, 14, 15, 16, 17, 18, 19, 20, 21, 22, 23, 24, 25, 26, 27], [27])])
def sawtoothlaw18_BucketTakes.B9 : List Nat := [0, 1, 3, 7, 15, 31, 63, 63, 255, 511, 1023, 2047, 4095, 2047, 16383, 2047, 65535, 2047, 262143, 524287, 1048575, 2097151, 4194303, 8388607, 4194303, 20971519, 67108863, 134217727, 268435455]
theorem sawtoothlaw18_BucketTakes.tab9 : rtab .any (opsOf Try.f7 9) = sawtoothlaw18_BucketTakes.T9 := by kernel_rfl
theorem sawtoothlaw18_BucketTakes.bits9 : waitsOk sawtoothlaw18_BucketTakes.T9.2 sawtoothlaw18_BucketTakes.B9 = true := by kernel_rfl
set_option maxHeartbeats 8000000 in
set_option maxRecDepth 100000 in
theorem sawtoothlaw18_BucketTakes.calls (k : Nat) (a0_0 : Int) (a0_1 : Int) (a1 : Int) (a2 : Int) (r : Bool) (w : World) (h : sawtoothlaw18_BucketTakes.f k a0_0 a0_1 a1 a2 = some r) :
  Calls Try.prog 7 #[.agg #[.int .i64 a0_0, .int .i64 a0_1], .int .u32 a1, .int .u32 a2] w fun e w' => e = .returned (.bool r) ∧ Below w.heap.size w w' := by
 have hu23 := Try.underlying23; have HB := Aside0.mk (Below.refl w.heap.size w); have H : ((sawtoothlaw18_awakeS.f).bind fun t540 => ((bucket_TakeS.f a0_0 a0_1 (wrap64 (1 + (wrap64 (a1))))).bind fun bt541 => ((bucket_TakeS.f bt541.1 bt541.2.1 (wrap64 (1 + (wrap64 (a2))))).bind fun bt545 => ((bucket_TakeS.f a0_0 a0_1 (wrap64 ((wrap64 (1 + (wrap64 (a1)))) + (wrap64 (1 + (wrap64 (a2))))))).bind fun bt549 => (if bt541.2.2 = 0 then (sawtoothlaw18_BucketTakes.j0 k t540 (wrap64 (1 + (wrap64 (a1)))) (wrap64 (1 + (wrap64 (a2)))) bt541.2.2 bt549.2.2 (bt545.2.2 != 0) a0_0 a0_1 bt541.1 bt541.2.1 bt545.1 bt545.2.1 bt549.1 bt549.2.1) else (sawtoothlaw18_BucketTakes.j0 k t540 (wrap64 (1 + (wrap64 (a1)))) (wrap64 (1 + (wrap64 (a2)))) bt541.2.2 bt549.2.2 true a0_0 a0_1 bt541.1 bt541.2.1 bt545.1 bt545.2.1 bt549.1 bt549.2.1)))))) = some r := h; clear h; replace H := Option.bind_eq_some_iff.mp H; obtain ⟨t540, A40, H⟩ := H; (try dsimp only at H); have A4 := Aside0.mk A40; clear A40; replace H := Option.bind_eq_some_iff.mp H; obtain ⟨⟨t541, t542, t543⟩, A50, H⟩ := H; (try dsimp only at H); have A5 := Aside0.mk A50; clear A50; replace H := Option.bind_eq_some_iff.mp H; obtain ⟨⟨t545, t546, t547⟩, A60, H⟩ := H; (try dsimp only at H); have A6 := Aside0.mk A60; clear A60; replace H := Option.bind_eq_some_iff.mp H; obtain ⟨⟨t549, t550, t551⟩, A70, H⟩ := H; (try dsimp only at H); have A7 := Aside0.mk A70; clear A70; have HC8 := Aside0.mk H; clear H
 go_enter Try.func7, Try.ntmps7
 go_upto_region 7 with (first | ((with_reducible refine gate_dst (N := 3) rfl ?_); refine box_event ?hg (N := 3) ?hd (cs := #[.int .i64 a0_0, .int .i64 a0_1]) (t := 23) ?hr ?_; (case hd => rfl); (case hg => rfl); (case hr => first | (go_simp; done) | (go_simp; rfl)); intro gb539 hg w9 hbox hb; have BK539 := Aside0.mk (hbox); obtain ⟨GW539, nHB⟩ := geA hg hb; have GE539 := GW539; replace HB := nHB; clear nHB; clear hb hbox hg) | ((with_reducible refine gate_callee (f := 9) rfl ?_); refine goesLA_ (some 16) rfl rfl Try.func9 rfl #[] rfl ?_; (with_reducible refine (sawtoothlaw18_awakeS.calls  t540 _ A4.out).mono ?_); rintro e w10 ⟨rfl, hb⟩; refine ⟨_, rfl, ?_⟩; replace BK539 := bdZ BK539 hb; replace HB := stA hb; clear hb; have hcz11_0 := czZ BK539 0 (.int .i64 a0_0); have hcz11_1 := czZ BK539 1 (.int .i64 a0_1); have hfz11_0 := blk_frozen BK539.out 0; have hfz11_1 := blk_frozen BK539.out 1) | ((with_reducible refine gate_callee (f := 12) rfl ?_); refine goesLA_ (some 26) rfl rfl Try.func12 rfl #[.agg #[.int .i64 a0_0, .int .i64 a0_1], .int .i64 (wrap64 (1 + (wrap64 (a1))))] rfl ?_; (with_reducible refine (bucket_TakeS.calls a0_0 a0_1 (wrap64 (1 + (wrap64 (a1)))) t541 t542 t543 _ A5.out).mono ?_); rintro e w12 ⟨rfl, hb⟩; refine ⟨_, rfl, ?_⟩; replace BK539 := bdZ BK539 hb; replace HB := stA hb; clear hb) | ((with_reducible refine gate_dst (N := 10) rfl ?_); refine box_event ?hg (N := 10) ?hd (cs := #[.int .i64 0, .int .i64 0]) (t := 23) ?hr ?_; (case hd => rfl); (case hg => rfl); (case hr => first | (go_simp; done) | (go_simp; rfl)); intro gb544 hg w13 hbox hb; have BK544 := Aside0.mk (hbox); obtain ⟨GW544, nHB⟩ := geA hg hb; have GE544 := GW544; obtain ⟨NB539_544, NB544_539, nBK⟩ := nbA BK539 hg hb; replace BK539 := nBK; clear nBK; replace HB := nHB; clear nHB; clear hb hbox hg; have hnb14 := NB544_539.out; have hnc14 := NB539_544.out; have hcz15_0 := czZ BK544 0 (.int .i64 0); have hcz15_1 := czZ BK544 1 (.int .i64 0); have hfz15_0 := blk_frozen BK544.out 0; have hfz15_1 := blk_frozen BK544.out 1) | ((with_reducible refine gate_callee (f := 12) rfl ?_); refine goesLA_ (some 32) rfl rfl Try.func12 rfl #[.agg #[.int .i64 t541, .int .i64 t542], .int .i64 (wrap64 (1 + (wrap64 (a2))))] rfl ?_; (with_reducible refine (bucket_TakeS.calls t541 t542 (wrap64 (1 + (wrap64 (a2)))) t545 t546 t547 _ A6.out).mono ?_); rintro e w16 ⟨rfl, hb⟩; refine ⟨_, rfl, ?_⟩; replace BK539 := bfZ BK539 (fun h_ => by (with_reducible repeat first | apply blk_drewN | apply blk_drew | apply blk_alloc | refine farZ ?_ NB539_544 _); exact h_) hb; replace BK544 := Aside0.mk (blk_below (g := gb544) (o := .cells #[.int .i64 t541, .int .i64 t542] 23 (0, 0)) (by (with_reducible repeat first | apply blk_drewN | apply blk_drew | apply blk_alloc); refine blk_put (cs := #[.int .i64 t541, .int .i64 0]) ?_ 1 _ rfl; (with_reducible repeat first | apply blk_drewN | apply blk_drew | apply blk_alloc); refine blk_put (cs := #[.int .i64 0, .int .i64 0]) ?_ 0 _ rfl; (with_reducible repeat first | apply blk_drewN | apply blk_drew | apply blk_alloc); exact BK544.out) hb); replace HB := stA hb; clear hb) | ((with_reducible refine gate_dst (N := 12) rfl ?_); refine box_event ?hg (N := 12) ?hd (cs := #[.int .i64 0, .int .i64 0]) (t := 23) ?hr ?_; (case hd => rfl); (case hg => rfl); (case hr => first | (go_simp; done) | (go_simp; rfl)); intro gb548 hg w17 hbox hb; have BK548 := Aside0.mk (hbox); obtain ⟨GW548, nHB⟩ := geA hg hb; have GE548 := GW548; obtain ⟨NB539_548, NB548_539, nBK⟩ := nbA BK539 hg hb; replace BK539 := nBK; clear nBK; obtain ⟨NB544_548, NB548_544, nBK⟩ := nbA BK544 hg hb; replace BK544 := nBK; clear nBK; replace HB := nHB; clear nHB; clear hb hbox hg; have hnb18 := NB548_539.out; have hnc18 := NB539_548.out; have hnb19 := NB548_544.out; have hnc19 := NB544_548.out; have hcz20_0 := czZ BK548 0 (.int .i64 0); have hcz20_1 := czZ BK548 1 (.int .i64 0); have hfz20_0 := blk_frozen BK548.out 0; have hfz20_1 := blk_frozen BK548.out 1; have hcz21_0 := czZ BK539 0 (.int .i64 a0_0); have hcz21_1 := czZ BK539 1 (.int .i64 a0_1); have hfz21_0 := blk_frozen BK539.out 0; have hfz21_1 := blk_frozen BK539.out 1) | ((with_reducible refine gate_callee (f := 12) rfl ?_); refine goesLA_ (some 40) rfl rfl Try.func12 rfl #[.agg #[.int .i64 a0_0, .int .i64 a0_1], .int .i64 (wrap64 ((wrap64 (1 + (wrap64 (a1)))) + (wrap64 (1 + (wrap64 (a2))))))] rfl ?_; (with_reducible refine (bucket_TakeS.calls a0_0 a0_1 (wrap64 ((wrap64 (1 + (wrap64 (a1)))) + (wrap64 (1 + (wrap64 (a2)))))) t549 t550 t551 _ A7.out).mono ?_); rintro e w22 ⟨rfl, hb⟩; refine ⟨_, rfl, ?_⟩; replace BK539 := bfZ BK539 (fun h_ => by (with_reducible repeat first | apply blk_drewN | apply blk_drew | apply blk_alloc | refine farZ ?_ NB539_548 _); exact h_) hb; replace BK544 := bfZ BK544 (fun h_ => by (with_reducible repeat first | apply blk_drewN | apply blk_drew | apply blk_alloc | refine farZ ?_ NB544_548 _); exact h_) hb; replace BK548 := Aside0.mk (blk_below (g := gb548) (o := .cells #[.int .i64 t545, .int .i64 t546] 23 (0, 0)) (by (with_reducible repeat first | apply blk_drewN | apply blk_drew | apply blk_alloc); refine blk_put (cs := #[.int .i64 t545, .int .i64 0]) ?_ 1 _ rfl; (with_reducible repeat first | apply blk_drewN | apply blk_drew | apply blk_alloc); refine blk_put (cs := #[.int .i64 0, .int .i64 0]) ?_ 0 _ rfl; (with_reducible repeat first | apply blk_drewN | apply blk_drew | apply blk_alloc); exact BK548.out) hb); replace HB := stA hb; clear hb) | ((with_reducible refine gate_dst (N := 14) rfl ?_); refine box_event ?hg (N := 14) ?hd (cs := #[.int .i64 0, .int .i64 0]) (t := 23) ?hr ?_; (case hd => rfl); (case hg => rfl); (case hr => first | (go_simp; done) | (go_simp; rfl)); intro gb552 hg w23 hbox hb; have BK552 := Aside0.mk (hbox); obtain ⟨GW552, nHB⟩ := geA hg hb; have GE552 := GW552; obtain ⟨NB539_552, NB552_539, nBK⟩ := nbA BK539 hg hb; replace BK539 := nBK; clear nBK; obtain ⟨NB544_552, NB552_544, nBK⟩ := nbA BK544 hg hb; replace BK544 := nBK; clear nBK; obtain ⟨NB548_552, NB552_548, nBK⟩ := nbA BK548 hg hb; replace BK548 := nBK; clear nBK; replace HB := nHB; clear nHB; clear hb hbox hg; have hnb24 := NB552_539.out; have hnc24 := NB539_552.out; have hnb25 := NB552_544.out; have hnc25 := NB544_552.out; have hnb26 := NB552_548.out; have hnc26 := NB548_552.out; have hcz27_0 := czZ BK552 0 (.int .i64 0); have hcz27_1 := czZ BK552 1 (.int .i64 0); have hfz27_0 := blk_frozen BK552.out 0; have hfz27_1 := blk_frozen BK552.out 1))
 (try simp only [Act.put, sA, sB, sC])
 go_cut [48] (fun v48 wc => ∃ (kq : Nat) (x48_7 : Bool), v48 = .bool x48_7 ∧ Aside0 (sawtoothlaw18_BucketTakes.j0 kq t540 (wrap64 (1 + (wrap64 (a1)))) (wrap64 (1 + (wrap64 (a2)))) t543 t551 x48_7 a0_0 a0_1 t541 t542 t545 t546 t549 t550 = some r) ∧ Aside0 (kq ≤ k) ∧ Aside0 (wc.heap[gb539]? = some (.cells #[.int .i64 a0_0, .int .i64 a0_1] 23 (0, 0))) ∧ Aside0 (wc.heap[gb544]? = some (.cells #[.int .i64 t541, .int .i64 t542] 23 (0, 0))) ∧ Aside0 (wc.heap[gb548]? = some (.cells #[.int .i64 t545, .int .i64 t546] 23 (0, 0))) ∧ Aside0 (wc.heap[gb552]? = some (.cells #[.int .i64 t549, .int .i64 t550] 23 (0, 0))) ∧ Aside0 (Below w.heap.size w wc))
 case first =>
  have H := HC8.out; clear HC8
  by_cases c28 : t543 = 0
  ·rw [if_pos c28] at H
   have c28b0 : (t543 == 0) = true := beq_iff_eq.mpr c28; have c28b1 : (t543 != 0) = false := bne_eq_false_iff_eq.mpr c28; clear c28
   (first | rw [c28b0] | (simp only [i64_w, i32_w]; rw [c28b0]) | skip)
   have H' := Aside0.mk H; clear H
   go_wp2
   go_meet
   case rel => exact ⟨_, ((t547 != 0)), (by first | rfl | (simp; done) | (simp [*]; done)), H', ⟨by first | omega | exact Nat.le_refl _⟩, ⟨by (with_reducible repeat first | apply blk_drewN | apply blk_drew | apply blk_alloc); refine blk_far ?_ NB539_552.out _; (with_reducible repeat first | apply blk_drewN | apply blk_drew | apply blk_alloc); refine blk_far ?_ NB539_552.out _; (with_reducible repeat first | apply blk_drewN | apply blk_drew | apply blk_alloc); exact BK539.out⟩, ⟨by (with_reducible repeat first | apply blk_drewN | apply blk_drew | apply blk_alloc); refine blk_far ?_ NB544_552.out _; (with_reducible repeat first | apply blk_drewN | apply blk_drew | apply blk_alloc); refine blk_far ?_ NB544_552.out _; (with_reducible repeat first | apply blk_drewN | apply blk_drew | apply blk_alloc); exact BK544.out⟩, ⟨by (with_reducible repeat first | apply blk_drewN | apply blk_drew | apply blk_alloc); refine blk_far ?_ NB548_552.out _; (with_reducible repeat first | apply blk_drewN | apply blk_drew | apply blk_alloc); refine blk_far ?_ NB548_552.out _; (with_reducible repeat first | apply blk_drewN | apply blk_drew | apply blk_alloc); exact BK548.out⟩, ⟨by (with_reducible repeat first | apply blk_drewN | apply blk_drew | apply blk_alloc); refine blk_put (cs := #[.int .i64 t549, .int .i64 0]) ?_ 1 _ rfl; (with_reducible repeat first | apply blk_drewN | apply blk_drew | apply blk_alloc); refine blk_put (cs := #[.int .i64 0, .int .i64 0]) ?_ 0 _ rfl; (with_reducible repeat first | apply blk_drewN | apply blk_drew | apply blk_alloc); exact BK552.out⟩, ⟨by repeat (first | (with_reducible first | exact HB.out | apply below_alloc | apply pw_below_drewN | apply below_drew1 | refine below_set ?_ (Aside0.out (by assumption))) | exact HB.out)⟩⟩
  ·rw [if_neg c28] at H
   have c28b0 : (t543 == 0) = false := beq_eq_false_iff_ne.mpr c28; have c28b1 : (t543 != 0) = true := bne_iff_ne.mpr c28
   (first | rw [c28b0] | (simp only [i64_w, i32_w]; rw [c28b0]) | skip)
   have H' := Aside0.mk H; clear H
   go_wp2
   go_meet
   case rel => exact ⟨_, (true), (by first | rfl | (simp; done) | (simp [*]; done)), H', ⟨by first | omega | exact Nat.le_refl _⟩, ⟨by (with_reducible repeat first | apply blk_drewN | apply blk_drew | apply blk_alloc); refine blk_far ?_ NB539_552.out _; (with_reducible repeat first | apply blk_drewN | apply blk_drew | apply blk_alloc); refine blk_far ?_ NB539_552.out _; (with_reducible repeat first | apply blk_drewN | apply blk_drew | apply blk_alloc); exact BK539.out⟩, ⟨by (with_reducible repeat first | apply blk_drewN | apply blk_drew | apply blk_alloc); refine blk_far ?_ NB544_552.out _; (with_reducible repeat first | apply blk_drewN | apply blk_drew | apply blk_alloc); refine blk_far ?_ NB544_552.out _; (with_reducible repeat first | apply blk_drewN | apply blk_drew | apply blk_alloc); exact BK544.out⟩, ⟨by (with_reducible repeat first | apply blk_drewN | apply blk_drew | apply blk_alloc); refine blk_far ?_ NB548_552.out _; (with_reducible repeat first | apply blk_drewN | apply blk_drew | apply blk_alloc); refine blk_far ?_ NB548_552.out _; (with_reducible repeat first | apply blk_drewN | apply blk_drew | apply blk_alloc); exact BK548.out⟩, ⟨by (with_reducible repeat first | apply blk_drewN | apply blk_drew | apply blk_alloc); refine blk_put (cs := #[.int .i64 t549, .int .i64 0]) ?_ 1 _ rfl; (with_reducible repeat first | apply blk_drewN | apply blk_drew | apply blk_alloc); refine blk_put (cs := #[.int .i64 0, .int .i64 0]) ?_ 0 _ rfl; (with_reducible repeat first | apply blk_drewN | apply blk_drew | apply blk_alloc); exact BK552.out⟩, ⟨by repeat (first | (with_reducible first | exact HB.out | apply below_alloc | apply pw_below_drewN | apply below_drew1 | refine below_set ?_ (Aside0.out (by assumption))) | exact HB.out)⟩⟩
 case rest =>
  clear HC8
  try clear c1
  try clear c2
  try clear p2
  try clear p6
  try clear c7
  try clear c9
  try clear c12
  try clear c14
  try clear c18
  try clear c19
  try clear c24
  try clear c25
  try clear c26
  try clear c28
  try clear c28b0
  try clear c28b1
  try clear hcz11_0
  try clear hcz11_1
  try clear hcz15_0
  try clear hcz15_1
  try clear hcz20_0
  try clear hcz20_1
  try clear hcz21_0
  try clear hcz21_1
  try clear hcz27_0
  try clear hcz27_1
  try clear hfz11_0
  try clear hfz11_1
  try clear hfz15_0
  try clear hfz15_1
  try clear hfz20_0
  try clear hfz20_1
  try clear hfz21_0
  try clear hfz21_1
  try clear hfz27_0
  try clear hfz27_1
  obtain ⟨kq, x48_7, rfl, HA, HJ7, BK539, BK544, BK548, BK552, HB⟩ := hcut
  cases kq with
  | zero => exact absurd HA.out (by simp [sawtoothlaw18_BucketTakes.j0])
  | succ kj7 =>
   have H := HA.out; clear HA; simp only [sawtoothlaw18_BucketTakes.j0] at H
   by_cases c29 : x48_7 = true
   ·subst c29
    have H1 : (if t540 = true then (if t551 = 0 then (none) else (if (t549 == a0_0 && (t550 == a0_1)) = true then (if t543 = 0 then (some true) else (some (t541 == a0_0 && (t542 == a0_1)))) else (none))) else (none)) = some r := by rw [if_pos rfl] at H; exact H
    clear H; have H := H1; clear H1
    by_cases c30 : t540 = true
    ·subst c30
     have H1 : (if t551 = 0 then (none) else (if (t549 == a0_0 && (t550 == a0_1)) = true then (if t543 = 0 then (some true) else (some (t541 == a0_0 && (t542 == a0_1)))) else (none))) = some r := by rw [if_pos rfl] at H; exact H
     clear H; have H := H1; clear H1
     by_cases c31 : t551 = 0
     ·rw [if_pos c31] at H
      exact absurd H (by simp)
     ·rw [if_neg c31] at H
      have c31b0 : (t551 == 0) = false := beq_eq_false_iff_ne.mpr c31; have c31b1 : (t551 != 0) = true := bne_iff_ne.mpr c31
      by_cases c32 : (t549 == a0_0 && (t550 == a0_1)) = true
      ·rw [if_pos c32] at H
       have c32b0 : (t549 == a0_0 && (t550 == a0_1)) = true := c32
       (try (have c32b1 : decide (t549 = a0_0 && (t550 == a0_1)) = true := by simpa using c32))
       (try (have c32b2 : (t549 == a0_0 && (t550 == a0_1)) = true := by simpa using c32))
       clear c32
       by_cases c33 : t543 = 0
       ·rw [if_pos c33] at H
        have c33b0 : (t543 == 0) = true := beq_iff_eq.mpr c33; have c33b1 : (t543 != 0) = false := bne_eq_false_iff_eq.mpr c33; clear c33; obtain rfl := Option.some.inj H; have hnb34 := NB552_539.out; have hnc34 := NB539_552.out; have hnb35 := NB552_544.out; have hnc35 := NB544_552.out; have hnb36 := NB552_548.out; have hnc36 := NB548_552.out; have hcz37_0 : wc.cell? ⟨gb552, 0, none⟩ = some (.int .i64 t549) := (blk_cell BK552.out 0).trans rfl; have hcz37_1 : wc.cell? ⟨gb552, 1, none⟩ = some (.int .i64 t550) := (blk_cell BK552.out 1).trans rfl; have hfz37_0 := blk_frozen BK552.out 0; have hfz37_1 := blk_frozen BK552.out 1; have hnb38 := NB539_544.out; have hnc38 := NB544_539.out; have hnb39 := NB539_548.out; have hnc39 := NB548_539.out; have hcz40_0 : wc.cell? ⟨gb539, 0, none⟩ = some (.int .i64 a0_0) := (blk_cell BK539.out 0).trans rfl; have hcz40_1 : wc.cell? ⟨gb539, 1, none⟩ = some (.int .i64 a0_1) := (blk_cell BK539.out 1).trans rfl; have hfz40_0 := blk_frozen BK539.out 0; have hfz40_1 := blk_frozen BK539.out 1
        go_wp2
        go_ret
        exact ⟨by first | rfl | (simp [errW_none, errW_some] <;> rfl) | (simp [*, errW_none, errW_some] <;> rfl), by repeat (first | (with_reducible first | exact HB.out | apply below_alloc | apply pw_below_drewN | apply below_drew1 | refine below_set ?_ (Aside0.out (by assumption))) | exact HB.out)⟩
       ·rw [if_neg c33] at H
        have c33b0 : (t543 == 0) = false := beq_eq_false_iff_ne.mpr c33; have c33b1 : (t543 != 0) = true := bne_iff_ne.mpr c33; obtain rfl := Option.some.inj H; have hnb41 := NB552_539.out; have hnc41 := NB539_552.out; have hnb42 := NB552_544.out; have hnc42 := NB544_552.out; have hnb43 := NB552_548.out; have hnc43 := NB548_552.out; have hcz44_0 : wc.cell? ⟨gb552, 0, none⟩ = some (.int .i64 t549) := (blk_cell BK552.out 0).trans rfl; have hcz44_1 : wc.cell? ⟨gb552, 1, none⟩ = some (.int .i64 t550) := (blk_cell BK552.out 1).trans rfl; have hfz44_0 := blk_frozen BK552.out 0; have hfz44_1 := blk_frozen BK552.out 1; have hnb45 := NB539_544.out; have hnc45 := NB544_539.out; have hnb46 := NB539_548.out; have hnc46 := NB548_539.out; have hcz47_0 : wc.cell? ⟨gb539, 0, none⟩ = some (.int .i64 a0_0) := (blk_cell BK539.out 0).trans rfl; have hcz47_1 : wc.cell? ⟨gb539, 1, none⟩ = some (.int .i64 a0_1) := (blk_cell BK539.out 1).trans rfl; have hfz47_0 := blk_frozen BK539.out 0; have hfz47_1 := blk_frozen BK539.out 1; have hnb48 := NB544_548.out; have hnc48 := NB548_544.out; have hcz49_0 : wc.cell? ⟨gb544, 0, none⟩ = some (.int .i64 t541) := (blk_cell BK544.out 0).trans rfl; have hcz49_1 : wc.cell? ⟨gb544, 1, none⟩ = some (.int .i64 t542) := (blk_cell BK544.out 1).trans rfl; have hfz49_0 := blk_frozen BK544.out 0; have hfz49_1 := blk_frozen BK544.out 1
        go_wp2
        go_ret
        exact ⟨by first | rfl | (simp [errW_none, errW_some] <;> rfl) | (simp [*, errW_none, errW_some] <;> rfl), by repeat (first | (with_reducible first | exact HB.out | apply below_alloc | apply pw_below_drewN | apply below_drew1 | refine below_set ?_ (Aside0.out (by assumption))) | exact HB.out)⟩
      ·rw [if_neg c32] at H
       exact absurd H (by simp)
    ·replace c30 := Bool.eq_false_iff.mpr c30
     subst c30
     have H1 : (none) = some r := by rw [if_neg (show ¬ (false = true) by decide)] at H; exact H
     clear H; have H := H1; clear H1; exact absurd H (by simp)
   ·replace c29 := Bool.eq_false_iff.mpr c29
    subst c29
    have H1 : (if t540 = true then (if t551 = 0 then (if (t545 == t549 && (t546 == t550)) = true then ((bucket_BytesS.f t545 t546).bind fun t553 => ((bucket_BytesS.f a0_0 a0_1).bind fun t554 => (if t553 = (wrap64 ((wrap64 (t554 - (wrap64 (1 + (wrap64 (a1)))))) - (wrap64 (1 + (wrap64 (a2)))))) then (some (t545 == a0_0)) else (none)))) else (none)) else (none)) else (none)) = some r := by rw [if_neg (show ¬ (false = true) by decide)] at H; exact H
    clear H; have H := H1; clear H1
    by_cases c50 : t540 = true
    ·subst c50
     have H1 : (if t551 = 0 then (if (t545 == t549 && (t546 == t550)) = true then ((bucket_BytesS.f t545 t546).bind fun t553 => ((bucket_BytesS.f a0_0 a0_1).bind fun t554 => (if t553 = (wrap64 ((wrap64 (t554 - (wrap64 (1 + (wrap64 (a1)))))) - (wrap64 (1 + (wrap64 (a2)))))) then (some (t545 == a0_0)) else (none)))) else (none)) else (none)) = some r := by rw [if_pos rfl] at H; exact H
     clear H; have H := H1; clear H1
     by_cases c51 : t551 = 0
     ·rw [if_pos c51] at H
      have c51b0 : (t551 == 0) = true := beq_iff_eq.mpr c51; have c51b1 : (t551 != 0) = false := bne_eq_false_iff_eq.mpr c51; clear c51
      by_cases c52 : (t545 == t549 && (t546 == t550)) = true
      ·rw [if_pos c52] at H
       have c52b0 : (t545 == t549 && (t546 == t550)) = true := c52
       (try (have c52b1 : decide (t545 = t549 && (t546 == t550)) = true := by simpa using c52))
       (try (have c52b2 : (t545 == t549 && (t546 == t550)) = true := by simpa using c52))
       clear c52; replace H := Option.bind_eq_some_iff.mp H; obtain ⟨t553, A530, H⟩ := H; replace H : ((bucket_BytesS.f a0_0 a0_1).bind fun t554 => (if t553 = (wrap64 ((wrap64 (t554 - (wrap64 (1 + (wrap64 (a1)))))) - (wrap64 (1 + (wrap64 (a2)))))) then (some (t545 == a0_0)) else (none))) = some r := H; have A53 := Aside0.mk A530; clear A530; replace H := Option.bind_eq_some_iff.mp H; obtain ⟨t554, A540, H⟩ := H; replace H : (if t553 = (wrap64 ((wrap64 (t554 - (wrap64 (1 + (wrap64 (a1)))))) - (wrap64 (1 + (wrap64 (a2)))))) then (some (t545 == a0_0)) else (none)) = some r := H; have A54 := Aside0.mk A540; clear A540
       by_cases c55 : t553 = (wrap64 ((wrap64 (t554 - (wrap64 (1 + (wrap64 (a1)))))) - (wrap64 (1 + (wrap64 (a2))))))
       ·rw [if_pos c55] at H
        have c55b0 : (t553 == (wrap64 ((wrap64 (t554 - (wrap64 (1 + (wrap64 (a1)))))) - (wrap64 (1 + (wrap64 (a2))))))) = true := beq_iff_eq.mpr c55; have c55b1 : (t553 != (wrap64 ((wrap64 (t554 - (wrap64 (1 + (wrap64 (a1)))))) - (wrap64 (1 + (wrap64 (a2))))))) = false := bne_eq_false_iff_eq.mpr c55; clear c55; obtain rfl := Option.some.inj H
        try go_wp2
        replace BK539 := Aside0.mk (blk_drew BK539.out); replace BK544 := Aside0.mk (blk_drew BK544.out); replace BK548 := Aside0.mk (blk_drew BK548.out); replace BK552 := Aside0.mk (blk_drew BK552.out); replace HB := Aside0.mk (below_drew1 HB.out); refine start_ (n := 29) (S := fun w' => w'.cell? ⟨gb548, 0, none⟩ = some (.int .i64 t545) ∧ w'.cell? ⟨gb548, 1, none⟩ = some (.int .i64 t546) ∧ w'.cell? ⟨gb552, 0, none⟩ = some (.int .i64 t549) ∧ w'.cell? ⟨gb552, 1, none⟩ = some (.int .i64 t550) ∧ w'.cell? ⟨gb539, 0, none⟩ = some (.int .i64 a0_0) ∧ w'.cell? ⟨gb539, 1, none⟩ = some (.int .i64 a0_1)) (ds := []) #[N,N,N,N,N,N,N,N,N,N,N,N,N,N,N,N,N,N,N,N,N,N,N,N,N,N,N,N,N] (by kernel_rfl) rfl rfl ⟨(blk_cell BK548.out 0).trans rfl, (blk_cell BK548.out 1).trans rfl, (blk_cell BK552.out 0).trans rfl, (blk_cell BK552.out 1).trans rfl, (blk_cell BK539.out 0).trans rfl, (blk_cell BK539.out 1).trans rfl⟩ (fun hHeld => ?_); refine with_tabW sawtoothlaw18_BucketTakes.tab9 sawtoothlaw18_BucketTakes.bits9 (fun HT_ HW_ => ?_)
        generalize wc.drew = w56 at BK539 BK544 BK548 BK552 HB hHeld ⊢
        refine pureA_ (i := 0) (N := some 68) #[Y,N,N,N,N,N,N,N,N,N,N,N,N,N,N,N,N,N,N,N,N,N,N,N,N,N,N,N,N] rfl rfl (any_of HT_.out (by kernel_rfl)) ?_
        refine pureA_ (i := 1) (N := some 69) #[Y,Y,N,N,N,N,N,N,N,N,N,N,N,N,N,N,N,N,N,N,N,N,N,N,N,N,N,N,N] rfl rfl (any_of HT_.out (by kernel_rfl)) ?_
        refine pureA_ (i := 2) (N := some 70) #[Y,Y,Y,N,N,N,N,N,N,N,N,N,N,N,N,N,N,N,N,N,N,N,N,N,N,N,N,N,N] rfl rfl (any_of HT_.out (by kernel_rfl)) ?_
        refine pureA_ (i := 3) (N := some 71) #[Y,Y,Y,Y,N,N,N,N,N,N,N,N,N,N,N,N,N,N,N,N,N,N,N,N,N,N,N,N,N] rfl rfl (any_of HT_.out (by kernel_rfl)) ?_
        refine pureA_ (i := 4) (N := some 72) #[Y,Y,Y,Y,Y,N,N,N,N,N,N,N,N,N,N,N,N,N,N,N,N,N,N,N,N,N,N,N,N] rfl rfl (any_of HT_.out (by kernel_rfl)) ?_
        refine pureA_ (i := 5) (N := some 73) #[Y,Y,Y,Y,Y,Y,N,N,N,N,N,N,N,N,N,N,N,N,N,N,N,N,N,N,N,N,N,N,N] rfl rfl (any_of HT_.out (by kernel_rfl)) ?_
        refine take_ (i := 6) (N := some 74) (v := ?_) (a' := ?_) #[Y,Y,Y,Y,Y,Y,Y,N,N,N,N,N,N,N,N,N,N,N,N,N,N,N,N,N,N,N,N,N,N] rfl rfl (take_ofW HT_.out HW_.out (by kernel_rfl)) (fun _ _ _ h => h) (Or.inl ⟨by rfl, ?_⟩) hHeld ?_ ?_; rotate_left
        ·rintro w' ⟨s0, s1, s2, s3, s4, s5⟩; go_simp
         with_reducible rfl
        rotate_left
        ·simp only [Act.put, sA, sB, sC, i64_w, i32_w]
         rfl
        refine take_ (i := 7) (N := some 75) (v := ?_) (a' := ?_) #[Y,Y,Y,Y,Y,Y,Y,Y,N,N,N,N,N,N,N,N,N,N,N,N,N,N,N,N,N,N,N,N,N] rfl rfl (take_ofW HT_.out HW_.out (by kernel_rfl)) (fun _ _ _ h => h) (Or.inl ⟨by rfl, ?_⟩) hHeld ?_ ?_; rotate_left
        ·rintro w' ⟨s0, s1, s2, s3, s4, s5⟩; go_simp
         with_reducible rfl
        rotate_left
        ·simp only [Act.put, sA, sB, sC, i64_w, i32_w]
         rfl
        refine pureA_ (i := 8) (N := some 76) #[Y,Y,Y,Y,Y,Y,Y,Y,Y,N,N,N,N,N,N,N,N,N,N,N,N,N,N,N,N,N,N,N,N] rfl rfl (any_of HT_.out (by kernel_rfl)) ?_
        refine pureA_ (i := 9) (N := some 77) #[Y,Y,Y,Y,Y,Y,Y,Y,Y,Y,N,N,N,N,N,N,N,N,N,N,N,N,N,N,N,N,N,N,N] rfl rfl (any_of HT_.out (by kernel_rfl)) ?_
        refine pureA_ (i := 10) (N := some 78) #[Y,Y,Y,Y,Y,Y,Y,Y,Y,Y,Y,N,N,N,N,N,N,N,N,N,N,N,N,N,N,N,N,N,N] rfl rfl (any_of HT_.out (by kernel_rfl)) ?_
        refine pureA_ (i := 15) (N := some 83) #[Y,Y,Y,Y,Y,Y,Y,Y,Y,Y,Y,N,N,N,N,Y,N,N,N,N,N,N,N,N,N,N,N,N,N] rfl rfl (any_of HT_.out (by kernel_rfl)) ?_
        refine pureA_ (i := 17) (N := some 85) #[Y,Y,Y,Y,Y,Y,Y,Y,Y,Y,Y,N,N,N,N,Y,N,Y,N,N,N,N,N,N,N,N,N,N,N] rfl rfl (any_of HT_.out (by kernel_rfl)) ?_
        refine take_ (i := 11) (N := some 79) (v := ?_) (a' := ?_) #[Y,Y,Y,Y,Y,Y,Y,Y,Y,Y,Y,Y,N,N,N,Y,N,Y,N,N,N,N,N,N,N,N,N,N,N] rfl rfl (take_ofW HT_.out HW_.out (by kernel_rfl)) (fun _ _ _ h => h) (Or.inl ⟨by rfl, ?_⟩) hHeld ?_ ?_; rotate_left
        ·rintro w' ⟨s0, s1, s2, s3, s4, s5⟩; go_simp
         with_reducible rfl
        rotate_left
        ·simp only [Act.put, sA, sB, sC, i64_w, i32_w]
         rfl
        refine take_ (i := 13) (N := some 81) (v := ?_) (a' := ?_) #[Y,Y,Y,Y,Y,Y,Y,Y,Y,Y,Y,Y,N,Y,N,Y,N,Y,N,N,N,N,N,N,N,N,N,N,N] rfl rfl (take_ofW HT_.out HW_.out (by kernel_rfl)) (fun _ _ _ h => h) (Or.inl ⟨by rfl, ?_⟩) hHeld ?_ ?_; rotate_left
        ·rintro w' ⟨s0, s1, s2, s3, s4, s5⟩; go_simp
         with_reducible rfl
        rotate_left
        ·simp only [Act.put, sA, sB, sC, i64_w, i32_w]
         rfl
        refine one_ (i := 12) (N := some 80) #[Y,Y,Y,Y,Y,Y,Y,Y,Y,Y,Y,Y,Y,Y,N,Y,N,Y,N,N,N,N,N,N,N,N,N,N,N] rfl rfl (one_of HT_.out (by kernel_rfl)) (by decide) (fun K hK => ?_); refine goesA_ Try.func18 rfl #[.agg #[.int .i64 t545, .int .i64 t546]] (by rfl) rfl rfl ?_
        with_reducible refine (bucket_BytesS.calls t545 t546 t553 _ A53.out).mono ?_
        rintro e w57 ⟨rfl, hb⟩; refine ⟨_, rfl, ?_⟩; replace BK539 := bbZ BK539 hb; replace BK544 := bbZ BK544 hb; replace BK548 := bbZ BK548 hb; replace BK552 := bbZ BK552 hb; replace HB := Aside0.mk (below_step HB.out hb); clear hb; refine hK.out _ _ ⟨(blk_cell BK548.out 0).trans rfl, (blk_cell BK548.out 1).trans rfl, (blk_cell BK552.out 0).trans rfl, (blk_cell BK552.out 1).trans rfl, (blk_cell BK539.out 0).trans rfl, (blk_cell BK539.out 1).trans rfl⟩ (fun hHeld => ?_); clear hK K; refine normA_ (some 80) ?_
        refine one_ (i := 14) (N := some 82) #[Y,Y,Y,Y,Y,Y,Y,Y,Y,Y,Y,Y,Y,Y,Y,Y,N,Y,N,N,N,N,N,N,N,N,N,N,N] rfl rfl (one_of HT_.out (by kernel_rfl)) (by decide) (fun K hK => ?_); refine goesA_ Try.func18 rfl #[.agg #[.int .i64 a0_0, .int .i64 a0_1]] (by rfl) rfl rfl ?_
        with_reducible refine (bucket_BytesS.calls a0_0 a0_1 t554 _ A54.out).mono ?_
        rintro e w58 ⟨rfl, hb⟩; refine ⟨_, rfl, ?_⟩; replace BK539 := bbZ BK539 hb; replace BK544 := bbZ BK544 hb; replace BK548 := bbZ BK548 hb; replace BK552 := bbZ BK552 hb; replace HB := Aside0.mk (below_step HB.out hb); clear hb; refine hK.out _ _ ⟨(blk_cell BK548.out 0).trans rfl, (blk_cell BK548.out 1).trans rfl, (blk_cell BK552.out 0).trans rfl, (blk_cell BK552.out 1).trans rfl, (blk_cell BK539.out 0).trans rfl, (blk_cell BK539.out 1).trans rfl⟩ (fun hHeld => ?_); clear hK K; refine normA_ (some 82) ?_
        refine pureA_ (i := 16) (N := some 84) #[Y,Y,Y,Y,Y,Y,Y,Y,Y,Y,Y,Y,Y,Y,Y,Y,Y,Y,N,N,N,N,N,N,N,N,N,N,N] rfl rfl (any_of HT_.out (by kernel_rfl)) ?_
        refine pureA_ (i := 18) (N := some 86) #[Y,Y,Y,Y,Y,Y,Y,Y,Y,Y,Y,Y,Y,Y,Y,Y,Y,Y,Y,N,N,N,N,N,N,N,N,N,N] rfl rfl (any_of HT_.out (by kernel_rfl)) ?_
        refine pureA_ (i := 19) (N := some 87) #[Y,Y,Y,Y,Y,Y,Y,Y,Y,Y,Y,Y,Y,Y,Y,Y,Y,Y,Y,Y,N,N,N,N,N,N,N,N,N] rfl rfl (any_of HT_.out (by kernel_rfl)) ?_
        refine pureA_ (i := 20) (N := some 88) #[Y,Y,Y,Y,Y,Y,Y,Y,Y,Y,Y,Y,Y,Y,Y,Y,Y,Y,Y,Y,Y,N,N,N,N,N,N,N,N] rfl rfl (any_of HT_.out (by kernel_rfl)) ?_
        refine pureA_ (i := 21) (N := some 89) #[Y,Y,Y,Y,Y,Y,Y,Y,Y,Y,Y,Y,Y,Y,Y,Y,Y,Y,Y,Y,Y,Y,N,N,N,N,N,N,N] rfl rfl (any_of HT_.out (by kernel_rfl)) ?_
        refine pureA_ (i := 22) (N := some 90) #[Y,Y,Y,Y,Y,Y,Y,Y,Y,Y,Y,Y,Y,Y,Y,Y,Y,Y,Y,Y,Y,Y,Y,N,N,N,N,N,N] rfl rfl (any_of HT_.out (by kernel_rfl)) ?_
        refine pureA_ (i := 24) (N := some 92) #[Y,Y,Y,Y,Y,Y,Y,Y,Y,Y,Y,Y,Y,Y,Y,Y,Y,Y,Y,Y,Y,Y,Y,N,Y,N,N,N,N] rfl rfl (any_of HT_.out (by kernel_rfl)) ?_
        refine take_ (i := 23) (N := some 91) (v := ?_) (a' := ?_) #[Y,Y,Y,Y,Y,Y,Y,Y,Y,Y,Y,Y,Y,Y,Y,Y,Y,Y,Y,Y,Y,Y,Y,Y,Y,N,N,N,N] rfl rfl (take_ofW HT_.out HW_.out (by kernel_rfl)) (fun _ _ _ h => h) (Or.inl ⟨by rfl, ?_⟩) hHeld ?_ ?_; rotate_left
        ·rintro w' ⟨s0, s1, s2, s3, s4, s5⟩; go_simp
         with_reducible rfl
        rotate_left
        ·simp only [Act.put, sA, sB, sC, i64_w, i32_w]
         rfl
        refine take_ (i := 25) (N := some 93) (v := ?_) (a' := ?_) #[Y,Y,Y,Y,Y,Y,Y,Y,Y,Y,Y,Y,Y,Y,Y,Y,Y,Y,Y,Y,Y,Y,Y,Y,Y,Y,N,N,N] rfl rfl (take_ofW HT_.out HW_.out (by kernel_rfl)) (fun _ _ _ h => h) (Or.inl ⟨by rfl, ?_⟩) hHeld ?_ ?_; rotate_left
        ·rintro w' ⟨s0, s1, s2, s3, s4, s5⟩; go_simp
         with_reducible rfl
        rotate_left
        ·simp only [Act.put, sA, sB, sC, i64_w, i32_w]
         rfl
        refine pureA_ (i := 26) (N := some 94) #[Y,Y,Y,Y,Y,Y,Y,Y,Y,Y,Y,Y,Y,Y,Y,Y,Y,Y,Y,Y,Y,Y,Y,Y,Y,Y,Y,N,N] rfl rfl (any_of HT_.out (by kernel_rfl)) ?_
        refine pureA_ (i := 27) (N := some 95) #[Y,Y,Y,Y,Y,Y,Y,Y,Y,Y,Y,Y,Y,Y,Y,Y,Y,Y,Y,Y,Y,Y,Y,Y,Y,Y,Y,Y,N] rfl rfl (any_of HT_.out (by kernel_rfl)) ?_
        refine pureA_ (i := 28) (N := some 6) #[Y,Y,Y,Y,Y,Y,Y,Y,Y,Y,Y,Y,Y,Y,Y,Y,Y,Y,Y,Y,Y,Y,Y,Y,Y,Y,Y,Y,Y] rfl rfl (any_of HT_.out (by kernel_rfl)) ?_
        refine done_ (done_of HT_.out (by kernel_rfl)) ?_
        try go_wp2
        go_ret
        exact ⟨by first | rfl | (simp [errW_none, errW_some] <;> rfl) | (simp [*, errW_none, errW_some] <;> rfl), by repeat (first | (with_reducible first | exact HB.out | apply below_alloc | apply pw_below_drewN | apply below_drew1 | refine below_set ?_ (Aside0.out (by assumption))) | exact HB.out)⟩
       ·rw [if_neg c55] at H
        have c55b0 : (t553 == (wrap64 ((wrap64 (t554 - (wrap64 (1 + (wrap64 (a1)))))) - (wrap64 (1 + (wrap64 (a2))))))) = false := beq_eq_false_iff_ne.mpr c55; have c55b1 : (t553 != (wrap64 ((wrap64 (t554 - (wrap64 (1 + (wrap64 (a1)))))) - (wrap64 (1 + (wrap64 (a2))))))) = true := bne_iff_ne.mpr c55; exact absurd H (by simp)
      ·rw [if_neg c52] at H
       have c52b0 : (t545 == t549 && (t546 == t550)) = false := by simpa using c52
       (try (have c52b1 : decide (t545 = t549 && (t546 == t550)) = false := by simpa using c52))
       (try (have c52b2 : (t545 == t549 && (t546 == t550)) = false := by simpa using c52))
       (try (have c52b3 : ¬ (t545 = t549 && (t546 == t550)) := by simpa using c52))
       clear c52; exact absurd H (by simp)
     ·rw [if_neg c51] at H
      have c51b0 : (t551 == 0) = false := beq_eq_false_iff_ne.mpr c51; have c51b1 : (t551 != 0) = true := bne_iff_ne.mpr c51; exact absurd H (by simp)
    ·replace c50 := Bool.eq_false_iff.mpr c50
     subst c50
     have H1 : (none) = some r := by rw [if_neg (show ¬ (false = true) by decide)] at H; exact H
     clear H; have H := H1; clear H1; exact absurd H (by simp)

end Go.Proofs.Ytidpdaiolkcgnaa.Px
