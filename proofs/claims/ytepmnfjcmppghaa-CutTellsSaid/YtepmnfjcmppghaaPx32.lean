/- Printed by a program of this session (wip/tool/px.py), over the kit's print: for each Go function a Lean function, and the proof that the machine's call answers as that function says. Conditions: none beside what the theorems state. -/
import Derived.Test.YtepmnfjcmppghaaPx0
import Derived.Test.YtepmnfjcmppghaaPx25
import Derived.Test.YtepmnfjcmppghaaPx31
namespace Go.Proofs.Ytepmnfjcmppghaa.Px
open Go.RowKit Go.Proofs.YtepmnfjcmppghaaW.PrintWords Go.Proofs.YtepmnfjcmppghaaW.PrintLast Go.Proofs.YtepmnfjcmppghaaW.PrintMore
attribute [local go_sem] max2_int min2_int max_two min_two max_three min_three max_four min_four   -- for this text's walks alone
set_option linter.unusedVariables false
set_option linter.unusedSimpArgs false

/-! ### sawtoothref02_Cmp: function 51 -/
noncomputable def sawtoothref02_Cmp.j0 : Nat → Bool → Int → Int → Int → Int → Int → Int → Int → Int → Option (Int)
 | 0, _, _, _, _, _, _, _, _, _ => none
 | k + 1, x32, x360000, x360001, x360002, x360003, x365000, x365001, x365002, x365003 => if x32 = true then (some 1) else ((sawtoothref02_less.f x360000 x360001 x360002 x360003 x365000 x365001 x365002 x365003).bind fun t372 => ((sawtoothref02_less.f x365000 x365001 x365002 x365003 x360000 x360001 x360002 x360003).bind fun t373 => (if (t372 != t373) = true then (some (-1)) else (some 0))))
noncomputable def sawtoothref02_Cmp.f (k : Nat) (a0_0 : Bool) (a0_1 : Int) (a0_2 : Int) (a1_0 : Bool) (a1_1 : Int) (a1_2 : Int) : Option (Int) := (sawtoothref02_digits.f a0_0 a0_1 a0_2).bind fun bt355 => ((sawtoothref02_digits.f a1_0 a1_1 a1_2).bind fun bt360 => ((sawtoothref02_belowS.f a0_0 a0_1 a0_2).bind fun t365 => ((sawtoothref02_belowS.f a1_0 a1_1 a1_2).bind fun t366 => (if (t365 != t366) = true then ((sawtoothref02_belowS.f a0_0 a0_1 a0_2).bind fun t367 => (if t367 = true then (some (-1)) else (some 1))) else ((sawtoothref02_less.f bt355.1 bt355.2.1 bt355.2.2.1 bt355.2.2.2 bt360.1 bt360.2.1 bt360.2.2.1 bt360.2.2.2).bind fun t368 => ((sawtoothref02_less.f bt360.1 bt360.2.1 bt360.2.2.1 bt360.2.2.2 bt355.1 bt355.2.1 bt355.2.2.1 bt355.2.2.2).bind fun t369 => (if (t368 != t369) = true then ((sawtoothref02_less.f bt355.1 bt355.2.1 bt355.2.2.1 bt355.2.2.2 bt360.1 bt360.2.1 bt360.2.2.1 bt360.2.2.2).bind fun t370 => ((sawtoothref02_belowS.f a0_0 a0_1 a0_2).bind fun t371 => (sawtoothref02_Cmp.j0 k (t370 == t371) bt355.1 bt355.2.1 bt355.2.2.1 bt355.2.2.2 bt360.1 bt360.2.1 bt360.2.2.1 bt360.2.2.2))) else (sawtoothref02_Cmp.j0 k false bt355.1 bt355.2.1 bt355.2.2.1 bt355.2.2.2 bt360.1 bt360.2.1 bt360.2.2.1 bt360.2.2.2))))))))
theorem sawtoothref02_Cmp.mono_l : ∀ k, (∀ y0 y1 y2 y3 y4 y5 y6 y7 y8, LeO (sawtoothref02_Cmp.j0 k y0 y1 y2 y3 y4 y5 y6 y7 y8) (sawtoothref02_Cmp.j0 (k + 1) y0 y1 y2 y3 y4 y5 y6 y7 y8))
 | 0 => fun _ _ _ _ _ _ _ _ _ r h => by simp [sawtoothref02_Cmp.j0] at h
 | k + 1 => by
  have ih0 := sawtoothref02_Cmp.mono_l k
  ·intro y0 y1 y2 y3 y4 y5 y6 y7 y8
   unfold sawtoothref02_Cmp.j0
   repeat' first
   | (with_reducible exact ih0 _ _ _ _ _ _ _ _ _)
   | (with_reducible exact LeO.refl _)
   | (with_reducible exact LeO.none _)
   | (with_reducible refine LeO.ite ?_ ?_)
   | (with_reducible refine LeO.bind ?_ (fun _ => ?_))
   | exact ih0 _ _ _ _ _ _ _ _ _
   | exact LeO.none _
   | refine LeO.ite ?_ ?_
   | refine LeO.bind ?_ (fun _ => ?_)
theorem sawtoothref02_Cmp.mono : ∀ a0 a1 a2 a3 a4 a5 k, LeO (sawtoothref02_Cmp.f k a0 a1 a2 a3 a4 a5) (sawtoothref02_Cmp.f (k + 1) a0 a1 a2 a3 a4 a5) := by
 intro a0 a1 a2 a3 a4 a5 k; have ih0 := sawtoothref02_Cmp.mono_l k
 unfold sawtoothref02_Cmp.f
 repeat' first
   | (with_reducible exact ih0 _ _ _ _ _ _ _ _ _)
   | (with_reducible exact LeO.refl _)
   | (with_reducible exact LeO.none _)
   | (with_reducible refine LeO.ite ?_ ?_)
   | (with_reducible refine LeO.bind ?_ (fun _ => ?_))
   | exact ih0 _ _ _ _ _ _ _ _ _
   | exact LeO.none _
   | refine LeO.ite ?_ ?_
   | refine LeO.bind ?_ (fun _ => ?_)
def sawtoothref02_Cmp.T7 : Bool × List (List Nat × List Nat) := (true, [([], []), ([], []), ([0, 1], [0, 1]), ([], []), ([], []), ([3, 4, 2], [3, 4]), ([2, 5], [2, 5]), ([6, 5], [6]), ([7], [7]), ([7], [7]), ([8, 9, 7, 7], [7, 8, 9]), ([7], [7]), ([11, 10, 7], [7, 11]), ([10, 12, 7], [7, 10, 12]), ([7, 13], [7, 13])])
def sawtoothref02_Cmp.B7 : List Nat := [0, 0, 3, 0, 0, 31, 63, 127, 255, 255, 1023, 255, 4095, 8191, 16383]
theorem sawtoothref02_Cmp.tab7 : rtab .any (opsOf Try.f51 7) = sawtoothref02_Cmp.T7 := by kernel_rfl
theorem sawtoothref02_Cmp.bits7 : waitsOk sawtoothref02_Cmp.T7.2 sawtoothref02_Cmp.B7 = true := by kernel_rfl
set_option maxHeartbeats 8000000 in
set_option maxRecDepth 100000 in
theorem sawtoothref02_Cmp.calls (k : Nat) (a0_0 : Bool) (a0_1 : Int) (a0_2 : Int) (a1_0 : Bool) (a1_1 : Int) (a1_2 : Int) (r : Int) (w : World) (h : sawtoothref02_Cmp.f k a0_0 a0_1 a0_2 a1_0 a1_1 a1_2 = some r) :
  Calls Try.prog 51 #[.agg #[.bool a0_0, .int .u64 a0_1, .int .u64 a0_2], .agg #[.bool a1_0, .int .u64 a1_1, .int .u64 a1_2]] w fun e w' => e = .returned (.int .i64 r) ∧ Below w.heap.size w w' := by
 have hu60 := Try.underlying60; have hu69 := Try.underlying69; have HB := Aside0.mk (Below.refl w.heap.size w); have H : ((sawtoothref02_digits.f a0_0 a0_1 a0_2).bind fun bt355 => ((sawtoothref02_digits.f a1_0 a1_1 a1_2).bind fun bt360 => ((sawtoothref02_belowS.f a0_0 a0_1 a0_2).bind fun t365 => ((sawtoothref02_belowS.f a1_0 a1_1 a1_2).bind fun t366 => (if (t365 != t366) = true then ((sawtoothref02_belowS.f a0_0 a0_1 a0_2).bind fun t367 => (if t367 = true then (some (-1)) else (some 1))) else ((sawtoothref02_less.f bt355.1 bt355.2.1 bt355.2.2.1 bt355.2.2.2 bt360.1 bt360.2.1 bt360.2.2.1 bt360.2.2.2).bind fun t368 => ((sawtoothref02_less.f bt360.1 bt360.2.1 bt360.2.2.1 bt360.2.2.2 bt355.1 bt355.2.1 bt355.2.2.1 bt355.2.2.2).bind fun t369 => (if (t368 != t369) = true then ((sawtoothref02_less.f bt355.1 bt355.2.1 bt355.2.2.1 bt355.2.2.2 bt360.1 bt360.2.1 bt360.2.2.1 bt360.2.2.2).bind fun t370 => ((sawtoothref02_belowS.f a0_0 a0_1 a0_2).bind fun t371 => (sawtoothref02_Cmp.j0 k (t370 == t371) bt355.1 bt355.2.1 bt355.2.2.1 bt355.2.2.2 bt360.1 bt360.2.1 bt360.2.2.1 bt360.2.2.2))) else (sawtoothref02_Cmp.j0 k false bt355.1 bt355.2.1 bt355.2.2.1 bt355.2.2.2 bt360.1 bt360.2.1 bt360.2.2.1 bt360.2.2.2))))))))) = some r := h; clear h; replace H := Option.bind_eq_some_iff.mp H; obtain ⟨⟨t355, t356, t357, t358⟩, A30, H⟩ := H; (try dsimp only at H); have A3 := Aside0.mk A30; clear A30; replace H := Option.bind_eq_some_iff.mp H; obtain ⟨⟨t360, t361, t362, t363⟩, A40, H⟩ := H; (try dsimp only at H); have A4 := Aside0.mk A40; clear A40; replace H := Option.bind_eq_some_iff.mp H; obtain ⟨t365, A50, H⟩ := H; (try dsimp only at H); have A5 := Aside0.mk A50; clear A50; replace H := Option.bind_eq_some_iff.mp H; obtain ⟨t366, A60, H⟩ := H; (try dsimp only at H); have A6 := Aside0.mk A60; clear A60
 by_cases c7 : (t365 != t366) = true
 ·rw [if_pos c7] at H
  have c7b0 : (t365 != t366) = true := c7
  (try (have c7b1 : decide (t365 = t366) = false := by simpa using c7))
  (try (have c7b2 : (t365 == t366) = false := by simpa using c7))
  (try (have c7b3 : ¬ (t365 = t366) := by simpa using c7))
  clear c7; replace H := Option.bind_eq_some_iff.mp H; obtain ⟨t367, A80, H⟩ := H; replace H : (if t367 = true then (some (-1)) else (some 1)) = some r := H; have A8 := Aside0.mk A80; clear A80
  by_cases c9 : t367 = true
  ·subst c9
   have H1 : (some (-1)) = some r := by rw [if_pos rfl] at H; exact H
   clear H; have H := H1; clear H1; obtain rfl := Option.some.inj H
   go_enter Try.func51, Try.ntmps51
   try go_wp2_with (first | ((with_reducible refine gate_dst (N := 2) rfl ?_); refine box_event ?hg (N := 2) ?hd (cs := #[.bool a0_0, .int .u64 a0_1, .int .u64 a0_2]) (t := 60) ?hr ?_; (case hd => rfl); (case hg => rfl); (case hr => first | (go_simp; done) | (go_simp; rfl)); intro gb353 hg w10 hbox hb; have BK353 := Aside0.mk (hbox); obtain ⟨GW353, nHB⟩ := geZ (by repeat (first | (with_reducible first | exact HB.out | apply below_alloc | apply pw_below_drewN | apply below_drew1) | exact HB.out)) hg hb; have GE353 := GW353; replace HB := nHB; clear nHB; clear hb hbox hg) | ((with_reducible refine gate_dst (N := 3) rfl ?_); refine box_event ?hg (N := 3) ?hd (cs := #[.bool a1_0, .int .u64 a1_1, .int .u64 a1_2]) (t := 60) ?hr ?_; (case hd => rfl); (case hg => rfl); (case hr => first | (go_simp; done) | (go_simp; rfl)); intro gb354 hg w11 hbox hb; have BK354 := Aside0.mk (hbox); obtain ⟨GW354, nHB⟩ := geZ (by repeat (first | (with_reducible first | exact HB.out | apply below_alloc | apply pw_below_drewN | apply below_drew1 | refine below_set ?_ GE353.out) | exact HB.out)) hg hb; have GE354 := GW354; obtain ⟨NB353_354, NB354_353, nBK⟩ := nbZ BK353 (fun h_ => by (with_reducible repeat first | apply blk_drewN | apply blk_drew | apply blk_alloc); exact h_) hg hb; replace BK353 := nBK; clear nBK; replace HB := nHB; clear nHB; clear hb hbox hg; have hnb12 := NB353_354.out; have hnc12 := NB354_353.out; have hcz13_0 : w11.cell? ⟨gb353, 0, none⟩ = some (.bool a0_0) := (blk_cell BK353.out 0).trans rfl; have hcz13_1 : w11.cell? ⟨gb353, 1, none⟩ = some (.int .u64 a0_1) := (blk_cell BK353.out 1).trans rfl; have hcz13_2 : w11.cell? ⟨gb353, 2, none⟩ = some (.int .u64 a0_2) := (blk_cell BK353.out 2).trans rfl; have hfz13_0 := blk_frozen BK353.out 0; have hfz13_1 := blk_frozen BK353.out 1; have hfz13_2 := blk_frozen BK353.out 2) | ((with_reducible refine gate_callee (f := 57) rfl ?_); refine goesL_ (some 8) rfl rfl Try.func57 (by kernel_rfl) rfl #[.agg #[.bool a0_0, .int .u64 a0_1, .int .u64 a0_2]] rfl (by (try simp only [List.map_toArray, List.map_cons, List.map_nil]); first | done | rfl | (simp only [List.length_drop, List.length_take]; rfl)) ?_; (with_reducible refine (sawtoothref02_digits.calls a0_0 a0_1 a0_2 t355 t356 t357 t358 _ A3.out).mono ?_); rintro e w14 ⟨rfl, hb⟩; refine ⟨_, rfl, ?_⟩; replace BK353 := bfZ BK353 (fun h_ => by (with_reducible repeat first | apply blk_drewN | apply blk_drew | apply blk_alloc); exact h_) hb; replace BK354 := bfZ BK354 (fun h_ => by (with_reducible repeat first | apply blk_drewN | apply blk_drew | apply blk_alloc); exact h_) hb; replace HB := Aside0.mk (below_step (by repeat (first | (with_reducible first | exact HB.out | apply below_alloc | apply pw_below_drewN | apply below_drew1 | refine below_set ?_ (Aside0.out (by assumption))) | exact HB.out)) hb); (try clear hb); (try clear hb2); (try clear hk); (try clear hi)) | ((with_reducible refine gate_dst (N := 5) rfl ?_); refine box_event ?hg (N := 5) ?hd (cs := #[.int .u64 0, .int .u64 0, .int .u64 0, .int .u64 0]) (t := 69) ?hr ?_; (case hd => rfl); (case hg => rfl); (case hr => first | (go_simp; done) | (go_simp; rfl)); intro gb359 hg w15 hbox hb; have BK359 := Aside0.mk (hbox); obtain ⟨GW359, nHB⟩ := geZ (by repeat (first | (with_reducible first | exact HB.out | apply below_alloc | apply pw_below_drewN | apply below_drew1 | refine below_set ?_ (Aside0.out (by assumption))) | exact HB.out)) hg hb; have GE359 := GW359; obtain ⟨NB353_359, NB359_353, nBK⟩ := nbZ BK353 (fun h_ => by (with_reducible repeat first | apply blk_drewN | apply blk_drew | apply blk_alloc); exact h_) hg hb; replace BK353 := nBK; clear nBK; obtain ⟨NB354_359, NB359_354, nBK⟩ := nbZ BK354 (fun h_ => by (with_reducible repeat first | apply blk_drewN | apply blk_drew | apply blk_alloc); exact h_) hg hb; replace BK354 := nBK; clear nBK; replace HB := nHB; clear nHB; clear hb hbox hg; have hnb16 := NB359_353.out; have hnc16 := NB353_359.out; have hnb17 := NB359_354.out; have hnc17 := NB354_359.out; have hcz18_0 : w15.cell? ⟨gb359, 0, none⟩ = some (.int .u64 0) := (blk_cell BK359.out 0).trans rfl; have hcz18_1 : w15.cell? ⟨gb359, 1, none⟩ = some (.int .u64 0) := (blk_cell BK359.out 1).trans rfl; have hcz18_2 : w15.cell? ⟨gb359, 2, none⟩ = some (.int .u64 0) := (blk_cell BK359.out 2).trans rfl; have hcz18_3 : w15.cell? ⟨gb359, 3, none⟩ = some (.int .u64 0) := (blk_cell BK359.out 3).trans rfl; have hfz18_0 := blk_frozen BK359.out 0; have hfz18_1 := blk_frozen BK359.out 1; have hfz18_2 := blk_frozen BK359.out 2; have hfz18_3 := blk_frozen BK359.out 3; have hcz19_0 : w15.cell? ⟨gb354, 0, none⟩ = some (.bool a1_0) := (blk_cell BK354.out 0).trans rfl; have hcz19_1 : w15.cell? ⟨gb354, 1, none⟩ = some (.int .u64 a1_1) := (blk_cell BK354.out 1).trans rfl; have hcz19_2 : w15.cell? ⟨gb354, 2, none⟩ = some (.int .u64 a1_2) := (blk_cell BK354.out 2).trans rfl; have hfz19_0 := blk_frozen BK354.out 0; have hfz19_1 := blk_frozen BK354.out 1; have hfz19_2 := blk_frozen BK354.out 2) | ((with_reducible refine gate_callee (f := 57) rfl ?_); refine goesL_ (some 10) rfl rfl Try.func57 (by kernel_rfl) rfl #[.agg #[.bool a1_0, .int .u64 a1_1, .int .u64 a1_2]] rfl (by (try simp only [List.map_toArray, List.map_cons, List.map_nil]); first | done | rfl | (simp only [List.length_drop, List.length_take]; rfl)) ?_; (with_reducible refine (sawtoothref02_digits.calls a1_0 a1_1 a1_2 t360 t361 t362 t363 _ A4.out).mono ?_); rintro e w20 ⟨rfl, hb⟩; refine ⟨_, rfl, ?_⟩; replace BK353 := bfZ BK353 (fun h_ => by (with_reducible repeat first | apply blk_drewN | apply blk_drew | apply blk_alloc | refine farZ ?_ NB353_359 _); exact h_) hb; replace BK354 := bfZ BK354 (fun h_ => by (with_reducible repeat first | apply blk_drewN | apply blk_drew | apply blk_alloc | refine farZ ?_ NB354_359 _); exact h_) hb; replace BK359 := Aside0.mk (blk_below (g := gb359) (o := .cells #[.int .u64 t355, .int .u64 t356, .int .u64 t357, .int .u64 t358] 69 (0, 0)) (by (with_reducible repeat (first | refine blk_drewN ?_ _ | refine blk_drew ?_ | refine blk_alloc ?_ _)); refine blk_put (cs := #[.int .u64 t355, .int .u64 t356, .int .u64 t357, .int .u64 0]) ?_ 3 _ rfl; (with_reducible repeat (first | refine blk_drewN ?_ _ | refine blk_drew ?_ | refine blk_alloc ?_ _)); refine blk_put (cs := #[.int .u64 t355, .int .u64 t356, .int .u64 0, .int .u64 0]) ?_ 2 _ rfl; (with_reducible repeat (first | refine blk_drewN ?_ _ | refine blk_drew ?_ | refine blk_alloc ?_ _)); refine blk_put (cs := #[.int .u64 t355, .int .u64 0, .int .u64 0, .int .u64 0]) ?_ 1 _ rfl; (with_reducible repeat (first | refine blk_drewN ?_ _ | refine blk_drew ?_ | refine blk_alloc ?_ _)); refine blk_put (cs := #[.int .u64 0, .int .u64 0, .int .u64 0, .int .u64 0]) ?_ 0 _ rfl; (with_reducible repeat (first | refine blk_drewN ?_ _ | refine blk_drew ?_ | refine blk_alloc ?_ _)); exact BK359.out) hb); replace HB := Aside0.mk (below_step (by repeat (first | (with_reducible first | exact HB.out | apply below_alloc | apply pw_below_drewN | apply below_drew1 | refine below_set ?_ (Aside0.out (by assumption))) | exact HB.out)) hb); (try clear hb); (try clear hb2); (try clear hk); (try clear hi)) | ((with_reducible refine gate_dst (N := 6) rfl ?_); refine box_event ?hg (N := 6) ?hd (cs := #[.int .u64 0, .int .u64 0, .int .u64 0, .int .u64 0]) (t := 69) ?hr ?_; (case hd => rfl); (case hg => rfl); (case hr => first | (go_simp; done) | (go_simp; rfl)); intro gb364 hg w21 hbox hb; have BK364 := Aside0.mk (hbox); obtain ⟨GW364, nHB⟩ := geZ (by repeat (first | (with_reducible first | exact HB.out | apply below_alloc | apply pw_below_drewN | apply below_drew1 | refine below_set ?_ (Aside0.out (by assumption))) | exact HB.out)) hg hb; have GE364 := GW364; obtain ⟨NB353_364, NB364_353, nBK⟩ := nbZ BK353 (fun h_ => by (with_reducible repeat first | apply blk_drewN | apply blk_drew | apply blk_alloc); exact h_) hg hb; replace BK353 := nBK; clear nBK; obtain ⟨NB354_364, NB364_354, nBK⟩ := nbZ BK354 (fun h_ => by (with_reducible repeat first | apply blk_drewN | apply blk_drew | apply blk_alloc); exact h_) hg hb; replace BK354 := nBK; clear nBK; obtain ⟨NB359_364, NB364_359, nBK⟩ := nbZ BK359 (fun h_ => by (with_reducible repeat first | apply blk_drewN | apply blk_drew | apply blk_alloc); exact h_) hg hb; replace BK359 := nBK; clear nBK; replace HB := nHB; clear nHB; clear hb hbox hg; have hnb22 := NB364_353.out; have hnc22 := NB353_364.out; have hnb23 := NB364_354.out; have hnc23 := NB354_364.out; have hnb24 := NB364_359.out; have hnc24 := NB359_364.out; have hcz25_0 : w21.cell? ⟨gb364, 0, none⟩ = some (.int .u64 0) := (blk_cell BK364.out 0).trans rfl; have hcz25_1 : w21.cell? ⟨gb364, 1, none⟩ = some (.int .u64 0) := (blk_cell BK364.out 1).trans rfl; have hcz25_2 : w21.cell? ⟨gb364, 2, none⟩ = some (.int .u64 0) := (blk_cell BK364.out 2).trans rfl; have hcz25_3 : w21.cell? ⟨gb364, 3, none⟩ = some (.int .u64 0) := (blk_cell BK364.out 3).trans rfl; have hfz25_0 := blk_frozen BK364.out 0; have hfz25_1 := blk_frozen BK364.out 1; have hfz25_2 := blk_frozen BK364.out 2; have hfz25_3 := blk_frozen BK364.out 3))
   have n0_ : Aside0 (((((w21.setCell ⟨gb364, 0, none⟩ (.int .u64 t360)).setCell ⟨gb364, 1, none⟩ (.int .u64 t361)).setCell ⟨gb364, 2, none⟩ (.int .u64 t362)).setCell ⟨gb364, 3, none⟩ (.int .u64 t363)).heap[gb353]? = some (.cells #[.bool a0_0, .int .u64 a0_1, .int .u64 a0_2] 60 (0, 0))) := ⟨by (with_reducible repeat (first | refine blk_drewN ?_ _ | refine blk_drew ?_ | refine blk_alloc ?_ _)); refine blk_far ?_ NB353_364.out _; (with_reducible repeat (first | refine blk_drewN ?_ _ | refine blk_drew ?_ | refine blk_alloc ?_ _)); refine blk_far ?_ NB353_364.out _; (with_reducible repeat (first | refine blk_drewN ?_ _ | refine blk_drew ?_ | refine blk_alloc ?_ _)); refine blk_far ?_ NB353_364.out _; (with_reducible repeat (first | refine blk_drewN ?_ _ | refine blk_drew ?_ | refine blk_alloc ?_ _)); refine blk_far ?_ NB353_364.out _; (with_reducible repeat (first | refine blk_drewN ?_ _ | refine blk_drew ?_ | refine blk_alloc ?_ _)); exact BK353.out⟩
   have n1_ : Aside0 (((((w21.setCell ⟨gb364, 0, none⟩ (.int .u64 t360)).setCell ⟨gb364, 1, none⟩ (.int .u64 t361)).setCell ⟨gb364, 2, none⟩ (.int .u64 t362)).setCell ⟨gb364, 3, none⟩ (.int .u64 t363)).heap[gb354]? = some (.cells #[.bool a1_0, .int .u64 a1_1, .int .u64 a1_2] 60 (0, 0))) := ⟨by (with_reducible repeat (first | refine blk_drewN ?_ _ | refine blk_drew ?_ | refine blk_alloc ?_ _)); refine blk_far ?_ NB354_364.out _; (with_reducible repeat (first | refine blk_drewN ?_ _ | refine blk_drew ?_ | refine blk_alloc ?_ _)); refine blk_far ?_ NB354_364.out _; (with_reducible repeat (first | refine blk_drewN ?_ _ | refine blk_drew ?_ | refine blk_alloc ?_ _)); refine blk_far ?_ NB354_364.out _; (with_reducible repeat (first | refine blk_drewN ?_ _ | refine blk_drew ?_ | refine blk_alloc ?_ _)); refine blk_far ?_ NB354_364.out _; (with_reducible repeat (first | refine blk_drewN ?_ _ | refine blk_drew ?_ | refine blk_alloc ?_ _)); exact BK354.out⟩
   have n2_ : Aside0 (((((w21.setCell ⟨gb364, 0, none⟩ (.int .u64 t360)).setCell ⟨gb364, 1, none⟩ (.int .u64 t361)).setCell ⟨gb364, 2, none⟩ (.int .u64 t362)).setCell ⟨gb364, 3, none⟩ (.int .u64 t363)).heap[gb359]? = some (.cells #[.int .u64 t355, .int .u64 t356, .int .u64 t357, .int .u64 t358] 69 (0, 0))) := ⟨by (with_reducible repeat (first | refine blk_drewN ?_ _ | refine blk_drew ?_ | refine blk_alloc ?_ _)); refine blk_far ?_ NB359_364.out _; (with_reducible repeat (first | refine blk_drewN ?_ _ | refine blk_drew ?_ | refine blk_alloc ?_ _)); refine blk_far ?_ NB359_364.out _; (with_reducible repeat (first | refine blk_drewN ?_ _ | refine blk_drew ?_ | refine blk_alloc ?_ _)); refine blk_far ?_ NB359_364.out _; (with_reducible repeat (first | refine blk_drewN ?_ _ | refine blk_drew ?_ | refine blk_alloc ?_ _)); refine blk_far ?_ NB359_364.out _; (with_reducible repeat (first | refine blk_drewN ?_ _ | refine blk_drew ?_ | refine blk_alloc ?_ _)); exact BK359.out⟩
   have n3_ : Aside0 (((((w21.setCell ⟨gb364, 0, none⟩ (.int .u64 t360)).setCell ⟨gb364, 1, none⟩ (.int .u64 t361)).setCell ⟨gb364, 2, none⟩ (.int .u64 t362)).setCell ⟨gb364, 3, none⟩ (.int .u64 t363)).heap[gb364]? = some (.cells #[.int .u64 t360, .int .u64 t361, .int .u64 t362, .int .u64 t363] 69 (0, 0))) := ⟨by (with_reducible repeat (first | refine blk_drewN ?_ _ | refine blk_drew ?_ | refine blk_alloc ?_ _)); refine blk_put (cs := #[.int .u64 t360, .int .u64 t361, .int .u64 t362, .int .u64 0]) ?_ 3 _ rfl; (with_reducible repeat (first | refine blk_drewN ?_ _ | refine blk_drew ?_ | refine blk_alloc ?_ _)); refine blk_put (cs := #[.int .u64 t360, .int .u64 t361, .int .u64 0, .int .u64 0]) ?_ 2 _ rfl; (with_reducible repeat (first | refine blk_drewN ?_ _ | refine blk_drew ?_ | refine blk_alloc ?_ _)); refine blk_put (cs := #[.int .u64 t360, .int .u64 0, .int .u64 0, .int .u64 0]) ?_ 1 _ rfl; (with_reducible repeat (first | refine blk_drewN ?_ _ | refine blk_drew ?_ | refine blk_alloc ?_ _)); refine blk_put (cs := #[.int .u64 0, .int .u64 0, .int .u64 0, .int .u64 0]) ?_ 0 _ rfl; (with_reducible repeat (first | refine blk_drewN ?_ _ | refine blk_drew ?_ | refine blk_alloc ?_ _)); exact BK364.out⟩
   have n4_ : Aside0 (Below w.heap.size w ((((w21.setCell ⟨gb364, 0, none⟩ (.int .u64 t360)).setCell ⟨gb364, 1, none⟩ (.int .u64 t361)).setCell ⟨gb364, 2, none⟩ (.int .u64 t362)).setCell ⟨gb364, 3, none⟩ (.int .u64 t363))) := ⟨by repeat (first | (with_reducible first | exact HB.out | apply below_alloc | apply pw_below_drewN | apply below_drew1 | refine below_set ?_ (Aside0.out (by assumption))) | exact HB.out)⟩
   (try clear BK353); (try clear BK354); (try clear BK359); (try clear BK364); (try clear HB)
   generalize ((((w21.setCell ⟨gb364, 0, none⟩ (.int .u64 t360)).setCell ⟨gb364, 1, none⟩ (.int .u64 t361)).setCell ⟨gb364, 2, none⟩ (.int .u64 t362)).setCell ⟨gb364, 3, none⟩ (.int .u64 t363)) = w26 at n0_ n1_ n2_ n3_ n4_ ⊢
   have BK353 := n0_; have BK354 := n1_; have BK359 := n2_; have BK364 := n3_; have HB := n4_; clear n0_ n1_ n2_ n3_ n4_; replace BK353 := Aside0.mk (blk_drew BK353.out); replace BK354 := Aside0.mk (blk_drew BK354.out); replace BK359 := Aside0.mk (blk_drew BK359.out); replace BK364 := Aside0.mk (blk_drew BK364.out); replace HB := Aside0.mk (below_drew1 HB.out); refine start_ (n := 5) (S := fun w' => w'.cell? ⟨gb353, 0, none⟩ = some (.bool a0_0) ∧ w'.cell? ⟨gb353, 1, none⟩ = some (.int .u64 a0_1) ∧ w'.cell? ⟨gb353, 2, none⟩ = some (.int .u64 a0_2) ∧ w'.cell? ⟨gb354, 0, none⟩ = some (.bool a1_0) ∧ w'.cell? ⟨gb354, 1, none⟩ = some (.int .u64 a1_1) ∧ w'.cell? ⟨gb354, 2, none⟩ = some (.int .u64 a1_2)) (ds := []) #[N,N,N,N,N] (by kernel_rfl) rfl rfl ⟨(blk_cell BK353.out 0).trans rfl, (blk_cell BK353.out 1).trans rfl, (blk_cell BK353.out 2).trans rfl, (blk_cell BK354.out 0).trans rfl, (blk_cell BK354.out 1).trans rfl, (blk_cell BK354.out 2).trans rfl⟩ (fun hHeld => ?_)
   generalize w26.drew = w27 at BK353 BK354 BK359 BK364 HB hHeld ⊢
   refine take_ (i := 0) (N := some 11) (v := ?_) (a' := ?_) #[Y,N,N,N,N] rfl rfl (by kernel_rfl) (fun _ _ _ h => h) (Or.inl ⟨by rfl, ?_⟩) hHeld ?_ ?_; rotate_left
   ·rintro w' ⟨s0, s1, s2, s3, s4, s5⟩; go_simp
    with_reducible rfl
   rotate_left
   ·simp only [Act.put, sA, sB, sC, i64_w, i32_w]
    rfl
   refine take_ (i := 2) (N := some 13) (v := ?_) (a' := ?_) #[Y,N,Y,N,N] rfl rfl (by kernel_rfl) (fun _ _ _ h => h) (Or.inl ⟨by rfl, ?_⟩) hHeld ?_ ?_; rotate_left
   ·rintro w' ⟨s0, s1, s2, s3, s4, s5⟩; go_simp
    with_reducible rfl
   rotate_left
   ·simp only [Act.put, sA, sB, sC, i64_w, i32_w]
    rfl
   refine one_ (i := 1) (N := some 12) #[Y,Y,Y,N,N] rfl rfl (by kernel_rfl) (by decide) (fun K hK => ?_); refine goes_ Try.func65 (by kernel_rfl) rfl #[.agg #[.bool a0_0, .int .u64 a0_1, .int .u64 a0_2]] (by rfl) rfl rfl (by (try simp only [List.map_toArray, List.map_cons, List.map_nil]); first | done | rfl | (simp only [List.length_drop, List.length_take]; rfl)) ?_
   with_reducible refine (sawtoothref02_belowS.calls a0_0 a0_1 a0_2 t365 _ A5.out).mono ?_
   rintro e w28 ⟨rfl, hb⟩; refine ⟨_, rfl, ?_⟩; replace BK353 := bbZ BK353 hb; replace BK354 := bbZ BK354 hb; replace BK359 := bbZ BK359 hb; replace BK364 := bbZ BK364 hb; replace HB := Aside0.mk (below_step HB.out hb); (try clear hb); (try clear hb2); (try clear hk); (try clear hi); refine hK.out _ _ ⟨(blk_cell BK353.out 0).trans rfl, (blk_cell BK353.out 1).trans rfl, (blk_cell BK353.out 2).trans rfl, (blk_cell BK354.out 0).trans rfl, (blk_cell BK354.out 1).trans rfl, (blk_cell BK354.out 2).trans rfl⟩ (fun hHeld => ?_); clear hK K; refine norm_ (a' := ?_) ?_ ?_; rotate_left
   ·show Act.put _ (some 12) _ = _
    simp only [Act.put, sA, sB, sC, i64_w, i32_w]
    rfl
   refine one_ (i := 3) (N := some 14) #[Y,Y,Y,Y,N] rfl rfl (by kernel_rfl) (by decide) (fun K hK => ?_); refine goes_ Try.func65 (by kernel_rfl) rfl #[.agg #[.bool a1_0, .int .u64 a1_1, .int .u64 a1_2]] (by rfl) rfl rfl (by (try simp only [List.map_toArray, List.map_cons, List.map_nil]); first | done | rfl | (simp only [List.length_drop, List.length_take]; rfl)) ?_
   with_reducible refine (sawtoothref02_belowS.calls a1_0 a1_1 a1_2 t366 _ A6.out).mono ?_
   rintro e w29 ⟨rfl, hb⟩; refine ⟨_, rfl, ?_⟩; replace BK353 := bbZ BK353 hb; replace BK354 := bbZ BK354 hb; replace BK359 := bbZ BK359 hb; replace BK364 := bbZ BK364 hb; replace HB := Aside0.mk (below_step HB.out hb); (try clear hb); (try clear hb2); (try clear hk); (try clear hi); refine hK.out _ _ ⟨(blk_cell BK353.out 0).trans rfl, (blk_cell BK353.out 1).trans rfl, (blk_cell BK353.out 2).trans rfl, (blk_cell BK354.out 0).trans rfl, (blk_cell BK354.out 1).trans rfl, (blk_cell BK354.out 2).trans rfl⟩ (fun hHeld => ?_); clear hK K; refine norm_ (a' := ?_) ?_ ?_; rotate_left
   ·show Act.put _ (some 14) _ = _
    simp only [Act.put, sA, sB, sC, i64_w, i32_w]
    rfl
   refine pure_ (i := 4) (N := some 15) (v := ?_) (a' := ?_) #[Y,Y,Y,Y,Y] rfl rfl (by kernel_rfl) (fun _ _ _ h => h) (Or.inl ⟨by rfl, ?_⟩) ?_ ?_; rotate_left
   ·intro w'; go_simp
    with_reducible rfl
   rotate_left
   ·simp only [Act.put, sA, sB, sC, i64_w, i32_w]
    rfl
   refine done_ (by kernel_rfl) ?_; have hcz30_0 : w29.cell? ⟨gb353, 0, none⟩ = some (.bool a0_0) := (blk_cell BK353.out 0).trans rfl; have hcz30_1 : w29.cell? ⟨gb353, 1, none⟩ = some (.int .u64 a0_1) := (blk_cell BK353.out 1).trans rfl; have hcz30_2 : w29.cell? ⟨gb353, 2, none⟩ = some (.int .u64 a0_2) := (blk_cell BK353.out 2).trans rfl; have hfz30_0 := blk_frozen BK353.out 0; have hfz30_1 := blk_frozen BK353.out 1; have hfz30_2 := blk_frozen BK353.out 2
   try go_wp2_with (first | ((with_reducible refine gate_callee (f := 65) rfl ?_); refine goesL_ (some 17) rfl rfl Try.func65 (by kernel_rfl) rfl #[.agg #[.bool a0_0, .int .u64 a0_1, .int .u64 a0_2]] rfl (by (try simp only [List.map_toArray, List.map_cons, List.map_nil]); first | done | rfl | (simp only [List.length_drop, List.length_take]; rfl)) ?_; (with_reducible refine (sawtoothref02_belowS.calls a0_0 a0_1 a0_2 true _ A8.out).mono ?_); rintro e w31 ⟨rfl, hb⟩; refine ⟨_, rfl, ?_⟩; replace BK353 := bfZ BK353 (fun h_ => by (with_reducible repeat first | apply blk_drewN | apply blk_drew | apply blk_alloc); exact h_) hb; replace BK354 := bfZ BK354 (fun h_ => by (with_reducible repeat first | apply blk_drewN | apply blk_drew | apply blk_alloc); exact h_) hb; replace BK359 := bfZ BK359 (fun h_ => by (with_reducible repeat first | apply blk_drewN | apply blk_drew | apply blk_alloc); exact h_) hb; replace BK364 := bfZ BK364 (fun h_ => by (with_reducible repeat first | apply blk_drewN | apply blk_drew | apply blk_alloc); exact h_) hb; replace HB := Aside0.mk (below_step (by repeat (first | (with_reducible first | exact HB.out | apply below_alloc | apply pw_below_drewN | apply below_drew1 | refine below_set ?_ (Aside0.out (by assumption))) | exact HB.out)) hb); (try clear hb); (try clear hb2); (try clear hk); (try clear hi)))
   go_ret
   exact ⟨by first | rfl | (simp [errW_none, errW_some] <;> rfl) | (simp [*, errW_none, errW_some] <;> rfl), by repeat (first | (with_reducible first | exact HB.out | apply below_alloc | apply pw_below_drewN | apply below_drew1 | refine below_set ?_ (Aside0.out (by assumption))) | exact HB.out)⟩
  ·replace c9 := Bool.eq_false_iff.mpr c9
   subst c9
   have H1 : (some 1) = some r := by rw [if_neg (show ¬ (false = true) by decide)] at H; exact H
   clear H; have H := H1; clear H1; obtain rfl := Option.some.inj H
   go_enter Try.func51, Try.ntmps51
   try go_wp2_with (first | ((with_reducible refine gate_dst (N := 2) rfl ?_); refine box_event ?hg (N := 2) ?hd (cs := #[.bool a0_0, .int .u64 a0_1, .int .u64 a0_2]) (t := 60) ?hr ?_; (case hd => rfl); (case hg => rfl); (case hr => first | (go_simp; done) | (go_simp; rfl)); intro gb353 hg w32 hbox hb; have BK353 := Aside0.mk (hbox); obtain ⟨GW353, nHB⟩ := geZ (by repeat (first | (with_reducible first | exact HB.out | apply below_alloc | apply pw_below_drewN | apply below_drew1) | exact HB.out)) hg hb; have GE353 := GW353; replace HB := nHB; clear nHB; clear hb hbox hg) | ((with_reducible refine gate_dst (N := 3) rfl ?_); refine box_event ?hg (N := 3) ?hd (cs := #[.bool a1_0, .int .u64 a1_1, .int .u64 a1_2]) (t := 60) ?hr ?_; (case hd => rfl); (case hg => rfl); (case hr => first | (go_simp; done) | (go_simp; rfl)); intro gb354 hg w33 hbox hb; have BK354 := Aside0.mk (hbox); obtain ⟨GW354, nHB⟩ := geZ (by repeat (first | (with_reducible first | exact HB.out | apply below_alloc | apply pw_below_drewN | apply below_drew1 | refine below_set ?_ GE353.out) | exact HB.out)) hg hb; have GE354 := GW354; obtain ⟨NB353_354, NB354_353, nBK⟩ := nbZ BK353 (fun h_ => by (with_reducible repeat first | apply blk_drewN | apply blk_drew | apply blk_alloc); exact h_) hg hb; replace BK353 := nBK; clear nBK; replace HB := nHB; clear nHB; clear hb hbox hg; have hnb34 := NB353_354.out; have hnc34 := NB354_353.out; have hcz35_0 : w33.cell? ⟨gb353, 0, none⟩ = some (.bool a0_0) := (blk_cell BK353.out 0).trans rfl; have hcz35_1 : w33.cell? ⟨gb353, 1, none⟩ = some (.int .u64 a0_1) := (blk_cell BK353.out 1).trans rfl; have hcz35_2 : w33.cell? ⟨gb353, 2, none⟩ = some (.int .u64 a0_2) := (blk_cell BK353.out 2).trans rfl; have hfz35_0 := blk_frozen BK353.out 0; have hfz35_1 := blk_frozen BK353.out 1; have hfz35_2 := blk_frozen BK353.out 2) | ((with_reducible refine gate_callee (f := 57) rfl ?_); refine goesL_ (some 8) rfl rfl Try.func57 (by kernel_rfl) rfl #[.agg #[.bool a0_0, .int .u64 a0_1, .int .u64 a0_2]] rfl (by (try simp only [List.map_toArray, List.map_cons, List.map_nil]); first | done | rfl | (simp only [List.length_drop, List.length_take]; rfl)) ?_; (with_reducible refine (sawtoothref02_digits.calls a0_0 a0_1 a0_2 t355 t356 t357 t358 _ A3.out).mono ?_); rintro e w36 ⟨rfl, hb⟩; refine ⟨_, rfl, ?_⟩; replace BK353 := bfZ BK353 (fun h_ => by (with_reducible repeat first | apply blk_drewN | apply blk_drew | apply blk_alloc); exact h_) hb; replace BK354 := bfZ BK354 (fun h_ => by (with_reducible repeat first | apply blk_drewN | apply blk_drew | apply blk_alloc); exact h_) hb; replace HB := Aside0.mk (below_step (by repeat (first | (with_reducible first | exact HB.out | apply below_alloc | apply pw_below_drewN | apply below_drew1 | refine below_set ?_ (Aside0.out (by assumption))) | exact HB.out)) hb); (try clear hb); (try clear hb2); (try clear hk); (try clear hi)) | ((with_reducible refine gate_dst (N := 5) rfl ?_); refine box_event ?hg (N := 5) ?hd (cs := #[.int .u64 0, .int .u64 0, .int .u64 0, .int .u64 0]) (t := 69) ?hr ?_; (case hd => rfl); (case hg => rfl); (case hr => first | (go_simp; done) | (go_simp; rfl)); intro gb359 hg w37 hbox hb; have BK359 := Aside0.mk (hbox); obtain ⟨GW359, nHB⟩ := geZ (by repeat (first | (with_reducible first | exact HB.out | apply below_alloc | apply pw_below_drewN | apply below_drew1 | refine below_set ?_ (Aside0.out (by assumption))) | exact HB.out)) hg hb; have GE359 := GW359; obtain ⟨NB353_359, NB359_353, nBK⟩ := nbZ BK353 (fun h_ => by (with_reducible repeat first | apply blk_drewN | apply blk_drew | apply blk_alloc); exact h_) hg hb; replace BK353 := nBK; clear nBK; obtain ⟨NB354_359, NB359_354, nBK⟩ := nbZ BK354 (fun h_ => by (with_reducible repeat first | apply blk_drewN | apply blk_drew | apply blk_alloc); exact h_) hg hb; replace BK354 := nBK; clear nBK; replace HB := nHB; clear nHB; clear hb hbox hg; have hnb38 := NB359_353.out; have hnc38 := NB353_359.out; have hnb39 := NB359_354.out; have hnc39 := NB354_359.out; have hcz40_0 : w37.cell? ⟨gb359, 0, none⟩ = some (.int .u64 0) := (blk_cell BK359.out 0).trans rfl; have hcz40_1 : w37.cell? ⟨gb359, 1, none⟩ = some (.int .u64 0) := (blk_cell BK359.out 1).trans rfl; have hcz40_2 : w37.cell? ⟨gb359, 2, none⟩ = some (.int .u64 0) := (blk_cell BK359.out 2).trans rfl; have hcz40_3 : w37.cell? ⟨gb359, 3, none⟩ = some (.int .u64 0) := (blk_cell BK359.out 3).trans rfl; have hfz40_0 := blk_frozen BK359.out 0; have hfz40_1 := blk_frozen BK359.out 1; have hfz40_2 := blk_frozen BK359.out 2; have hfz40_3 := blk_frozen BK359.out 3; have hcz41_0 : w37.cell? ⟨gb354, 0, none⟩ = some (.bool a1_0) := (blk_cell BK354.out 0).trans rfl; have hcz41_1 : w37.cell? ⟨gb354, 1, none⟩ = some (.int .u64 a1_1) := (blk_cell BK354.out 1).trans rfl; have hcz41_2 : w37.cell? ⟨gb354, 2, none⟩ = some (.int .u64 a1_2) := (blk_cell BK354.out 2).trans rfl; have hfz41_0 := blk_frozen BK354.out 0; have hfz41_1 := blk_frozen BK354.out 1; have hfz41_2 := blk_frozen BK354.out 2) | ((with_reducible refine gate_callee (f := 57) rfl ?_); refine goesL_ (some 10) rfl rfl Try.func57 (by kernel_rfl) rfl #[.agg #[.bool a1_0, .int .u64 a1_1, .int .u64 a1_2]] rfl (by (try simp only [List.map_toArray, List.map_cons, List.map_nil]); first | done | rfl | (simp only [List.length_drop, List.length_take]; rfl)) ?_; (with_reducible refine (sawtoothref02_digits.calls a1_0 a1_1 a1_2 t360 t361 t362 t363 _ A4.out).mono ?_); rintro e w42 ⟨rfl, hb⟩; refine ⟨_, rfl, ?_⟩; replace BK353 := bfZ BK353 (fun h_ => by (with_reducible repeat first | apply blk_drewN | apply blk_drew | apply blk_alloc | refine farZ ?_ NB353_359 _); exact h_) hb; replace BK354 := bfZ BK354 (fun h_ => by (with_reducible repeat first | apply blk_drewN | apply blk_drew | apply blk_alloc | refine farZ ?_ NB354_359 _); exact h_) hb; replace BK359 := Aside0.mk (blk_below (g := gb359) (o := .cells #[.int .u64 t355, .int .u64 t356, .int .u64 t357, .int .u64 t358] 69 (0, 0)) (by (with_reducible repeat (first | refine blk_drewN ?_ _ | refine blk_drew ?_ | refine blk_alloc ?_ _)); refine blk_put (cs := #[.int .u64 t355, .int .u64 t356, .int .u64 t357, .int .u64 0]) ?_ 3 _ rfl; (with_reducible repeat (first | refine blk_drewN ?_ _ | refine blk_drew ?_ | refine blk_alloc ?_ _)); refine blk_put (cs := #[.int .u64 t355, .int .u64 t356, .int .u64 0, .int .u64 0]) ?_ 2 _ rfl; (with_reducible repeat (first | refine blk_drewN ?_ _ | refine blk_drew ?_ | refine blk_alloc ?_ _)); refine blk_put (cs := #[.int .u64 t355, .int .u64 0, .int .u64 0, .int .u64 0]) ?_ 1 _ rfl; (with_reducible repeat (first | refine blk_drewN ?_ _ | refine blk_drew ?_ | refine blk_alloc ?_ _)); refine blk_put (cs := #[.int .u64 0, .int .u64 0, .int .u64 0, .int .u64 0]) ?_ 0 _ rfl; (with_reducible repeat (first | refine blk_drewN ?_ _ | refine blk_drew ?_ | refine blk_alloc ?_ _)); exact BK359.out) hb); replace HB := Aside0.mk (below_step (by repeat (first | (with_reducible first | exact HB.out | apply below_alloc | apply pw_below_drewN | apply below_drew1 | refine below_set ?_ (Aside0.out (by assumption))) | exact HB.out)) hb); (try clear hb); (try clear hb2); (try clear hk); (try clear hi)) | ((with_reducible refine gate_dst (N := 6) rfl ?_); refine box_event ?hg (N := 6) ?hd (cs := #[.int .u64 0, .int .u64 0, .int .u64 0, .int .u64 0]) (t := 69) ?hr ?_; (case hd => rfl); (case hg => rfl); (case hr => first | (go_simp; done) | (go_simp; rfl)); intro gb364 hg w43 hbox hb; have BK364 := Aside0.mk (hbox); obtain ⟨GW364, nHB⟩ := geZ (by repeat (first | (with_reducible first | exact HB.out | apply below_alloc | apply pw_below_drewN | apply below_drew1 | refine below_set ?_ (Aside0.out (by assumption))) | exact HB.out)) hg hb; have GE364 := GW364; obtain ⟨NB353_364, NB364_353, nBK⟩ := nbZ BK353 (fun h_ => by (with_reducible repeat first | apply blk_drewN | apply blk_drew | apply blk_alloc); exact h_) hg hb; replace BK353 := nBK; clear nBK; obtain ⟨NB354_364, NB364_354, nBK⟩ := nbZ BK354 (fun h_ => by (with_reducible repeat first | apply blk_drewN | apply blk_drew | apply blk_alloc); exact h_) hg hb; replace BK354 := nBK; clear nBK; obtain ⟨NB359_364, NB364_359, nBK⟩ := nbZ BK359 (fun h_ => by (with_reducible repeat first | apply blk_drewN | apply blk_drew | apply blk_alloc); exact h_) hg hb; replace BK359 := nBK; clear nBK; replace HB := nHB; clear nHB; clear hb hbox hg; have hnb44 := NB364_353.out; have hnc44 := NB353_364.out; have hnb45 := NB364_354.out; have hnc45 := NB354_364.out; have hnb46 := NB364_359.out; have hnc46 := NB359_364.out; have hcz47_0 : w43.cell? ⟨gb364, 0, none⟩ = some (.int .u64 0) := (blk_cell BK364.out 0).trans rfl; have hcz47_1 : w43.cell? ⟨gb364, 1, none⟩ = some (.int .u64 0) := (blk_cell BK364.out 1).trans rfl; have hcz47_2 : w43.cell? ⟨gb364, 2, none⟩ = some (.int .u64 0) := (blk_cell BK364.out 2).trans rfl; have hcz47_3 : w43.cell? ⟨gb364, 3, none⟩ = some (.int .u64 0) := (blk_cell BK364.out 3).trans rfl; have hfz47_0 := blk_frozen BK364.out 0; have hfz47_1 := blk_frozen BK364.out 1; have hfz47_2 := blk_frozen BK364.out 2; have hfz47_3 := blk_frozen BK364.out 3))
   have n0_ : Aside0 (((((w43.setCell ⟨gb364, 0, none⟩ (.int .u64 t360)).setCell ⟨gb364, 1, none⟩ (.int .u64 t361)).setCell ⟨gb364, 2, none⟩ (.int .u64 t362)).setCell ⟨gb364, 3, none⟩ (.int .u64 t363)).heap[gb353]? = some (.cells #[.bool a0_0, .int .u64 a0_1, .int .u64 a0_2] 60 (0, 0))) := ⟨by (with_reducible repeat (first | refine blk_drewN ?_ _ | refine blk_drew ?_ | refine blk_alloc ?_ _)); refine blk_far ?_ NB353_364.out _; (with_reducible repeat (first | refine blk_drewN ?_ _ | refine blk_drew ?_ | refine blk_alloc ?_ _)); refine blk_far ?_ NB353_364.out _; (with_reducible repeat (first | refine blk_drewN ?_ _ | refine blk_drew ?_ | refine blk_alloc ?_ _)); refine blk_far ?_ NB353_364.out _; (with_reducible repeat (first | refine blk_drewN ?_ _ | refine blk_drew ?_ | refine blk_alloc ?_ _)); refine blk_far ?_ NB353_364.out _; (with_reducible repeat (first | refine blk_drewN ?_ _ | refine blk_drew ?_ | refine blk_alloc ?_ _)); exact BK353.out⟩
   have n1_ : Aside0 (((((w43.setCell ⟨gb364, 0, none⟩ (.int .u64 t360)).setCell ⟨gb364, 1, none⟩ (.int .u64 t361)).setCell ⟨gb364, 2, none⟩ (.int .u64 t362)).setCell ⟨gb364, 3, none⟩ (.int .u64 t363)).heap[gb354]? = some (.cells #[.bool a1_0, .int .u64 a1_1, .int .u64 a1_2] 60 (0, 0))) := ⟨by (with_reducible repeat (first | refine blk_drewN ?_ _ | refine blk_drew ?_ | refine blk_alloc ?_ _)); refine blk_far ?_ NB354_364.out _; (with_reducible repeat (first | refine blk_drewN ?_ _ | refine blk_drew ?_ | refine blk_alloc ?_ _)); refine blk_far ?_ NB354_364.out _; (with_reducible repeat (first | refine blk_drewN ?_ _ | refine blk_drew ?_ | refine blk_alloc ?_ _)); refine blk_far ?_ NB354_364.out _; (with_reducible repeat (first | refine blk_drewN ?_ _ | refine blk_drew ?_ | refine blk_alloc ?_ _)); refine blk_far ?_ NB354_364.out _; (with_reducible repeat (first | refine blk_drewN ?_ _ | refine blk_drew ?_ | refine blk_alloc ?_ _)); exact BK354.out⟩
   have n2_ : Aside0 (((((w43.setCell ⟨gb364, 0, none⟩ (.int .u64 t360)).setCell ⟨gb364, 1, none⟩ (.int .u64 t361)).setCell ⟨gb364, 2, none⟩ (.int .u64 t362)).setCell ⟨gb364, 3, none⟩ (.int .u64 t363)).heap[gb359]? = some (.cells #[.int .u64 t355, .int .u64 t356, .int .u64 t357, .int .u64 t358] 69 (0, 0))) := ⟨by (with_reducible repeat (first | refine blk_drewN ?_ _ | refine blk_drew ?_ | refine blk_alloc ?_ _)); refine blk_far ?_ NB359_364.out _; (with_reducible repeat (first | refine blk_drewN ?_ _ | refine blk_drew ?_ | refine blk_alloc ?_ _)); refine blk_far ?_ NB359_364.out _; (with_reducible repeat (first | refine blk_drewN ?_ _ | refine blk_drew ?_ | refine blk_alloc ?_ _)); refine blk_far ?_ NB359_364.out _; (with_reducible repeat (first | refine blk_drewN ?_ _ | refine blk_drew ?_ | refine blk_alloc ?_ _)); refine blk_far ?_ NB359_364.out _; (with_reducible repeat (first | refine blk_drewN ?_ _ | refine blk_drew ?_ | refine blk_alloc ?_ _)); exact BK359.out⟩
   have n3_ : Aside0 (((((w43.setCell ⟨gb364, 0, none⟩ (.int .u64 t360)).setCell ⟨gb364, 1, none⟩ (.int .u64 t361)).setCell ⟨gb364, 2, none⟩ (.int .u64 t362)).setCell ⟨gb364, 3, none⟩ (.int .u64 t363)).heap[gb364]? = some (.cells #[.int .u64 t360, .int .u64 t361, .int .u64 t362, .int .u64 t363] 69 (0, 0))) := ⟨by (with_reducible repeat (first | refine blk_drewN ?_ _ | refine blk_drew ?_ | refine blk_alloc ?_ _)); refine blk_put (cs := #[.int .u64 t360, .int .u64 t361, .int .u64 t362, .int .u64 0]) ?_ 3 _ rfl; (with_reducible repeat (first | refine blk_drewN ?_ _ | refine blk_drew ?_ | refine blk_alloc ?_ _)); refine blk_put (cs := #[.int .u64 t360, .int .u64 t361, .int .u64 0, .int .u64 0]) ?_ 2 _ rfl; (with_reducible repeat (first | refine blk_drewN ?_ _ | refine blk_drew ?_ | refine blk_alloc ?_ _)); refine blk_put (cs := #[.int .u64 t360, .int .u64 0, .int .u64 0, .int .u64 0]) ?_ 1 _ rfl; (with_reducible repeat (first | refine blk_drewN ?_ _ | refine blk_drew ?_ | refine blk_alloc ?_ _)); refine blk_put (cs := #[.int .u64 0, .int .u64 0, .int .u64 0, .int .u64 0]) ?_ 0 _ rfl; (with_reducible repeat (first | refine blk_drewN ?_ _ | refine blk_drew ?_ | refine blk_alloc ?_ _)); exact BK364.out⟩
   have n4_ : Aside0 (Below w.heap.size w ((((w43.setCell ⟨gb364, 0, none⟩ (.int .u64 t360)).setCell ⟨gb364, 1, none⟩ (.int .u64 t361)).setCell ⟨gb364, 2, none⟩ (.int .u64 t362)).setCell ⟨gb364, 3, none⟩ (.int .u64 t363))) := ⟨by repeat (first | (with_reducible first | exact HB.out | apply below_alloc | apply pw_below_drewN | apply below_drew1 | refine below_set ?_ (Aside0.out (by assumption))) | exact HB.out)⟩
   (try clear BK353); (try clear BK354); (try clear BK359); (try clear BK364); (try clear HB)
   generalize ((((w43.setCell ⟨gb364, 0, none⟩ (.int .u64 t360)).setCell ⟨gb364, 1, none⟩ (.int .u64 t361)).setCell ⟨gb364, 2, none⟩ (.int .u64 t362)).setCell ⟨gb364, 3, none⟩ (.int .u64 t363)) = w48 at n0_ n1_ n2_ n3_ n4_ ⊢
   have BK353 := n0_; have BK354 := n1_; have BK359 := n2_; have BK364 := n3_; have HB := n4_; clear n0_ n1_ n2_ n3_ n4_; replace BK353 := Aside0.mk (blk_drew BK353.out); replace BK354 := Aside0.mk (blk_drew BK354.out); replace BK359 := Aside0.mk (blk_drew BK359.out); replace BK364 := Aside0.mk (blk_drew BK364.out); replace HB := Aside0.mk (below_drew1 HB.out); refine start_ (n := 5) (S := fun w' => w'.cell? ⟨gb353, 0, none⟩ = some (.bool a0_0) ∧ w'.cell? ⟨gb353, 1, none⟩ = some (.int .u64 a0_1) ∧ w'.cell? ⟨gb353, 2, none⟩ = some (.int .u64 a0_2) ∧ w'.cell? ⟨gb354, 0, none⟩ = some (.bool a1_0) ∧ w'.cell? ⟨gb354, 1, none⟩ = some (.int .u64 a1_1) ∧ w'.cell? ⟨gb354, 2, none⟩ = some (.int .u64 a1_2)) (ds := []) #[N,N,N,N,N] (by kernel_rfl) rfl rfl ⟨(blk_cell BK353.out 0).trans rfl, (blk_cell BK353.out 1).trans rfl, (blk_cell BK353.out 2).trans rfl, (blk_cell BK354.out 0).trans rfl, (blk_cell BK354.out 1).trans rfl, (blk_cell BK354.out 2).trans rfl⟩ (fun hHeld => ?_)
   generalize w48.drew = w49 at BK353 BK354 BK359 BK364 HB hHeld ⊢
   refine take_ (i := 0) (N := some 11) (v := ?_) (a' := ?_) #[Y,N,N,N,N] rfl rfl (by kernel_rfl) (fun _ _ _ h => h) (Or.inl ⟨by rfl, ?_⟩) hHeld ?_ ?_; rotate_left
   ·rintro w' ⟨s0, s1, s2, s3, s4, s5⟩; go_simp
    with_reducible rfl
   rotate_left
   ·simp only [Act.put, sA, sB, sC, i64_w, i32_w]
    rfl
   refine take_ (i := 2) (N := some 13) (v := ?_) (a' := ?_) #[Y,N,Y,N,N] rfl rfl (by kernel_rfl) (fun _ _ _ h => h) (Or.inl ⟨by rfl, ?_⟩) hHeld ?_ ?_; rotate_left
   ·rintro w' ⟨s0, s1, s2, s3, s4, s5⟩; go_simp
    with_reducible rfl
   rotate_left
   ·simp only [Act.put, sA, sB, sC, i64_w, i32_w]
    rfl
   refine one_ (i := 1) (N := some 12) #[Y,Y,Y,N,N] rfl rfl (by kernel_rfl) (by decide) (fun K hK => ?_); refine goes_ Try.func65 (by kernel_rfl) rfl #[.agg #[.bool a0_0, .int .u64 a0_1, .int .u64 a0_2]] (by rfl) rfl rfl (by (try simp only [List.map_toArray, List.map_cons, List.map_nil]); first | done | rfl | (simp only [List.length_drop, List.length_take]; rfl)) ?_
   with_reducible refine (sawtoothref02_belowS.calls a0_0 a0_1 a0_2 t365 _ A5.out).mono ?_
   rintro e w50 ⟨rfl, hb⟩; refine ⟨_, rfl, ?_⟩; replace BK353 := bbZ BK353 hb; replace BK354 := bbZ BK354 hb; replace BK359 := bbZ BK359 hb; replace BK364 := bbZ BK364 hb; replace HB := Aside0.mk (below_step HB.out hb); (try clear hb); (try clear hb2); (try clear hk); (try clear hi); refine hK.out _ _ ⟨(blk_cell BK353.out 0).trans rfl, (blk_cell BK353.out 1).trans rfl, (blk_cell BK353.out 2).trans rfl, (blk_cell BK354.out 0).trans rfl, (blk_cell BK354.out 1).trans rfl, (blk_cell BK354.out 2).trans rfl⟩ (fun hHeld => ?_); clear hK K; refine norm_ (a' := ?_) ?_ ?_; rotate_left
   ·show Act.put _ (some 12) _ = _
    simp only [Act.put, sA, sB, sC, i64_w, i32_w]
    rfl
   refine one_ (i := 3) (N := some 14) #[Y,Y,Y,Y,N] rfl rfl (by kernel_rfl) (by decide) (fun K hK => ?_); refine goes_ Try.func65 (by kernel_rfl) rfl #[.agg #[.bool a1_0, .int .u64 a1_1, .int .u64 a1_2]] (by rfl) rfl rfl (by (try simp only [List.map_toArray, List.map_cons, List.map_nil]); first | done | rfl | (simp only [List.length_drop, List.length_take]; rfl)) ?_
   with_reducible refine (sawtoothref02_belowS.calls a1_0 a1_1 a1_2 t366 _ A6.out).mono ?_
   rintro e w51 ⟨rfl, hb⟩; refine ⟨_, rfl, ?_⟩; replace BK353 := bbZ BK353 hb; replace BK354 := bbZ BK354 hb; replace BK359 := bbZ BK359 hb; replace BK364 := bbZ BK364 hb; replace HB := Aside0.mk (below_step HB.out hb); (try clear hb); (try clear hb2); (try clear hk); (try clear hi); refine hK.out _ _ ⟨(blk_cell BK353.out 0).trans rfl, (blk_cell BK353.out 1).trans rfl, (blk_cell BK353.out 2).trans rfl, (blk_cell BK354.out 0).trans rfl, (blk_cell BK354.out 1).trans rfl, (blk_cell BK354.out 2).trans rfl⟩ (fun hHeld => ?_); clear hK K; refine norm_ (a' := ?_) ?_ ?_; rotate_left
   ·show Act.put _ (some 14) _ = _
    simp only [Act.put, sA, sB, sC, i64_w, i32_w]
    rfl
   refine pure_ (i := 4) (N := some 15) (v := ?_) (a' := ?_) #[Y,Y,Y,Y,Y] rfl rfl (by kernel_rfl) (fun _ _ _ h => h) (Or.inl ⟨by rfl, ?_⟩) ?_ ?_; rotate_left
   ·intro w'; go_simp
    with_reducible rfl
   rotate_left
   ·simp only [Act.put, sA, sB, sC, i64_w, i32_w]
    rfl
   refine done_ (by kernel_rfl) ?_; have hcz52_0 : w51.cell? ⟨gb353, 0, none⟩ = some (.bool a0_0) := (blk_cell BK353.out 0).trans rfl; have hcz52_1 : w51.cell? ⟨gb353, 1, none⟩ = some (.int .u64 a0_1) := (blk_cell BK353.out 1).trans rfl; have hcz52_2 : w51.cell? ⟨gb353, 2, none⟩ = some (.int .u64 a0_2) := (blk_cell BK353.out 2).trans rfl; have hfz52_0 := blk_frozen BK353.out 0; have hfz52_1 := blk_frozen BK353.out 1; have hfz52_2 := blk_frozen BK353.out 2
   try go_wp2_with (first | ((with_reducible refine gate_callee (f := 65) rfl ?_); refine goesL_ (some 17) rfl rfl Try.func65 (by kernel_rfl) rfl #[.agg #[.bool a0_0, .int .u64 a0_1, .int .u64 a0_2]] rfl (by (try simp only [List.map_toArray, List.map_cons, List.map_nil]); first | done | rfl | (simp only [List.length_drop, List.length_take]; rfl)) ?_; (with_reducible refine (sawtoothref02_belowS.calls a0_0 a0_1 a0_2 false _ A8.out).mono ?_); rintro e w53 ⟨rfl, hb⟩; refine ⟨_, rfl, ?_⟩; replace BK353 := bfZ BK353 (fun h_ => by (with_reducible repeat first | apply blk_drewN | apply blk_drew | apply blk_alloc); exact h_) hb; replace BK354 := bfZ BK354 (fun h_ => by (with_reducible repeat first | apply blk_drewN | apply blk_drew | apply blk_alloc); exact h_) hb; replace BK359 := bfZ BK359 (fun h_ => by (with_reducible repeat first | apply blk_drewN | apply blk_drew | apply blk_alloc); exact h_) hb; replace BK364 := bfZ BK364 (fun h_ => by (with_reducible repeat first | apply blk_drewN | apply blk_drew | apply blk_alloc); exact h_) hb; replace HB := Aside0.mk (below_step (by repeat (first | (with_reducible first | exact HB.out | apply below_alloc | apply pw_below_drewN | apply below_drew1 | refine below_set ?_ (Aside0.out (by assumption))) | exact HB.out)) hb); (try clear hb); (try clear hb2); (try clear hk); (try clear hi)))
   go_ret
   exact ⟨by first | rfl | (simp [errW_none, errW_some] <;> rfl) | (simp [*, errW_none, errW_some] <;> rfl), by repeat (first | (with_reducible first | exact HB.out | apply below_alloc | apply pw_below_drewN | apply below_drew1 | refine below_set ?_ (Aside0.out (by assumption))) | exact HB.out)⟩
 ·rw [if_neg c7] at H
  have c7b0 : (t365 != t366) = false := by simpa using c7
  (try (have c7b1 : decide (t365 = t366) = true := by simpa using c7))
  (try (have c7b2 : (t365 == t366) = true := by simpa using c7))
  clear c7; have HC54 := Aside0.mk H; clear H
  go_enter Try.func51, Try.ntmps51
  try go_wp2_with (first | ((with_reducible refine gate_dst (N := 2) rfl ?_); refine box_event ?hg (N := 2) ?hd (cs := #[.bool a0_0, .int .u64 a0_1, .int .u64 a0_2]) (t := 60) ?hr ?_; (case hd => rfl); (case hg => rfl); (case hr => first | (go_simp; done) | (go_simp; rfl)); intro gb353 hg w55 hbox hb; have BK353 := Aside0.mk (hbox); obtain ⟨GW353, nHB⟩ := geZ (by repeat (first | (with_reducible first | exact HB.out | apply below_alloc | apply pw_below_drewN | apply below_drew1) | exact HB.out)) hg hb; have GE353 := GW353; replace HB := nHB; clear nHB; clear hb hbox hg) | ((with_reducible refine gate_dst (N := 3) rfl ?_); refine box_event ?hg (N := 3) ?hd (cs := #[.bool a1_0, .int .u64 a1_1, .int .u64 a1_2]) (t := 60) ?hr ?_; (case hd => rfl); (case hg => rfl); (case hr => first | (go_simp; done) | (go_simp; rfl)); intro gb354 hg w56 hbox hb; have BK354 := Aside0.mk (hbox); obtain ⟨GW354, nHB⟩ := geZ (by repeat (first | (with_reducible first | exact HB.out | apply below_alloc | apply pw_below_drewN | apply below_drew1 | refine below_set ?_ GE353.out) | exact HB.out)) hg hb; have GE354 := GW354; obtain ⟨NB353_354, NB354_353, nBK⟩ := nbZ BK353 (fun h_ => by (with_reducible repeat first | apply blk_drewN | apply blk_drew | apply blk_alloc); exact h_) hg hb; replace BK353 := nBK; clear nBK; replace HB := nHB; clear nHB; clear hb hbox hg; have hnb57 := NB353_354.out; have hnc57 := NB354_353.out; have hcz58_0 : w56.cell? ⟨gb353, 0, none⟩ = some (.bool a0_0) := (blk_cell BK353.out 0).trans rfl; have hcz58_1 : w56.cell? ⟨gb353, 1, none⟩ = some (.int .u64 a0_1) := (blk_cell BK353.out 1).trans rfl; have hcz58_2 : w56.cell? ⟨gb353, 2, none⟩ = some (.int .u64 a0_2) := (blk_cell BK353.out 2).trans rfl; have hfz58_0 := blk_frozen BK353.out 0; have hfz58_1 := blk_frozen BK353.out 1; have hfz58_2 := blk_frozen BK353.out 2) | ((with_reducible refine gate_callee (f := 57) rfl ?_); refine goesL_ (some 8) rfl rfl Try.func57 (by kernel_rfl) rfl #[.agg #[.bool a0_0, .int .u64 a0_1, .int .u64 a0_2]] rfl (by (try simp only [List.map_toArray, List.map_cons, List.map_nil]); first | done | rfl | (simp only [List.length_drop, List.length_take]; rfl)) ?_; (with_reducible refine (sawtoothref02_digits.calls a0_0 a0_1 a0_2 t355 t356 t357 t358 _ A3.out).mono ?_); rintro e w59 ⟨rfl, hb⟩; refine ⟨_, rfl, ?_⟩; replace BK353 := bfZ BK353 (fun h_ => by (with_reducible repeat first | apply blk_drewN | apply blk_drew | apply blk_alloc); exact h_) hb; replace BK354 := bfZ BK354 (fun h_ => by (with_reducible repeat first | apply blk_drewN | apply blk_drew | apply blk_alloc); exact h_) hb; replace HB := Aside0.mk (below_step (by repeat (first | (with_reducible first | exact HB.out | apply below_alloc | apply pw_below_drewN | apply below_drew1 | refine below_set ?_ (Aside0.out (by assumption))) | exact HB.out)) hb); (try clear hb); (try clear hb2); (try clear hk); (try clear hi)) | ((with_reducible refine gate_dst (N := 5) rfl ?_); refine box_event ?hg (N := 5) ?hd (cs := #[.int .u64 0, .int .u64 0, .int .u64 0, .int .u64 0]) (t := 69) ?hr ?_; (case hd => rfl); (case hg => rfl); (case hr => first | (go_simp; done) | (go_simp; rfl)); intro gb359 hg w60 hbox hb; have BK359 := Aside0.mk (hbox); obtain ⟨GW359, nHB⟩ := geZ (by repeat (first | (with_reducible first | exact HB.out | apply below_alloc | apply pw_below_drewN | apply below_drew1 | refine below_set ?_ (Aside0.out (by assumption))) | exact HB.out)) hg hb; have GE359 := GW359; obtain ⟨NB353_359, NB359_353, nBK⟩ := nbZ BK353 (fun h_ => by (with_reducible repeat first | apply blk_drewN | apply blk_drew | apply blk_alloc); exact h_) hg hb; replace BK353 := nBK; clear nBK; obtain ⟨NB354_359, NB359_354, nBK⟩ := nbZ BK354 (fun h_ => by (with_reducible repeat first | apply blk_drewN | apply blk_drew | apply blk_alloc); exact h_) hg hb; replace BK354 := nBK; clear nBK; replace HB := nHB; clear nHB; clear hb hbox hg; have hnb61 := NB359_353.out; have hnc61 := NB353_359.out; have hnb62 := NB359_354.out; have hnc62 := NB354_359.out; have hcz63_0 : w60.cell? ⟨gb359, 0, none⟩ = some (.int .u64 0) := (blk_cell BK359.out 0).trans rfl; have hcz63_1 : w60.cell? ⟨gb359, 1, none⟩ = some (.int .u64 0) := (blk_cell BK359.out 1).trans rfl; have hcz63_2 : w60.cell? ⟨gb359, 2, none⟩ = some (.int .u64 0) := (blk_cell BK359.out 2).trans rfl; have hcz63_3 : w60.cell? ⟨gb359, 3, none⟩ = some (.int .u64 0) := (blk_cell BK359.out 3).trans rfl; have hfz63_0 := blk_frozen BK359.out 0; have hfz63_1 := blk_frozen BK359.out 1; have hfz63_2 := blk_frozen BK359.out 2; have hfz63_3 := blk_frozen BK359.out 3; have hcz64_0 : w60.cell? ⟨gb354, 0, none⟩ = some (.bool a1_0) := (blk_cell BK354.out 0).trans rfl; have hcz64_1 : w60.cell? ⟨gb354, 1, none⟩ = some (.int .u64 a1_1) := (blk_cell BK354.out 1).trans rfl; have hcz64_2 : w60.cell? ⟨gb354, 2, none⟩ = some (.int .u64 a1_2) := (blk_cell BK354.out 2).trans rfl; have hfz64_0 := blk_frozen BK354.out 0; have hfz64_1 := blk_frozen BK354.out 1; have hfz64_2 := blk_frozen BK354.out 2) | ((with_reducible refine gate_callee (f := 57) rfl ?_); refine goesL_ (some 10) rfl rfl Try.func57 (by kernel_rfl) rfl #[.agg #[.bool a1_0, .int .u64 a1_1, .int .u64 a1_2]] rfl (by (try simp only [List.map_toArray, List.map_cons, List.map_nil]); first | done | rfl | (simp only [List.length_drop, List.length_take]; rfl)) ?_; (with_reducible refine (sawtoothref02_digits.calls a1_0 a1_1 a1_2 t360 t361 t362 t363 _ A4.out).mono ?_); rintro e w65 ⟨rfl, hb⟩; refine ⟨_, rfl, ?_⟩; replace BK353 := bfZ BK353 (fun h_ => by (with_reducible repeat first | apply blk_drewN | apply blk_drew | apply blk_alloc | refine farZ ?_ NB353_359 _); exact h_) hb; replace BK354 := bfZ BK354 (fun h_ => by (with_reducible repeat first | apply blk_drewN | apply blk_drew | apply blk_alloc | refine farZ ?_ NB354_359 _); exact h_) hb; replace BK359 := Aside0.mk (blk_below (g := gb359) (o := .cells #[.int .u64 t355, .int .u64 t356, .int .u64 t357, .int .u64 t358] 69 (0, 0)) (by (with_reducible repeat (first | refine blk_drewN ?_ _ | refine blk_drew ?_ | refine blk_alloc ?_ _)); refine blk_put (cs := #[.int .u64 t355, .int .u64 t356, .int .u64 t357, .int .u64 0]) ?_ 3 _ rfl; (with_reducible repeat (first | refine blk_drewN ?_ _ | refine blk_drew ?_ | refine blk_alloc ?_ _)); refine blk_put (cs := #[.int .u64 t355, .int .u64 t356, .int .u64 0, .int .u64 0]) ?_ 2 _ rfl; (with_reducible repeat (first | refine blk_drewN ?_ _ | refine blk_drew ?_ | refine blk_alloc ?_ _)); refine blk_put (cs := #[.int .u64 t355, .int .u64 0, .int .u64 0, .int .u64 0]) ?_ 1 _ rfl; (with_reducible repeat (first | refine blk_drewN ?_ _ | refine blk_drew ?_ | refine blk_alloc ?_ _)); refine blk_put (cs := #[.int .u64 0, .int .u64 0, .int .u64 0, .int .u64 0]) ?_ 0 _ rfl; (with_reducible repeat (first | refine blk_drewN ?_ _ | refine blk_drew ?_ | refine blk_alloc ?_ _)); exact BK359.out) hb); replace HB := Aside0.mk (below_step (by repeat (first | (with_reducible first | exact HB.out | apply below_alloc | apply pw_below_drewN | apply below_drew1 | refine below_set ?_ (Aside0.out (by assumption))) | exact HB.out)) hb); (try clear hb); (try clear hb2); (try clear hk); (try clear hi)) | ((with_reducible refine gate_dst (N := 6) rfl ?_); refine box_event ?hg (N := 6) ?hd (cs := #[.int .u64 0, .int .u64 0, .int .u64 0, .int .u64 0]) (t := 69) ?hr ?_; (case hd => rfl); (case hg => rfl); (case hr => first | (go_simp; done) | (go_simp; rfl)); intro gb364 hg w66 hbox hb; have BK364 := Aside0.mk (hbox); obtain ⟨GW364, nHB⟩ := geZ (by repeat (first | (with_reducible first | exact HB.out | apply below_alloc | apply pw_below_drewN | apply below_drew1 | refine below_set ?_ (Aside0.out (by assumption))) | exact HB.out)) hg hb; have GE364 := GW364; obtain ⟨NB353_364, NB364_353, nBK⟩ := nbZ BK353 (fun h_ => by (with_reducible repeat first | apply blk_drewN | apply blk_drew | apply blk_alloc); exact h_) hg hb; replace BK353 := nBK; clear nBK; obtain ⟨NB354_364, NB364_354, nBK⟩ := nbZ BK354 (fun h_ => by (with_reducible repeat first | apply blk_drewN | apply blk_drew | apply blk_alloc); exact h_) hg hb; replace BK354 := nBK; clear nBK; obtain ⟨NB359_364, NB364_359, nBK⟩ := nbZ BK359 (fun h_ => by (with_reducible repeat first | apply blk_drewN | apply blk_drew | apply blk_alloc); exact h_) hg hb; replace BK359 := nBK; clear nBK; replace HB := nHB; clear nHB; clear hb hbox hg; have hnb67 := NB364_353.out; have hnc67 := NB353_364.out; have hnb68 := NB364_354.out; have hnc68 := NB354_364.out; have hnb69 := NB364_359.out; have hnc69 := NB359_364.out; have hcz70_0 : w66.cell? ⟨gb364, 0, none⟩ = some (.int .u64 0) := (blk_cell BK364.out 0).trans rfl; have hcz70_1 : w66.cell? ⟨gb364, 1, none⟩ = some (.int .u64 0) := (blk_cell BK364.out 1).trans rfl; have hcz70_2 : w66.cell? ⟨gb364, 2, none⟩ = some (.int .u64 0) := (blk_cell BK364.out 2).trans rfl; have hcz70_3 : w66.cell? ⟨gb364, 3, none⟩ = some (.int .u64 0) := (blk_cell BK364.out 3).trans rfl; have hfz70_0 := blk_frozen BK364.out 0; have hfz70_1 := blk_frozen BK364.out 1; have hfz70_2 := blk_frozen BK364.out 2; have hfz70_3 := blk_frozen BK364.out 3))
  have n0_ : Aside0 (((((w66.setCell ⟨gb364, 0, none⟩ (.int .u64 t360)).setCell ⟨gb364, 1, none⟩ (.int .u64 t361)).setCell ⟨gb364, 2, none⟩ (.int .u64 t362)).setCell ⟨gb364, 3, none⟩ (.int .u64 t363)).heap[gb353]? = some (.cells #[.bool a0_0, .int .u64 a0_1, .int .u64 a0_2] 60 (0, 0))) := ⟨by (with_reducible repeat (first | refine blk_drewN ?_ _ | refine blk_drew ?_ | refine blk_alloc ?_ _)); refine blk_far ?_ NB353_364.out _; (with_reducible repeat (first | refine blk_drewN ?_ _ | refine blk_drew ?_ | refine blk_alloc ?_ _)); refine blk_far ?_ NB353_364.out _; (with_reducible repeat (first | refine blk_drewN ?_ _ | refine blk_drew ?_ | refine blk_alloc ?_ _)); refine blk_far ?_ NB353_364.out _; (with_reducible repeat (first | refine blk_drewN ?_ _ | refine blk_drew ?_ | refine blk_alloc ?_ _)); refine blk_far ?_ NB353_364.out _; (with_reducible repeat (first | refine blk_drewN ?_ _ | refine blk_drew ?_ | refine blk_alloc ?_ _)); exact BK353.out⟩
  have n1_ : Aside0 (((((w66.setCell ⟨gb364, 0, none⟩ (.int .u64 t360)).setCell ⟨gb364, 1, none⟩ (.int .u64 t361)).setCell ⟨gb364, 2, none⟩ (.int .u64 t362)).setCell ⟨gb364, 3, none⟩ (.int .u64 t363)).heap[gb354]? = some (.cells #[.bool a1_0, .int .u64 a1_1, .int .u64 a1_2] 60 (0, 0))) := ⟨by (with_reducible repeat (first | refine blk_drewN ?_ _ | refine blk_drew ?_ | refine blk_alloc ?_ _)); refine blk_far ?_ NB354_364.out _; (with_reducible repeat (first | refine blk_drewN ?_ _ | refine blk_drew ?_ | refine blk_alloc ?_ _)); refine blk_far ?_ NB354_364.out _; (with_reducible repeat (first | refine blk_drewN ?_ _ | refine blk_drew ?_ | refine blk_alloc ?_ _)); refine blk_far ?_ NB354_364.out _; (with_reducible repeat (first | refine blk_drewN ?_ _ | refine blk_drew ?_ | refine blk_alloc ?_ _)); refine blk_far ?_ NB354_364.out _; (with_reducible repeat (first | refine blk_drewN ?_ _ | refine blk_drew ?_ | refine blk_alloc ?_ _)); exact BK354.out⟩
  have n2_ : Aside0 (((((w66.setCell ⟨gb364, 0, none⟩ (.int .u64 t360)).setCell ⟨gb364, 1, none⟩ (.int .u64 t361)).setCell ⟨gb364, 2, none⟩ (.int .u64 t362)).setCell ⟨gb364, 3, none⟩ (.int .u64 t363)).heap[gb359]? = some (.cells #[.int .u64 t355, .int .u64 t356, .int .u64 t357, .int .u64 t358] 69 (0, 0))) := ⟨by (with_reducible repeat (first | refine blk_drewN ?_ _ | refine blk_drew ?_ | refine blk_alloc ?_ _)); refine blk_far ?_ NB359_364.out _; (with_reducible repeat (first | refine blk_drewN ?_ _ | refine blk_drew ?_ | refine blk_alloc ?_ _)); refine blk_far ?_ NB359_364.out _; (with_reducible repeat (first | refine blk_drewN ?_ _ | refine blk_drew ?_ | refine blk_alloc ?_ _)); refine blk_far ?_ NB359_364.out _; (with_reducible repeat (first | refine blk_drewN ?_ _ | refine blk_drew ?_ | refine blk_alloc ?_ _)); refine blk_far ?_ NB359_364.out _; (with_reducible repeat (first | refine blk_drewN ?_ _ | refine blk_drew ?_ | refine blk_alloc ?_ _)); exact BK359.out⟩
  have n3_ : Aside0 (((((w66.setCell ⟨gb364, 0, none⟩ (.int .u64 t360)).setCell ⟨gb364, 1, none⟩ (.int .u64 t361)).setCell ⟨gb364, 2, none⟩ (.int .u64 t362)).setCell ⟨gb364, 3, none⟩ (.int .u64 t363)).heap[gb364]? = some (.cells #[.int .u64 t360, .int .u64 t361, .int .u64 t362, .int .u64 t363] 69 (0, 0))) := ⟨by (with_reducible repeat (first | refine blk_drewN ?_ _ | refine blk_drew ?_ | refine blk_alloc ?_ _)); refine blk_put (cs := #[.int .u64 t360, .int .u64 t361, .int .u64 t362, .int .u64 0]) ?_ 3 _ rfl; (with_reducible repeat (first | refine blk_drewN ?_ _ | refine blk_drew ?_ | refine blk_alloc ?_ _)); refine blk_put (cs := #[.int .u64 t360, .int .u64 t361, .int .u64 0, .int .u64 0]) ?_ 2 _ rfl; (with_reducible repeat (first | refine blk_drewN ?_ _ | refine blk_drew ?_ | refine blk_alloc ?_ _)); refine blk_put (cs := #[.int .u64 t360, .int .u64 0, .int .u64 0, .int .u64 0]) ?_ 1 _ rfl; (with_reducible repeat (first | refine blk_drewN ?_ _ | refine blk_drew ?_ | refine blk_alloc ?_ _)); refine blk_put (cs := #[.int .u64 0, .int .u64 0, .int .u64 0, .int .u64 0]) ?_ 0 _ rfl; (with_reducible repeat (first | refine blk_drewN ?_ _ | refine blk_drew ?_ | refine blk_alloc ?_ _)); exact BK364.out⟩
  have n4_ : Aside0 (Below w.heap.size w ((((w66.setCell ⟨gb364, 0, none⟩ (.int .u64 t360)).setCell ⟨gb364, 1, none⟩ (.int .u64 t361)).setCell ⟨gb364, 2, none⟩ (.int .u64 t362)).setCell ⟨gb364, 3, none⟩ (.int .u64 t363))) := ⟨by repeat (first | (with_reducible first | exact HB.out | apply below_alloc | apply pw_below_drewN | apply below_drew1 | refine below_set ?_ (Aside0.out (by assumption))) | exact HB.out)⟩
  (try clear BK353); (try clear BK354); (try clear BK359); (try clear BK364); (try clear HB)
  generalize ((((w66.setCell ⟨gb364, 0, none⟩ (.int .u64 t360)).setCell ⟨gb364, 1, none⟩ (.int .u64 t361)).setCell ⟨gb364, 2, none⟩ (.int .u64 t362)).setCell ⟨gb364, 3, none⟩ (.int .u64 t363)) = w71 at n0_ n1_ n2_ n3_ n4_ ⊢
  have BK353 := n0_; have BK354 := n1_; have BK359 := n2_; have BK364 := n3_; have HB := n4_; clear n0_ n1_ n2_ n3_ n4_; replace BK353 := Aside0.mk (blk_drew BK353.out); replace BK354 := Aside0.mk (blk_drew BK354.out); replace BK359 := Aside0.mk (blk_drew BK359.out); replace BK364 := Aside0.mk (blk_drew BK364.out); replace HB := Aside0.mk (below_drew1 HB.out); refine start_ (n := 5) (S := fun w' => w'.cell? ⟨gb353, 0, none⟩ = some (.bool a0_0) ∧ w'.cell? ⟨gb353, 1, none⟩ = some (.int .u64 a0_1) ∧ w'.cell? ⟨gb353, 2, none⟩ = some (.int .u64 a0_2) ∧ w'.cell? ⟨gb354, 0, none⟩ = some (.bool a1_0) ∧ w'.cell? ⟨gb354, 1, none⟩ = some (.int .u64 a1_1) ∧ w'.cell? ⟨gb354, 2, none⟩ = some (.int .u64 a1_2)) (ds := []) #[N,N,N,N,N] (by kernel_rfl) rfl rfl ⟨(blk_cell BK353.out 0).trans rfl, (blk_cell BK353.out 1).trans rfl, (blk_cell BK353.out 2).trans rfl, (blk_cell BK354.out 0).trans rfl, (blk_cell BK354.out 1).trans rfl, (blk_cell BK354.out 2).trans rfl⟩ (fun hHeld => ?_)
  generalize w71.drew = w72 at BK353 BK354 BK359 BK364 HB hHeld ⊢
  refine take_ (i := 0) (N := some 11) (v := ?_) (a' := ?_) #[Y,N,N,N,N] rfl rfl (by kernel_rfl) (fun _ _ _ h => h) (Or.inl ⟨by rfl, ?_⟩) hHeld ?_ ?_; rotate_left
  ·rintro w' ⟨s0, s1, s2, s3, s4, s5⟩; go_simp
   with_reducible rfl
  rotate_left
  ·simp only [Act.put, sA, sB, sC, i64_w, i32_w]
   rfl
  refine take_ (i := 2) (N := some 13) (v := ?_) (a' := ?_) #[Y,N,Y,N,N] rfl rfl (by kernel_rfl) (fun _ _ _ h => h) (Or.inl ⟨by rfl, ?_⟩) hHeld ?_ ?_; rotate_left
  ·rintro w' ⟨s0, s1, s2, s3, s4, s5⟩; go_simp
   with_reducible rfl
  rotate_left
  ·simp only [Act.put, sA, sB, sC, i64_w, i32_w]
   rfl
  refine one_ (i := 1) (N := some 12) #[Y,Y,Y,N,N] rfl rfl (by kernel_rfl) (by decide) (fun K hK => ?_); refine goes_ Try.func65 (by kernel_rfl) rfl #[.agg #[.bool a0_0, .int .u64 a0_1, .int .u64 a0_2]] (by rfl) rfl rfl (by (try simp only [List.map_toArray, List.map_cons, List.map_nil]); first | done | rfl | (simp only [List.length_drop, List.length_take]; rfl)) ?_
  with_reducible refine (sawtoothref02_belowS.calls a0_0 a0_1 a0_2 t365 _ A5.out).mono ?_
  rintro e w73 ⟨rfl, hb⟩; refine ⟨_, rfl, ?_⟩; replace BK353 := bbZ BK353 hb; replace BK354 := bbZ BK354 hb; replace BK359 := bbZ BK359 hb; replace BK364 := bbZ BK364 hb; replace HB := Aside0.mk (below_step HB.out hb); (try clear hb); (try clear hb2); (try clear hk); (try clear hi); refine hK.out _ _ ⟨(blk_cell BK353.out 0).trans rfl, (blk_cell BK353.out 1).trans rfl, (blk_cell BK353.out 2).trans rfl, (blk_cell BK354.out 0).trans rfl, (blk_cell BK354.out 1).trans rfl, (blk_cell BK354.out 2).trans rfl⟩ (fun hHeld => ?_); clear hK K; refine norm_ (a' := ?_) ?_ ?_; rotate_left
  ·show Act.put _ (some 12) _ = _
   simp only [Act.put, sA, sB, sC, i64_w, i32_w]
   rfl
  refine one_ (i := 3) (N := some 14) #[Y,Y,Y,Y,N] rfl rfl (by kernel_rfl) (by decide) (fun K hK => ?_); refine goes_ Try.func65 (by kernel_rfl) rfl #[.agg #[.bool a1_0, .int .u64 a1_1, .int .u64 a1_2]] (by rfl) rfl rfl (by (try simp only [List.map_toArray, List.map_cons, List.map_nil]); first | done | rfl | (simp only [List.length_drop, List.length_take]; rfl)) ?_
  with_reducible refine (sawtoothref02_belowS.calls a1_0 a1_1 a1_2 t366 _ A6.out).mono ?_
  rintro e w74 ⟨rfl, hb⟩; refine ⟨_, rfl, ?_⟩; replace BK353 := bbZ BK353 hb; replace BK354 := bbZ BK354 hb; replace BK359 := bbZ BK359 hb; replace BK364 := bbZ BK364 hb; replace HB := Aside0.mk (below_step HB.out hb); (try clear hb); (try clear hb2); (try clear hk); (try clear hi); refine hK.out _ _ ⟨(blk_cell BK353.out 0).trans rfl, (blk_cell BK353.out 1).trans rfl, (blk_cell BK353.out 2).trans rfl, (blk_cell BK354.out 0).trans rfl, (blk_cell BK354.out 1).trans rfl, (blk_cell BK354.out 2).trans rfl⟩ (fun hHeld => ?_); clear hK K; refine norm_ (a' := ?_) ?_ ?_; rotate_left
  ·show Act.put _ (some 14) _ = _
   simp only [Act.put, sA, sB, sC, i64_w, i32_w]
   rfl
  refine pure_ (i := 4) (N := some 15) (v := ?_) (a' := ?_) #[Y,Y,Y,Y,Y] rfl rfl (by kernel_rfl) (fun _ _ _ h => h) (Or.inl ⟨by rfl, ?_⟩) ?_ ?_; rotate_left
  ·intro w'; go_simp
   with_reducible rfl
  rotate_left
  ·simp only [Act.put, sA, sB, sC, i64_w, i32_w]
   rfl
  refine done_ (by kernel_rfl) ?_
  go_upto_region 7 with (fail)
  go_cut [32] (fun v32 wc => ∃ (kq : Nat) (x32_53 : Bool), v32 = .bool x32_53 ∧ Aside0 (sawtoothref02_Cmp.j0 kq x32_53 t355 t356 t357 t358 t360 t361 t362 t363 = some r) ∧ Aside0 (kq ≤ k) ∧ Aside0 (wc.heap[gb353]? = some (.cells #[.bool a0_0, .int .u64 a0_1, .int .u64 a0_2] 60 (0, 0))) ∧ Aside0 (wc.heap[gb354]? = some (.cells #[.bool a1_0, .int .u64 a1_1, .int .u64 a1_2] 60 (0, 0))) ∧ Aside0 (wc.heap[gb359]? = some (.cells #[.int .u64 t355, .int .u64 t356, .int .u64 t357, .int .u64 t358] 69 (0, 0))) ∧ Aside0 (wc.heap[gb364]? = some (.cells #[.int .u64 t360, .int .u64 t361, .int .u64 t362, .int .u64 t363] 69 (0, 0))) ∧ Aside0 (Below w.heap.size w wc))
  case first =>
   have H := HC54.out; clear HC54; replace H := Option.bind_eq_some_iff.mp H; obtain ⟨t368, A750, H⟩ := H; (try dsimp only at H); have A75 := Aside0.mk A750; clear A750; replace H := Option.bind_eq_some_iff.mp H; obtain ⟨t369, A760, H⟩ := H; (try dsimp only at H); have A76 := Aside0.mk A760; clear A760
   by_cases c77 : (t368 != t369) = true
   ·rw [if_pos c77] at H
    have c77b0 : (t368 != t369) = true := c77
    (try (have c77b1 : decide (t368 = t369) = false := by simpa using c77))
    (try (have c77b2 : (t368 == t369) = false := by simpa using c77))
    (try (have c77b3 : ¬ (t368 = t369) := by simpa using c77))
    clear c77
    (first | rw [c77b0] | (simp only [i64_w, i32_w]; rw [c77b0]) | skip)
    replace H := Option.bind_eq_some_iff.mp H; obtain ⟨t370, A780, H⟩ := H; replace H : ((sawtoothref02_belowS.f a0_0 a0_1 a0_2).bind fun t371 => (sawtoothref02_Cmp.j0 k (t370 == t371) t355 t356 t357 t358 t360 t361 t362 t363)) = some r := H; have A78 := Aside0.mk A780; clear A780; replace H := Option.bind_eq_some_iff.mp H; obtain ⟨t371, A790, H⟩ := H; replace H : (sawtoothref02_Cmp.j0 k (t370 == t371) t355 t356 t357 t358 t360 t361 t362 t363) = some r := H; have A79 := Aside0.mk A790; clear A790; have H' := Aside0.mk H; clear H
    try go_wp2
    replace BK353 := Aside0.mk (blk_drew BK353.out); replace BK354 := Aside0.mk (blk_drew BK354.out); replace BK359 := Aside0.mk (blk_drew BK359.out); replace BK364 := Aside0.mk (blk_drew BK364.out); replace HB := Aside0.mk (below_drew1 HB.out); refine start_ (n := 15) (S := fun w' => w'.cell? ⟨gb359, 0, none⟩ = some (.int .u64 t355) ∧ w'.cell? ⟨gb359, 1, none⟩ = some (.int .u64 t356) ∧ w'.cell? ⟨gb359, 2, none⟩ = some (.int .u64 t357) ∧ w'.cell? ⟨gb359, 3, none⟩ = some (.int .u64 t358) ∧ w'.cell? ⟨gb364, 0, none⟩ = some (.int .u64 t360) ∧ w'.cell? ⟨gb364, 1, none⟩ = some (.int .u64 t361) ∧ w'.cell? ⟨gb364, 2, none⟩ = some (.int .u64 t362) ∧ w'.cell? ⟨gb364, 3, none⟩ = some (.int .u64 t363) ∧ w'.cell? ⟨gb353, 0, none⟩ = some (.bool a0_0) ∧ w'.cell? ⟨gb353, 1, none⟩ = some (.int .u64 a0_1) ∧ w'.cell? ⟨gb353, 2, none⟩ = some (.int .u64 a0_2)) (ds := []) #[N,N,N,N,N,N,N,N,N,N,N,N,N,N,N] (by kernel_rfl) rfl rfl ⟨(blk_cell BK359.out 0).trans rfl, (blk_cell BK359.out 1).trans rfl, (blk_cell BK359.out 2).trans rfl, (blk_cell BK359.out 3).trans rfl, (blk_cell BK364.out 0).trans rfl, (blk_cell BK364.out 1).trans rfl, (blk_cell BK364.out 2).trans rfl, (blk_cell BK364.out 3).trans rfl, (blk_cell BK353.out 0).trans rfl, (blk_cell BK353.out 1).trans rfl, (blk_cell BK353.out 2).trans rfl⟩ (fun hHeld => ?_); refine with_tabW sawtoothref02_Cmp.tab7 sawtoothref02_Cmp.bits7 (fun HT_ HW_ => ?_)
    generalize w74.drew = w80 at BK353 BK354 BK359 BK364 HB hHeld ⊢
    refine take_ (i := 0) (N := some 18) (v := ?_) (a' := ?_) #[Y,N,N,N,N,N,N,N,N,N,N,N,N,N,N] rfl rfl (take_ofW HT_.out HW_.out (by kernel_rfl)) (fun _ _ _ h => h) (Or.inl ⟨by rfl, ?_⟩) hHeld ?_ ?_; rotate_left
    ·rintro w' ⟨s0, s1, s2, s3, s4, s5, s6, s7, s8, s9, s10⟩; go_simp
     with_reducible rfl
    rotate_left
    ·simp only [Act.put, sA, sB, sC, i64_w, i32_w]
     rfl
    refine take_ (i := 1) (N := some 19) (v := ?_) (a' := ?_) #[Y,Y,N,N,N,N,N,N,N,N,N,N,N,N,N] rfl rfl (take_ofW HT_.out HW_.out (by kernel_rfl)) (fun _ _ _ h => h) (Or.inl ⟨by rfl, ?_⟩) hHeld ?_ ?_; rotate_left
    ·rintro w' ⟨s0, s1, s2, s3, s4, s5, s6, s7, s8, s9, s10⟩; go_simp
     with_reducible rfl
    rotate_left
    ·simp only [Act.put, sA, sB, sC, i64_w, i32_w]
     rfl
    refine take_ (i := 3) (N := some 21) (v := ?_) (a' := ?_) #[Y,Y,N,Y,N,N,N,N,N,N,N,N,N,N,N] rfl rfl (take_ofW HT_.out HW_.out (by kernel_rfl)) (fun _ _ _ h => h) (Or.inl ⟨by rfl, ?_⟩) hHeld ?_ ?_; rotate_left
    ·rintro w' ⟨s0, s1, s2, s3, s4, s5, s6, s7, s8, s9, s10⟩; go_simp
     with_reducible rfl
    rotate_left
    ·simp only [Act.put, sA, sB, sC, i64_w, i32_w]
     rfl
    refine take_ (i := 4) (N := some 22) (v := ?_) (a' := ?_) #[Y,Y,N,Y,Y,N,N,N,N,N,N,N,N,N,N] rfl rfl (take_ofW HT_.out HW_.out (by kernel_rfl)) (fun _ _ _ h => h) (Or.inl ⟨by rfl, ?_⟩) hHeld ?_ ?_; rotate_left
    ·rintro w' ⟨s0, s1, s2, s3, s4, s5, s6, s7, s8, s9, s10⟩; go_simp
     with_reducible rfl
    rotate_left
    ·simp only [Act.put, sA, sB, sC, i64_w, i32_w]
     rfl
    refine one_ (i := 2) (N := some 20) #[Y,Y,Y,Y,Y,N,N,N,N,N,N,N,N,N,N] rfl rfl (one_of HT_.out (by kernel_rfl)) (by decide) (fun K hK => ?_); refine goes_ Try.func60 (by kernel_rfl) rfl #[.agg #[.int .u64 t355, .int .u64 t356, .int .u64 t357, .int .u64 t358], .agg #[.int .u64 t360, .int .u64 t361, .int .u64 t362, .int .u64 t363]] (by rfl) rfl rfl (by (try simp only [List.map_toArray, List.map_cons, List.map_nil]); first | done | rfl | (simp only [List.length_drop, List.length_take]; rfl)) ?_
    with_reducible refine (sawtoothref02_less.calls t355 t356 t357 t358 t360 t361 t362 t363 t368 _ A75.out).mono ?_
    rintro e w81 ⟨rfl, hb⟩; refine ⟨_, rfl, ?_⟩; replace BK353 := bbZ BK353 hb; replace BK354 := bbZ BK354 hb; replace BK359 := bbZ BK359 hb; replace BK364 := bbZ BK364 hb; replace HB := Aside0.mk (below_step HB.out hb); (try clear hb); (try clear hb2); (try clear hk); (try clear hi); refine hK.out _ _ ⟨(blk_cell BK359.out 0).trans rfl, (blk_cell BK359.out 1).trans rfl, (blk_cell BK359.out 2).trans rfl, (blk_cell BK359.out 3).trans rfl, (blk_cell BK364.out 0).trans rfl, (blk_cell BK364.out 1).trans rfl, (blk_cell BK364.out 2).trans rfl, (blk_cell BK364.out 3).trans rfl, (blk_cell BK353.out 0).trans rfl, (blk_cell BK353.out 1).trans rfl, (blk_cell BK353.out 2).trans rfl⟩ (fun hHeld => ?_); clear hK K; refine norm_ (a' := ?_) ?_ ?_; rotate_left
    ·show Act.put _ (some 20) _ = _
     simp only [Act.put, sA, sB, sC, i64_w, i32_w]
     rfl
    refine one_ (i := 5) (N := some 23) #[Y,Y,Y,Y,Y,Y,N,N,N,N,N,N,N,N,N] rfl rfl (one_of HT_.out (by kernel_rfl)) (by decide) (fun K hK => ?_); refine goes_ Try.func60 (by kernel_rfl) rfl #[.agg #[.int .u64 t360, .int .u64 t361, .int .u64 t362, .int .u64 t363], .agg #[.int .u64 t355, .int .u64 t356, .int .u64 t357, .int .u64 t358]] (by rfl) rfl rfl (by (try simp only [List.map_toArray, List.map_cons, List.map_nil]); first | done | rfl | (simp only [List.length_drop, List.length_take]; rfl)) ?_
    with_reducible refine (sawtoothref02_less.calls t360 t361 t362 t363 t355 t356 t357 t358 t369 _ A76.out).mono ?_
    rintro e w82 ⟨rfl, hb⟩; refine ⟨_, rfl, ?_⟩; replace BK353 := bbZ BK353 hb; replace BK354 := bbZ BK354 hb; replace BK359 := bbZ BK359 hb; replace BK364 := bbZ BK364 hb; replace HB := Aside0.mk (below_step HB.out hb); (try clear hb); (try clear hb2); (try clear hk); (try clear hi); refine hK.out _ _ ⟨(blk_cell BK359.out 0).trans rfl, (blk_cell BK359.out 1).trans rfl, (blk_cell BK359.out 2).trans rfl, (blk_cell BK359.out 3).trans rfl, (blk_cell BK364.out 0).trans rfl, (blk_cell BK364.out 1).trans rfl, (blk_cell BK364.out 2).trans rfl, (blk_cell BK364.out 3).trans rfl, (blk_cell BK353.out 0).trans rfl, (blk_cell BK353.out 1).trans rfl, (blk_cell BK353.out 2).trans rfl⟩ (fun hHeld => ?_); clear hK K; refine norm_ (a' := ?_) ?_ ?_; rotate_left
    ·show Act.put _ (some 23) _ = _
     simp only [Act.put, sA, sB, sC, i64_w, i32_w]
     rfl
    refine pure_ (i := 6) (N := some 24) (v := ?_) (a' := ?_) #[Y,Y,Y,Y,Y,Y,Y,N,N,N,N,N,N,N,N] rfl rfl (any_of HT_.out (by kernel_rfl)) (fun _ _ _ h => h) (Or.inl ⟨by rfl, ?_⟩) ?_ ?_; rotate_left
    ·intro w'; go_simp
     with_reducible rfl
    rotate_left
    ·simp only [Act.put, sA, sB, sC, i64_w, i32_w]
     rfl
    refine pure_ (i := 7) (N := some 25) (v := ?_) (a' := ?_) #[Y,Y,Y,Y,Y,Y,Y,Y,N,N,N,N,N,N,N] rfl rfl (any_of HT_.out (by kernel_rfl)) (fun _ _ _ h => h) (Or.inl ⟨by rfl, ?_⟩) ?_ ?_; rotate_left
    ·intro w'; go_simp
     with_reducible rfl
    rotate_left
    ·simp only [Act.put, sA, sB, sC, i64_w, i32_w]
     rfl
    refine take_ (i := 8) (N := some 26) (v := ?_) (a' := ?_) #[Y,Y,Y,Y,Y,Y,Y,Y,Y,N,N,N,N,N,N] rfl rfl (take_ofW HT_.out HW_.out (by kernel_rfl)) (fun _ _ _ h => h) (Or.inl ⟨by rfl, ?_⟩) hHeld ?_ ?_; rotate_left
    ·rintro w' ⟨s0, s1, s2, s3, s4, s5, s6, s7, s8, s9, s10⟩; go_simp
     with_reducible rfl
    rotate_left
    ·simp only [Act.put, sA, sB, sC, i64_w, i32_w]
     rfl
    refine take_ (i := 9) (N := some 27) (v := ?_) (a' := ?_) #[Y,Y,Y,Y,Y,Y,Y,Y,Y,Y,N,N,N,N,N] rfl rfl (take_ofW HT_.out HW_.out (by kernel_rfl)) (fun _ _ _ h => h) (Or.inl ⟨by rfl, ?_⟩) hHeld ?_ ?_; rotate_left
    ·rintro w' ⟨s0, s1, s2, s3, s4, s5, s6, s7, s8, s9, s10⟩; go_simp
     with_reducible rfl
    rotate_left
    ·simp only [Act.put, sA, sB, sC, i64_w, i32_w]
     rfl
    refine take_ (i := 11) (N := some 29) (v := ?_) (a' := ?_) #[Y,Y,Y,Y,Y,Y,Y,Y,Y,Y,N,Y,N,N,N] rfl rfl (take_ofW HT_.out HW_.out (by kernel_rfl)) (fun _ _ _ h => h) (Or.inl ⟨by rfl, ?_⟩) hHeld ?_ ?_; rotate_left
    ·rintro w' ⟨s0, s1, s2, s3, s4, s5, s6, s7, s8, s9, s10⟩; go_simp
     with_reducible rfl
    rotate_left
    ·simp only [Act.put, sA, sB, sC, i64_w, i32_w]
     rfl
    refine one_ (i := 10) (N := some 28) #[Y,Y,Y,Y,Y,Y,Y,Y,Y,Y,Y,Y,N,N,N] rfl rfl (one_of HT_.out (by kernel_rfl)) (by decide) (fun K hK => ?_); refine goes_ Try.func60 (by kernel_rfl) rfl #[.agg #[.int .u64 t355, .int .u64 t356, .int .u64 t357, .int .u64 t358], .agg #[.int .u64 t360, .int .u64 t361, .int .u64 t362, .int .u64 t363]] (by rfl) rfl rfl (by (try simp only [List.map_toArray, List.map_cons, List.map_nil]); first | done | rfl | (simp only [List.length_drop, List.length_take]; rfl)) ?_
    with_reducible refine (sawtoothref02_less.calls t355 t356 t357 t358 t360 t361 t362 t363 t370 _ A78.out).mono ?_
    rintro e w83 ⟨rfl, hb⟩; refine ⟨_, rfl, ?_⟩; replace BK353 := bbZ BK353 hb; replace BK354 := bbZ BK354 hb; replace BK359 := bbZ BK359 hb; replace BK364 := bbZ BK364 hb; replace HB := Aside0.mk (below_step HB.out hb); (try clear hb); (try clear hb2); (try clear hk); (try clear hi); refine hK.out _ _ ⟨(blk_cell BK359.out 0).trans rfl, (blk_cell BK359.out 1).trans rfl, (blk_cell BK359.out 2).trans rfl, (blk_cell BK359.out 3).trans rfl, (blk_cell BK364.out 0).trans rfl, (blk_cell BK364.out 1).trans rfl, (blk_cell BK364.out 2).trans rfl, (blk_cell BK364.out 3).trans rfl, (blk_cell BK353.out 0).trans rfl, (blk_cell BK353.out 1).trans rfl, (blk_cell BK353.out 2).trans rfl⟩ (fun hHeld => ?_); clear hK K; refine norm_ (a' := ?_) ?_ ?_; rotate_left
    ·show Act.put _ (some 28) _ = _
     simp only [Act.put, sA, sB, sC, i64_w, i32_w]
     rfl
    refine one_ (i := 12) (N := some 30) #[Y,Y,Y,Y,Y,Y,Y,Y,Y,Y,Y,Y,Y,N,N] rfl rfl (one_of HT_.out (by kernel_rfl)) (by decide) (fun K hK => ?_); refine goes_ Try.func65 (by kernel_rfl) rfl #[.agg #[.bool a0_0, .int .u64 a0_1, .int .u64 a0_2]] (by rfl) rfl rfl (by (try simp only [List.map_toArray, List.map_cons, List.map_nil]); first | done | rfl | (simp only [List.length_drop, List.length_take]; rfl)) ?_
    with_reducible refine (sawtoothref02_belowS.calls a0_0 a0_1 a0_2 t371 _ A79.out).mono ?_
    rintro e w84 ⟨rfl, hb⟩; refine ⟨_, rfl, ?_⟩; replace BK353 := bbZ BK353 hb; replace BK354 := bbZ BK354 hb; replace BK359 := bbZ BK359 hb; replace BK364 := bbZ BK364 hb; replace HB := Aside0.mk (below_step HB.out hb); (try clear hb); (try clear hb2); (try clear hk); (try clear hi); refine hK.out _ _ ⟨(blk_cell BK359.out 0).trans rfl, (blk_cell BK359.out 1).trans rfl, (blk_cell BK359.out 2).trans rfl, (blk_cell BK359.out 3).trans rfl, (blk_cell BK364.out 0).trans rfl, (blk_cell BK364.out 1).trans rfl, (blk_cell BK364.out 2).trans rfl, (blk_cell BK364.out 3).trans rfl, (blk_cell BK353.out 0).trans rfl, (blk_cell BK353.out 1).trans rfl, (blk_cell BK353.out 2).trans rfl⟩ (fun hHeld => ?_); clear hK K; refine norm_ (a' := ?_) ?_ ?_; rotate_left
    ·show Act.put _ (some 30) _ = _
     simp only [Act.put, sA, sB, sC, i64_w, i32_w]
     rfl
    refine pure_ (i := 13) (N := some 31) (v := ?_) (a' := ?_) #[Y,Y,Y,Y,Y,Y,Y,Y,Y,Y,Y,Y,Y,Y,N] rfl rfl (any_of HT_.out (by kernel_rfl)) (fun _ _ _ h => h) (Or.inl ⟨by rfl, ?_⟩) ?_ ?_; rotate_left
    ·intro w'; go_simp
     with_reducible rfl
    rotate_left
    ·simp only [Act.put, sA, sB, sC, i64_w, i32_w]
     rfl
    refine pure_ (i := 14) (N := some 32) (v := ?_) (a' := ?_) #[Y,Y,Y,Y,Y,Y,Y,Y,Y,Y,Y,Y,Y,Y,Y] rfl rfl (any_of HT_.out (by kernel_rfl)) (fun _ _ _ h => h) (Or.inl ⟨by rfl, ?_⟩) ?_ ?_; rotate_left
    ·intro w'; go_simp
     with_reducible rfl
    rotate_left
    ·simp only [Act.put, sA, sB, sC, i64_w, i32_w]
     rfl
    refine done_ (done_of HT_.out (by kernel_rfl)) ?_
    try go_wp2
    go_meet
    case rel => exact ⟨_, ((t370 == t371)), (by first | rfl | (simp; done) | (simp [*]; done)), H', ⟨by first | omega | exact Nat.le_refl _⟩, ⟨by (with_reducible repeat (first | refine blk_drewN ?_ _ | refine blk_drew ?_ | refine blk_alloc ?_ _)); exact BK353.out⟩, ⟨by (with_reducible repeat (first | refine blk_drewN ?_ _ | refine blk_drew ?_ | refine blk_alloc ?_ _)); exact BK354.out⟩, ⟨by (with_reducible repeat (first | refine blk_drewN ?_ _ | refine blk_drew ?_ | refine blk_alloc ?_ _)); exact BK359.out⟩, ⟨by (with_reducible repeat (first | refine blk_drewN ?_ _ | refine blk_drew ?_ | refine blk_alloc ?_ _)); exact BK364.out⟩, ⟨by repeat (first | (with_reducible first | exact HB.out | apply below_alloc | apply pw_below_drewN | apply below_drew1 | refine below_set ?_ (Aside0.out (by assumption))) | exact HB.out)⟩⟩
   ·rw [if_neg c77] at H
    have c77b0 : (t368 != t369) = false := by simpa using c77
    (try (have c77b1 : decide (t368 = t369) = true := by simpa using c77))
    (try (have c77b2 : (t368 == t369) = true := by simpa using c77))
    clear c77
    (first | rw [c77b0] | (simp only [i64_w, i32_w]; rw [c77b0]) | skip)
    have H' := Aside0.mk H; clear H
    try go_wp2
    replace BK353 := Aside0.mk (blk_drew BK353.out); replace BK354 := Aside0.mk (blk_drew BK354.out); replace BK359 := Aside0.mk (blk_drew BK359.out); replace BK364 := Aside0.mk (blk_drew BK364.out); replace HB := Aside0.mk (below_drew1 HB.out); refine start_ (n := 15) (S := fun w' => w'.cell? ⟨gb359, 0, none⟩ = some (.int .u64 t355) ∧ w'.cell? ⟨gb359, 1, none⟩ = some (.int .u64 t356) ∧ w'.cell? ⟨gb359, 2, none⟩ = some (.int .u64 t357) ∧ w'.cell? ⟨gb359, 3, none⟩ = some (.int .u64 t358) ∧ w'.cell? ⟨gb364, 0, none⟩ = some (.int .u64 t360) ∧ w'.cell? ⟨gb364, 1, none⟩ = some (.int .u64 t361) ∧ w'.cell? ⟨gb364, 2, none⟩ = some (.int .u64 t362) ∧ w'.cell? ⟨gb364, 3, none⟩ = some (.int .u64 t363)) (ds := []) #[N,N,N,N,N,N,N,N,N,N,N,N,N,N,N] (by kernel_rfl) rfl rfl ⟨(blk_cell BK359.out 0).trans rfl, (blk_cell BK359.out 1).trans rfl, (blk_cell BK359.out 2).trans rfl, (blk_cell BK359.out 3).trans rfl, (blk_cell BK364.out 0).trans rfl, (blk_cell BK364.out 1).trans rfl, (blk_cell BK364.out 2).trans rfl, (blk_cell BK364.out 3).trans rfl⟩ (fun hHeld => ?_); refine with_tabW sawtoothref02_Cmp.tab7 sawtoothref02_Cmp.bits7 (fun HT_ HW_ => ?_)
    generalize w74.drew = w85 at BK353 BK354 BK359 BK364 HB hHeld ⊢
    refine take_ (i := 0) (N := some 18) (v := ?_) (a' := ?_) #[Y,N,N,N,N,N,N,N,N,N,N,N,N,N,N] rfl rfl (take_ofW HT_.out HW_.out (by kernel_rfl)) (fun _ _ _ h => h) (Or.inl ⟨by rfl, ?_⟩) hHeld ?_ ?_; rotate_left
    ·rintro w' ⟨s0, s1, s2, s3, s4, s5, s6, s7⟩; go_simp
     with_reducible rfl
    rotate_left
    ·simp only [Act.put, sA, sB, sC, i64_w, i32_w]
     rfl
    refine take_ (i := 1) (N := some 19) (v := ?_) (a' := ?_) #[Y,Y,N,N,N,N,N,N,N,N,N,N,N,N,N] rfl rfl (take_ofW HT_.out HW_.out (by kernel_rfl)) (fun _ _ _ h => h) (Or.inl ⟨by rfl, ?_⟩) hHeld ?_ ?_; rotate_left
    ·rintro w' ⟨s0, s1, s2, s3, s4, s5, s6, s7⟩; go_simp
     with_reducible rfl
    rotate_left
    ·simp only [Act.put, sA, sB, sC, i64_w, i32_w]
     rfl
    refine take_ (i := 3) (N := some 21) (v := ?_) (a' := ?_) #[Y,Y,N,Y,N,N,N,N,N,N,N,N,N,N,N] rfl rfl (take_ofW HT_.out HW_.out (by kernel_rfl)) (fun _ _ _ h => h) (Or.inl ⟨by rfl, ?_⟩) hHeld ?_ ?_; rotate_left
    ·rintro w' ⟨s0, s1, s2, s3, s4, s5, s6, s7⟩; go_simp
     with_reducible rfl
    rotate_left
    ·simp only [Act.put, sA, sB, sC, i64_w, i32_w]
     rfl
    refine take_ (i := 4) (N := some 22) (v := ?_) (a' := ?_) #[Y,Y,N,Y,Y,N,N,N,N,N,N,N,N,N,N] rfl rfl (take_ofW HT_.out HW_.out (by kernel_rfl)) (fun _ _ _ h => h) (Or.inl ⟨by rfl, ?_⟩) hHeld ?_ ?_; rotate_left
    ·rintro w' ⟨s0, s1, s2, s3, s4, s5, s6, s7⟩; go_simp
     with_reducible rfl
    rotate_left
    ·simp only [Act.put, sA, sB, sC, i64_w, i32_w]
     rfl
    refine one_ (i := 2) (N := some 20) #[Y,Y,Y,Y,Y,N,N,N,N,N,N,N,N,N,N] rfl rfl (one_of HT_.out (by kernel_rfl)) (by decide) (fun K hK => ?_); refine goes_ Try.func60 (by kernel_rfl) rfl #[.agg #[.int .u64 t355, .int .u64 t356, .int .u64 t357, .int .u64 t358], .agg #[.int .u64 t360, .int .u64 t361, .int .u64 t362, .int .u64 t363]] (by rfl) rfl rfl (by (try simp only [List.map_toArray, List.map_cons, List.map_nil]); first | done | rfl | (simp only [List.length_drop, List.length_take]; rfl)) ?_
    with_reducible refine (sawtoothref02_less.calls t355 t356 t357 t358 t360 t361 t362 t363 t368 _ A75.out).mono ?_
    rintro e w86 ⟨rfl, hb⟩; refine ⟨_, rfl, ?_⟩; replace BK353 := bbZ BK353 hb; replace BK354 := bbZ BK354 hb; replace BK359 := bbZ BK359 hb; replace BK364 := bbZ BK364 hb; replace HB := Aside0.mk (below_step HB.out hb); (try clear hb); (try clear hb2); (try clear hk); (try clear hi); refine hK.out _ _ ⟨(blk_cell BK359.out 0).trans rfl, (blk_cell BK359.out 1).trans rfl, (blk_cell BK359.out 2).trans rfl, (blk_cell BK359.out 3).trans rfl, (blk_cell BK364.out 0).trans rfl, (blk_cell BK364.out 1).trans rfl, (blk_cell BK364.out 2).trans rfl, (blk_cell BK364.out 3).trans rfl⟩ (fun hHeld => ?_); clear hK K; refine norm_ (a' := ?_) ?_ ?_; rotate_left
    ·show Act.put _ (some 20) _ = _
     simp only [Act.put, sA, sB, sC, i64_w, i32_w]
     rfl
    refine one_ (i := 5) (N := some 23) #[Y,Y,Y,Y,Y,Y,N,N,N,N,N,N,N,N,N] rfl rfl (one_of HT_.out (by kernel_rfl)) (by decide) (fun K hK => ?_); refine goes_ Try.func60 (by kernel_rfl) rfl #[.agg #[.int .u64 t360, .int .u64 t361, .int .u64 t362, .int .u64 t363], .agg #[.int .u64 t355, .int .u64 t356, .int .u64 t357, .int .u64 t358]] (by rfl) rfl rfl (by (try simp only [List.map_toArray, List.map_cons, List.map_nil]); first | done | rfl | (simp only [List.length_drop, List.length_take]; rfl)) ?_
    with_reducible refine (sawtoothref02_less.calls t360 t361 t362 t363 t355 t356 t357 t358 t369 _ A76.out).mono ?_
    rintro e w87 ⟨rfl, hb⟩; refine ⟨_, rfl, ?_⟩; replace BK353 := bbZ BK353 hb; replace BK354 := bbZ BK354 hb; replace BK359 := bbZ BK359 hb; replace BK364 := bbZ BK364 hb; replace HB := Aside0.mk (below_step HB.out hb); (try clear hb); (try clear hb2); (try clear hk); (try clear hi); refine hK.out _ _ ⟨(blk_cell BK359.out 0).trans rfl, (blk_cell BK359.out 1).trans rfl, (blk_cell BK359.out 2).trans rfl, (blk_cell BK359.out 3).trans rfl, (blk_cell BK364.out 0).trans rfl, (blk_cell BK364.out 1).trans rfl, (blk_cell BK364.out 2).trans rfl, (blk_cell BK364.out 3).trans rfl⟩ (fun hHeld => ?_); clear hK K; refine norm_ (a' := ?_) ?_ ?_; rotate_left
    ·show Act.put _ (some 23) _ = _
     simp only [Act.put, sA, sB, sC, i64_w, i32_w]
     rfl
    refine pure_ (i := 6) (N := some 24) (v := ?_) (a' := ?_) #[Y,Y,Y,Y,Y,Y,Y,N,N,N,N,N,N,N,N] rfl rfl (any_of HT_.out (by kernel_rfl)) (fun _ _ _ h => h) (Or.inl ⟨by rfl, ?_⟩) ?_ ?_; rotate_left
    ·intro w'; go_simp
     with_reducible rfl
    rotate_left
    ·simp only [Act.put, sA, sB, sC, i64_w, i32_w]
     rfl
    refine pure_ (i := 7) (N := some 25) (v := ?_) (a' := ?_) #[Y,Y,Y,Y,Y,Y,Y,Y,N,N,N,N,N,N,N] rfl rfl (any_of HT_.out (by kernel_rfl)) (fun _ _ _ h => h) (Or.inl ⟨by rfl, ?_⟩) ?_ ?_; rotate_left
    ·intro w'; go_simp
     with_reducible rfl
    rotate_left
    ·simp only [Act.put, sA, sB, sC, i64_w, i32_w]
     rfl
    refine pure_ (i := 8) (N := some 26) (v := undef) (a' := ?_) #[Y,Y,Y,Y,Y,Y,Y,Y,Y,N,N,N,N,N,N] rfl rfl (any_of HT_.out (by kernel_rfl)) (fun _ _ _ h => h) (Or.inr ⟨by rfl, rfl⟩) ?_ ?_; rotate_left
    ·simp only [Act.put, sA, sB, sC, i64_w, i32_w]
     rfl
    refine pure_ (i := 9) (N := some 27) (v := undef) (a' := ?_) #[Y,Y,Y,Y,Y,Y,Y,Y,Y,Y,N,N,N,N,N] rfl rfl (any_of HT_.out (by kernel_rfl)) (fun _ _ _ h => h) (Or.inr ⟨by rfl, rfl⟩) ?_ ?_; rotate_left
    ·simp only [Act.put, sA, sB, sC, i64_w, i32_w]
     rfl
    refine pure_ (i := 10) (N := some 28) (v := undef) (a' := ?_) #[Y,Y,Y,Y,Y,Y,Y,Y,Y,Y,Y,N,N,N,N] rfl rfl (any_of HT_.out (by kernel_rfl)) (fun _ _ _ h => h) (Or.inr ⟨by rfl, rfl⟩) ?_ ?_; rotate_left
    ·simp only [Act.put, sA, sB, sC, i64_w, i32_w]
     rfl
    refine pure_ (i := 11) (N := some 29) (v := undef) (a' := ?_) #[Y,Y,Y,Y,Y,Y,Y,Y,Y,Y,Y,Y,N,N,N] rfl rfl (any_of HT_.out (by kernel_rfl)) (fun _ _ _ h => h) (Or.inr ⟨by rfl, rfl⟩) ?_ ?_; rotate_left
    ·simp only [Act.put, sA, sB, sC, i64_w, i32_w]
     rfl
    refine pure_ (i := 12) (N := some 30) (v := undef) (a' := ?_) #[Y,Y,Y,Y,Y,Y,Y,Y,Y,Y,Y,Y,Y,N,N] rfl rfl (any_of HT_.out (by kernel_rfl)) (fun _ _ _ h => h) (Or.inr ⟨by rfl, rfl⟩) ?_ ?_; rotate_left
    ·simp only [Act.put, sA, sB, sC, i64_w, i32_w]
     rfl
    refine pure_ (i := 13) (N := some 31) (v := undef) (a' := ?_) #[Y,Y,Y,Y,Y,Y,Y,Y,Y,Y,Y,Y,Y,Y,N] rfl rfl (any_of HT_.out (by kernel_rfl)) (fun _ _ _ h => h) (Or.inr ⟨by rfl, rfl⟩) ?_ ?_; rotate_left
    ·simp only [Act.put, sA, sB, sC, i64_w, i32_w]
     rfl
    refine pure_ (i := 14) (N := some 32) (v := ?_) (a' := ?_) #[Y,Y,Y,Y,Y,Y,Y,Y,Y,Y,Y,Y,Y,Y,Y] rfl rfl (any_of HT_.out (by kernel_rfl)) (fun _ _ _ h => h) (Or.inl ⟨by rfl, ?_⟩) ?_ ?_; rotate_left
    ·intro w'; go_simp
     with_reducible rfl
    rotate_left
    ·simp only [Act.put, sA, sB, sC, i64_w, i32_w]
     rfl
    refine done_ (done_of HT_.out (by kernel_rfl)) ?_
    try go_wp2
    go_meet
    case rel => exact ⟨_, (false), (by first | rfl | (simp; done) | (simp [*]; done)), H', ⟨by first | omega | exact Nat.le_refl _⟩, ⟨by (with_reducible repeat (first | refine blk_drewN ?_ _ | refine blk_drew ?_ | refine blk_alloc ?_ _)); exact BK353.out⟩, ⟨by (with_reducible repeat (first | refine blk_drewN ?_ _ | refine blk_drew ?_ | refine blk_alloc ?_ _)); exact BK354.out⟩, ⟨by (with_reducible repeat (first | refine blk_drewN ?_ _ | refine blk_drew ?_ | refine blk_alloc ?_ _)); exact BK359.out⟩, ⟨by (with_reducible repeat (first | refine blk_drewN ?_ _ | refine blk_drew ?_ | refine blk_alloc ?_ _)); exact BK364.out⟩, ⟨by repeat (first | (with_reducible first | exact HB.out | apply below_alloc | apply pw_below_drewN | apply below_drew1 | refine below_set ?_ (Aside0.out (by assumption))) | exact HB.out)⟩⟩
  case rest =>
   clear HC54
   try clear p2
   try clear c5
   try clear c6
   try clear c7
   try clear c7b0
   try clear c7b1
   try clear c7b2
   try clear c51
   try clear c57
   try clear c60
   try clear c61
   try clear c62
   try clear c65
   try clear c67
   try clear c68
   try clear c69
   try clear c77
   try clear c77b0
   try clear c77b1
   try clear c77b2
   try clear hcz52_0
   try clear hcz52_1
   try clear hcz52_2
   try clear hcz58_0
   try clear hcz58_1
   try clear hcz58_2
   try clear hcz63_0
   try clear hcz63_1
   try clear hcz63_2
   try clear hcz63_3
   try clear hcz64_0
   try clear hcz64_1
   try clear hcz64_2
   try clear hcz70_0
   try clear hcz70_1
   try clear hcz70_2
   try clear hcz70_3
   try clear hfz52_0
   try clear hfz52_1
   try clear hfz52_2
   try clear hfz58_0
   try clear hfz58_1
   try clear hfz58_2
   try clear hfz63_0
   try clear hfz63_1
   try clear hfz63_2
   try clear hfz63_3
   try clear hfz64_0
   try clear hfz64_1
   try clear hfz64_2
   try clear hfz70_0
   try clear hfz70_1
   try clear hfz70_2
   try clear hfz70_3
   obtain ⟨kq, x32_53, rfl, HA, HJ53, BK353, BK354, BK359, BK364, HB⟩ := hcut
   cases kq with
   | zero => exact absurd HA.out (by simp [sawtoothref02_Cmp.j0])
   | succ kj53 =>
    have H := HA.out; clear HA; simp only [sawtoothref02_Cmp.j0] at H
    by_cases c88 : x32_53 = true
    ·subst c88
     have H1 : (some 1) = some r := by rw [if_pos rfl] at H; exact H
     clear H; have H := H1; clear H1; obtain rfl := Option.some.inj H
     go_wp2
     go_ret
     exact ⟨by first | rfl | (simp [errW_none, errW_some] <;> rfl) | (simp [*, errW_none, errW_some] <;> rfl), by repeat (first | (with_reducible first | exact HB.out | apply below_alloc | apply pw_below_drewN | apply below_drew1 | refine below_set ?_ (Aside0.out (by assumption))) | exact HB.out)⟩
    ·replace c88 := Bool.eq_false_iff.mpr c88
     subst c88
     have H1 : ((sawtoothref02_less.f t355 t356 t357 t358 t360 t361 t362 t363).bind fun t372 => ((sawtoothref02_less.f t360 t361 t362 t363 t355 t356 t357 t358).bind fun t373 => (if (t372 != t373) = true then (some (-1)) else (some 0)))) = some r := by rw [if_neg (show ¬ (false = true) by decide)] at H; exact H
     clear H; have H := H1; clear H1; replace H := Option.bind_eq_some_iff.mp H; obtain ⟨t372, A890, H⟩ := H; replace H : ((sawtoothref02_less.f t360 t361 t362 t363 t355 t356 t357 t358).bind fun t373 => (if (t372 != t373) = true then (some (-1)) else (some 0))) = some r := H; have A89 := Aside0.mk A890; clear A890; replace H := Option.bind_eq_some_iff.mp H; obtain ⟨t373, A900, H⟩ := H; replace H : (if (t372 != t373) = true then (some (-1)) else (some 0)) = some r := H; have A90 := Aside0.mk A900; clear A900
     by_cases c91 : (t372 != t373) = true
     ·rw [if_pos c91] at H
      have c91b0 : (t372 != t373) = true := c91
      (try (have c91b1 : decide (t372 = t373) = false := by simpa using c91))
      (try (have c91b2 : (t372 == t373) = false := by simpa using c91))
      (try (have c91b3 : ¬ (t372 = t373) := by simpa using c91))
      clear c91; obtain rfl := Option.some.inj H
      try go_wp2
      replace BK353 := Aside0.mk (blk_drew BK353.out); replace BK354 := Aside0.mk (blk_drew BK354.out); replace BK359 := Aside0.mk (blk_drew BK359.out); replace BK364 := Aside0.mk (blk_drew BK364.out); replace HB := Aside0.mk (below_drew1 HB.out); refine start_ (n := 7) (S := fun w' => w'.cell? ⟨gb359, 0, none⟩ = some (.int .u64 t355) ∧ w'.cell? ⟨gb359, 1, none⟩ = some (.int .u64 t356) ∧ w'.cell? ⟨gb359, 2, none⟩ = some (.int .u64 t357) ∧ w'.cell? ⟨gb359, 3, none⟩ = some (.int .u64 t358) ∧ w'.cell? ⟨gb364, 0, none⟩ = some (.int .u64 t360) ∧ w'.cell? ⟨gb364, 1, none⟩ = some (.int .u64 t361) ∧ w'.cell? ⟨gb364, 2, none⟩ = some (.int .u64 t362) ∧ w'.cell? ⟨gb364, 3, none⟩ = some (.int .u64 t363)) (ds := []) #[N,N,N,N,N,N,N] (by kernel_rfl) rfl rfl ⟨(blk_cell BK359.out 0).trans rfl, (blk_cell BK359.out 1).trans rfl, (blk_cell BK359.out 2).trans rfl, (blk_cell BK359.out 3).trans rfl, (blk_cell BK364.out 0).trans rfl, (blk_cell BK364.out 1).trans rfl, (blk_cell BK364.out 2).trans rfl, (blk_cell BK364.out 3).trans rfl⟩ (fun hHeld => ?_)
      generalize wc.drew = w92 at BK353 BK354 BK359 BK364 HB hHeld ⊢
      refine take_ (i := 0) (N := some 33) (v := ?_) (a' := ?_) #[Y,N,N,N,N,N,N] rfl rfl (by kernel_rfl) (fun _ _ _ h => h) (Or.inl ⟨by rfl, ?_⟩) hHeld ?_ ?_; rotate_left
      ·rintro w' ⟨s0, s1, s2, s3, s4, s5, s6, s7⟩; go_simp
       with_reducible rfl
      rotate_left
      ·simp only [Act.put, sA, sB, sC, i64_w, i32_w]
       rfl
      refine take_ (i := 1) (N := some 34) (v := ?_) (a' := ?_) #[Y,Y,N,N,N,N,N] rfl rfl (by kernel_rfl) (fun _ _ _ h => h) (Or.inl ⟨by rfl, ?_⟩) hHeld ?_ ?_; rotate_left
      ·rintro w' ⟨s0, s1, s2, s3, s4, s5, s6, s7⟩; go_simp
       with_reducible rfl
      rotate_left
      ·simp only [Act.put, sA, sB, sC, i64_w, i32_w]
       rfl
      refine take_ (i := 3) (N := some 36) (v := ?_) (a' := ?_) #[Y,Y,N,Y,N,N,N] rfl rfl (by kernel_rfl) (fun _ _ _ h => h) (Or.inl ⟨by rfl, ?_⟩) hHeld ?_ ?_; rotate_left
      ·rintro w' ⟨s0, s1, s2, s3, s4, s5, s6, s7⟩; go_simp
       with_reducible rfl
      rotate_left
      ·simp only [Act.put, sA, sB, sC, i64_w, i32_w]
       rfl
      refine take_ (i := 4) (N := some 37) (v := ?_) (a' := ?_) #[Y,Y,N,Y,Y,N,N] rfl rfl (by kernel_rfl) (fun _ _ _ h => h) (Or.inl ⟨by rfl, ?_⟩) hHeld ?_ ?_; rotate_left
      ·rintro w' ⟨s0, s1, s2, s3, s4, s5, s6, s7⟩; go_simp
       with_reducible rfl
      rotate_left
      ·simp only [Act.put, sA, sB, sC, i64_w, i32_w]
       rfl
      refine one_ (i := 2) (N := some 35) #[Y,Y,Y,Y,Y,N,N] rfl rfl (by kernel_rfl) (by decide) (fun K hK => ?_); refine goes_ Try.func60 (by kernel_rfl) rfl #[.agg #[.int .u64 t355, .int .u64 t356, .int .u64 t357, .int .u64 t358], .agg #[.int .u64 t360, .int .u64 t361, .int .u64 t362, .int .u64 t363]] (by rfl) rfl rfl (by (try simp only [List.map_toArray, List.map_cons, List.map_nil]); first | done | rfl | (simp only [List.length_drop, List.length_take]; rfl)) ?_
      with_reducible refine (sawtoothref02_less.calls t355 t356 t357 t358 t360 t361 t362 t363 t372 _ A89.out).mono ?_
      rintro e w93 ⟨rfl, hb⟩; refine ⟨_, rfl, ?_⟩; replace BK353 := bbZ BK353 hb; replace BK354 := bbZ BK354 hb; replace BK359 := bbZ BK359 hb; replace BK364 := bbZ BK364 hb; replace HB := Aside0.mk (below_step HB.out hb); (try clear hb); (try clear hb2); (try clear hk); (try clear hi); refine hK.out _ _ ⟨(blk_cell BK359.out 0).trans rfl, (blk_cell BK359.out 1).trans rfl, (blk_cell BK359.out 2).trans rfl, (blk_cell BK359.out 3).trans rfl, (blk_cell BK364.out 0).trans rfl, (blk_cell BK364.out 1).trans rfl, (blk_cell BK364.out 2).trans rfl, (blk_cell BK364.out 3).trans rfl⟩ (fun hHeld => ?_); clear hK K; refine norm_ (a' := ?_) ?_ ?_; rotate_left
      ·show Act.put _ (some 35) _ = _
       simp only [Act.put, sA, sB, sC, i64_w, i32_w]
       rfl
      refine one_ (i := 5) (N := some 38) #[Y,Y,Y,Y,Y,Y,N] rfl rfl (by kernel_rfl) (by decide) (fun K hK => ?_); refine goes_ Try.func60 (by kernel_rfl) rfl #[.agg #[.int .u64 t360, .int .u64 t361, .int .u64 t362, .int .u64 t363], .agg #[.int .u64 t355, .int .u64 t356, .int .u64 t357, .int .u64 t358]] (by rfl) rfl rfl (by (try simp only [List.map_toArray, List.map_cons, List.map_nil]); first | done | rfl | (simp only [List.length_drop, List.length_take]; rfl)) ?_
      with_reducible refine (sawtoothref02_less.calls t360 t361 t362 t363 t355 t356 t357 t358 t373 _ A90.out).mono ?_
      rintro e w94 ⟨rfl, hb⟩; refine ⟨_, rfl, ?_⟩; replace BK353 := bbZ BK353 hb; replace BK354 := bbZ BK354 hb; replace BK359 := bbZ BK359 hb; replace BK364 := bbZ BK364 hb; replace HB := Aside0.mk (below_step HB.out hb); (try clear hb); (try clear hb2); (try clear hk); (try clear hi); refine hK.out _ _ ⟨(blk_cell BK359.out 0).trans rfl, (blk_cell BK359.out 1).trans rfl, (blk_cell BK359.out 2).trans rfl, (blk_cell BK359.out 3).trans rfl, (blk_cell BK364.out 0).trans rfl, (blk_cell BK364.out 1).trans rfl, (blk_cell BK364.out 2).trans rfl, (blk_cell BK364.out 3).trans rfl⟩ (fun hHeld => ?_); clear hK K; refine norm_ (a' := ?_) ?_ ?_; rotate_left
      ·show Act.put _ (some 38) _ = _
       simp only [Act.put, sA, sB, sC, i64_w, i32_w]
       rfl
      refine pure_ (i := 6) (N := some 39) (v := ?_) (a' := ?_) #[Y,Y,Y,Y,Y,Y,Y] rfl rfl (by kernel_rfl) (fun _ _ _ h => h) (Or.inl ⟨by rfl, ?_⟩) ?_ ?_; rotate_left
      ·intro w'; go_simp
       with_reducible rfl
      rotate_left
      ·simp only [Act.put, sA, sB, sC, i64_w, i32_w]
       rfl
      refine done_ (by kernel_rfl) ?_
      try go_wp2
      go_ret
      exact ⟨by first | rfl | (simp [errW_none, errW_some] <;> rfl) | (simp [*, errW_none, errW_some] <;> rfl), by repeat (first | (with_reducible first | exact HB.out | apply below_alloc | apply pw_below_drewN | apply below_drew1 | refine below_set ?_ (Aside0.out (by assumption))) | exact HB.out)⟩
     ·rw [if_neg c91] at H
      have c91b0 : (t372 != t373) = false := by simpa using c91
      (try (have c91b1 : decide (t372 = t373) = true := by simpa using c91))
      (try (have c91b2 : (t372 == t373) = true := by simpa using c91))
      clear c91; obtain rfl := Option.some.inj H
      try go_wp2
      replace BK353 := Aside0.mk (blk_drew BK353.out); replace BK354 := Aside0.mk (blk_drew BK354.out); replace BK359 := Aside0.mk (blk_drew BK359.out); replace BK364 := Aside0.mk (blk_drew BK364.out); replace HB := Aside0.mk (below_drew1 HB.out); refine start_ (n := 7) (S := fun w' => w'.cell? ⟨gb359, 0, none⟩ = some (.int .u64 t355) ∧ w'.cell? ⟨gb359, 1, none⟩ = some (.int .u64 t356) ∧ w'.cell? ⟨gb359, 2, none⟩ = some (.int .u64 t357) ∧ w'.cell? ⟨gb359, 3, none⟩ = some (.int .u64 t358) ∧ w'.cell? ⟨gb364, 0, none⟩ = some (.int .u64 t360) ∧ w'.cell? ⟨gb364, 1, none⟩ = some (.int .u64 t361) ∧ w'.cell? ⟨gb364, 2, none⟩ = some (.int .u64 t362) ∧ w'.cell? ⟨gb364, 3, none⟩ = some (.int .u64 t363)) (ds := []) #[N,N,N,N,N,N,N] (by kernel_rfl) rfl rfl ⟨(blk_cell BK359.out 0).trans rfl, (blk_cell BK359.out 1).trans rfl, (blk_cell BK359.out 2).trans rfl, (blk_cell BK359.out 3).trans rfl, (blk_cell BK364.out 0).trans rfl, (blk_cell BK364.out 1).trans rfl, (blk_cell BK364.out 2).trans rfl, (blk_cell BK364.out 3).trans rfl⟩ (fun hHeld => ?_)
      generalize wc.drew = w95 at BK353 BK354 BK359 BK364 HB hHeld ⊢
      refine take_ (i := 0) (N := some 33) (v := ?_) (a' := ?_) #[Y,N,N,N,N,N,N] rfl rfl (by kernel_rfl) (fun _ _ _ h => h) (Or.inl ⟨by rfl, ?_⟩) hHeld ?_ ?_; rotate_left
      ·rintro w' ⟨s0, s1, s2, s3, s4, s5, s6, s7⟩; go_simp
       with_reducible rfl
      rotate_left
      ·simp only [Act.put, sA, sB, sC, i64_w, i32_w]
       rfl
      refine take_ (i := 1) (N := some 34) (v := ?_) (a' := ?_) #[Y,Y,N,N,N,N,N] rfl rfl (by kernel_rfl) (fun _ _ _ h => h) (Or.inl ⟨by rfl, ?_⟩) hHeld ?_ ?_; rotate_left
      ·rintro w' ⟨s0, s1, s2, s3, s4, s5, s6, s7⟩; go_simp
       with_reducible rfl
      rotate_left
      ·simp only [Act.put, sA, sB, sC, i64_w, i32_w]
       rfl
      refine take_ (i := 3) (N := some 36) (v := ?_) (a' := ?_) #[Y,Y,N,Y,N,N,N] rfl rfl (by kernel_rfl) (fun _ _ _ h => h) (Or.inl ⟨by rfl, ?_⟩) hHeld ?_ ?_; rotate_left
      ·rintro w' ⟨s0, s1, s2, s3, s4, s5, s6, s7⟩; go_simp
       with_reducible rfl
      rotate_left
      ·simp only [Act.put, sA, sB, sC, i64_w, i32_w]
       rfl
      refine take_ (i := 4) (N := some 37) (v := ?_) (a' := ?_) #[Y,Y,N,Y,Y,N,N] rfl rfl (by kernel_rfl) (fun _ _ _ h => h) (Or.inl ⟨by rfl, ?_⟩) hHeld ?_ ?_; rotate_left
      ·rintro w' ⟨s0, s1, s2, s3, s4, s5, s6, s7⟩; go_simp
       with_reducible rfl
      rotate_left
      ·simp only [Act.put, sA, sB, sC, i64_w, i32_w]
       rfl
      refine one_ (i := 2) (N := some 35) #[Y,Y,Y,Y,Y,N,N] rfl rfl (by kernel_rfl) (by decide) (fun K hK => ?_); refine goes_ Try.func60 (by kernel_rfl) rfl #[.agg #[.int .u64 t355, .int .u64 t356, .int .u64 t357, .int .u64 t358], .agg #[.int .u64 t360, .int .u64 t361, .int .u64 t362, .int .u64 t363]] (by rfl) rfl rfl (by (try simp only [List.map_toArray, List.map_cons, List.map_nil]); first | done | rfl | (simp only [List.length_drop, List.length_take]; rfl)) ?_
      with_reducible refine (sawtoothref02_less.calls t355 t356 t357 t358 t360 t361 t362 t363 t372 _ A89.out).mono ?_
      rintro e w96 ⟨rfl, hb⟩; refine ⟨_, rfl, ?_⟩; replace BK353 := bbZ BK353 hb; replace BK354 := bbZ BK354 hb; replace BK359 := bbZ BK359 hb; replace BK364 := bbZ BK364 hb; replace HB := Aside0.mk (below_step HB.out hb); (try clear hb); (try clear hb2); (try clear hk); (try clear hi); refine hK.out _ _ ⟨(blk_cell BK359.out 0).trans rfl, (blk_cell BK359.out 1).trans rfl, (blk_cell BK359.out 2).trans rfl, (blk_cell BK359.out 3).trans rfl, (blk_cell BK364.out 0).trans rfl, (blk_cell BK364.out 1).trans rfl, (blk_cell BK364.out 2).trans rfl, (blk_cell BK364.out 3).trans rfl⟩ (fun hHeld => ?_); clear hK K; refine norm_ (a' := ?_) ?_ ?_; rotate_left
      ·show Act.put _ (some 35) _ = _
       simp only [Act.put, sA, sB, sC, i64_w, i32_w]
       rfl
      refine one_ (i := 5) (N := some 38) #[Y,Y,Y,Y,Y,Y,N] rfl rfl (by kernel_rfl) (by decide) (fun K hK => ?_); refine goes_ Try.func60 (by kernel_rfl) rfl #[.agg #[.int .u64 t360, .int .u64 t361, .int .u64 t362, .int .u64 t363], .agg #[.int .u64 t355, .int .u64 t356, .int .u64 t357, .int .u64 t358]] (by rfl) rfl rfl (by (try simp only [List.map_toArray, List.map_cons, List.map_nil]); first | done | rfl | (simp only [List.length_drop, List.length_take]; rfl)) ?_
      with_reducible refine (sawtoothref02_less.calls t360 t361 t362 t363 t355 t356 t357 t358 t373 _ A90.out).mono ?_
      rintro e w97 ⟨rfl, hb⟩; refine ⟨_, rfl, ?_⟩; replace BK353 := bbZ BK353 hb; replace BK354 := bbZ BK354 hb; replace BK359 := bbZ BK359 hb; replace BK364 := bbZ BK364 hb; replace HB := Aside0.mk (below_step HB.out hb); (try clear hb); (try clear hb2); (try clear hk); (try clear hi); refine hK.out _ _ ⟨(blk_cell BK359.out 0).trans rfl, (blk_cell BK359.out 1).trans rfl, (blk_cell BK359.out 2).trans rfl, (blk_cell BK359.out 3).trans rfl, (blk_cell BK364.out 0).trans rfl, (blk_cell BK364.out 1).trans rfl, (blk_cell BK364.out 2).trans rfl, (blk_cell BK364.out 3).trans rfl⟩ (fun hHeld => ?_); clear hK K; refine norm_ (a' := ?_) ?_ ?_; rotate_left
      ·show Act.put _ (some 38) _ = _
       simp only [Act.put, sA, sB, sC, i64_w, i32_w]
       rfl
      refine pure_ (i := 6) (N := some 39) (v := ?_) (a' := ?_) #[Y,Y,Y,Y,Y,Y,Y] rfl rfl (by kernel_rfl) (fun _ _ _ h => h) (Or.inl ⟨by rfl, ?_⟩) ?_ ?_; rotate_left
      ·intro w'; go_simp
       with_reducible rfl
      rotate_left
      ·simp only [Act.put, sA, sB, sC, i64_w, i32_w]
       rfl
      refine done_ (by kernel_rfl) ?_
      try go_wp2
      go_ret
      exact ⟨by first | rfl | (simp [errW_none, errW_some] <;> rfl) | (simp [*, errW_none, errW_some] <;> rfl), by repeat (first | (with_reducible first | exact HB.out | apply below_alloc | apply pw_below_drewN | apply below_drew1 | refine below_set ?_ (Aside0.out (by assumption))) | exact HB.out)⟩

end Go.Proofs.Ytepmnfjcmppghaa.Px
