/- Printed by px.py, over the kit's print. Conditions: none beside the theorems' own. -/
import Derived.Test.YtceiakiihkaamaaDoorPx0
import Derived.Test.YtceiakiihkaamaaDoorPx30
import Derived.Test.YtceiakiihkaamaaDoorPx32
import Derived.Test.YtceiakiihkaamaaDoorPx35
namespace Go.Proofs.YtceiakiihkaamaaDoor.Px
open Go.RowKit Go.Proofs.YtceiakiihkaamaaDoorW.PrintWords Go.Proofs.YtceiakiihkaamaaDoorW.PrintLast Go.Proofs.YtceiakiihkaamaaDoorW.PrintMore
attribute [local go_sem] max2_int min2_int max_two min_two max_three min_three max_four min_four
set_option linter.unusedVariables false
set_option linter.unusedSimpArgs false

/-! ### sawtoothref02_Div: function 75 -/
mutual
noncomputable def sawtoothref02_Div.l0 : Nat → Int → Int → Int → Int → Bool → Int → Int → Bool → Int → Int → Option (Bool × Int × Int × Int × Int)
 | 0, _, _, _, _, _, _, _, _, _, _ => none
 | k + 1, x1, x7, x8, x10, x474000, x474001, x474002, x476000, x476001, x476002 => if x10 < 64 then (if x7 ≥ 9223372036854775808 then (sawtoothref02_Div.l0 k x1 (IntKind.u64.wrap ((IntKind.u64.wrap ((IntKind.u64.wrap (2 * x7)) + (IntKind.u64.wrap (Int.tdiv x8 9223372036854775808)))) - x1)) (IntKind.u64.wrap (2 * x8)) (wrap64 (x10 + 1)) x474000 x474001 x474002 x476000 x476001 (IntKind.u64.wrap ((IntKind.u64.wrap (2 * x476002)) + 1))) else (if (IntKind.u64.wrap ((IntKind.u64.wrap (2 * x7)) + (IntKind.u64.wrap (Int.tdiv x8 9223372036854775808)))) ≥ x1 then (sawtoothref02_Div.l0 k x1 (IntKind.u64.wrap ((IntKind.u64.wrap ((IntKind.u64.wrap (2 * x7)) + (IntKind.u64.wrap (Int.tdiv x8 9223372036854775808)))) - x1)) (IntKind.u64.wrap (2 * x8)) (wrap64 (x10 + 1)) x474000 x474001 x474002 x476000 x476001 (IntKind.u64.wrap ((IntKind.u64.wrap (2 * x476002)) + 1))) else (sawtoothref02_Div.l0 k x1 (IntKind.u64.wrap ((IntKind.u64.wrap (2 * x7)) + (IntKind.u64.wrap (Int.tdiv x8 9223372036854775808)))) (IntKind.u64.wrap (2 * x8)) (wrap64 (x10 + 1)) x474000 x474001 x474002 x476000 x476001 (IntKind.u64.wrap (2 * x476002))))) else ((sawtoothref02_digits.f x476000 x476001 x476002).bind fun bt476 => ((sawtoothref02_wholeS.f bt476.1 bt476.2.1 bt476.2.2.1 bt476.2.2.2 x476000).bind fun bt480 => (if x474000 = true then (sawtoothref02_Div.j1 k x1 x7 (x7 == 0) bt480.1 bt480.2.1 bt480.2.2) else (sawtoothref02_Div.j1 k x1 x7 true bt480.1 bt480.2.1 bt480.2.2))))
noncomputable def sawtoothref02_Div.j1 : Nat → Int → Int → Bool → Bool → Int → Int → Option (Bool × Int × Int × Int × Int)
 | 0, _, _, _, _, _, _ => none
 | k + 1, x1, x7, x71, x476000, x476001, x476002 => if x71 = true then (some (x476000, x476001, x476002, x7, 0)) else ((sawtoothref02_OfS.f (-1)).bind fun bt483 => ((sawtoothref02_AddS.f true x476001 x476002 bt483.1 bt483.2.1 bt483.2.2).bind fun bt486 => (if bt486.2.2.2 = 0 then (some (bt486.1, bt486.2.1, bt486.2.2.1, IntKind.u64.wrap (x1 - x7), 0)) else (some (false, 0, 0, 0, bt486.2.2.2)))))
end
noncomputable def sawtoothref02_Div.f (k : Nat) (a0_0 : Bool) (a0_1 : Int) (a0_2 : Int) (a1 : Int) : Option (Bool × Int × Int × Int × Int) := if a1 = 0 then (some (false, 0, 0, 0, 20)) else (sawtoothref02_Div.l0 k a1 (Int.tmod a0_1 a1) a0_2 0 a0_0 a0_1 a0_2 a0_0 (IntKind.u64.wrap (Int.tdiv a0_1 a1)) 0)
theorem sawtoothref02_Div.mono_l : ∀ k, (∀ y0 y1 y2 y3 y4 y5 y6 y7 y8 y9, LeO (sawtoothref02_Div.l0 k y0 y1 y2 y3 y4 y5 y6 y7 y8 y9) (sawtoothref02_Div.l0 (k + 1) y0 y1 y2 y3 y4 y5 y6 y7 y8 y9)) ∧ (∀ y0 y1 y2 y3 y4 y5, LeO (sawtoothref02_Div.j1 k y0 y1 y2 y3 y4 y5) (sawtoothref02_Div.j1 (k + 1) y0 y1 y2 y3 y4 y5))
 | 0 => ⟨fun _ _ _ _ _ _ _ _ _ _ r h => by simp [sawtoothref02_Div.l0] at h, fun _ _ _ _ _ _ r h => by simp [sawtoothref02_Div.j1] at h⟩
 | k + 1 => by
  obtain ⟨ih0, ih1⟩ := sawtoothref02_Div.mono_l k; refine ⟨?_, ?_⟩
  ·intro y0 y1 y2 y3 y4 y5 y6 y7 y8 y9
   unfold sawtoothref02_Div.l0
   repeat' first
   | (with_reducible exact ih0 _ _ _ _ _ _ _ _ _ _)
   | (with_reducible exact ih1 _ _ _ _ _ _)
   | (with_reducible exact LeO.refl _)
   | (with_reducible exact LeO.none _)
   | (with_reducible refine LeO.ite ?_ ?_)
   | (with_reducible refine LeO.bind ?_ (fun _ => ?_))
   | exact ih0 _ _ _ _ _ _ _ _ _ _
   | exact ih1 _ _ _ _ _ _
   | exact LeO.none _
   | refine LeO.ite ?_ ?_
   | refine LeO.bind ?_ (fun _ => ?_)
  ·intro y0 y1 y2 y3 y4 y5
   unfold sawtoothref02_Div.j1
   repeat' first
   | (with_reducible exact ih0 _ _ _ _ _ _ _ _ _ _)
   | (with_reducible exact ih1 _ _ _ _ _ _)
   | (with_reducible exact LeO.refl _)
   | (with_reducible exact LeO.none _)
   | (with_reducible refine LeO.ite ?_ ?_)
   | (with_reducible refine LeO.bind ?_ (fun _ => ?_))
   | exact ih0 _ _ _ _ _ _ _ _ _ _
   | exact ih1 _ _ _ _ _ _
   | exact LeO.none _
   | refine LeO.ite ?_ ?_
   | refine LeO.bind ?_ (fun _ => ?_)
theorem sawtoothref02_Div.mono : ∀ a0 a1 a2 a3 k, LeO (sawtoothref02_Div.f k a0 a1 a2 a3) (sawtoothref02_Div.f (k + 1) a0 a1 a2 a3) := by
 intro a0 a1 a2 a3 k; obtain ⟨ih0, ih1⟩ := sawtoothref02_Div.mono_l k
 unfold sawtoothref02_Div.f
 repeat' first
   | (with_reducible exact ih0 _ _ _ _ _ _ _ _ _ _)
   | (with_reducible exact ih1 _ _ _ _ _ _)
   | (with_reducible exact LeO.refl _)
   | (with_reducible exact LeO.none _)
   | (with_reducible refine LeO.ite ?_ ?_)
   | (with_reducible refine LeO.bind ?_ (fun _ => ?_))
   | exact ih0 _ _ _ _ _ _ _ _ _ _
   | exact ih1 _ _ _ _ _ _
   | exact LeO.none _
   | refine LeO.ite ?_ ?_
   | refine LeO.bind ?_ (fun _ => ?_)
def sawtoothref02_Div.T5 : Bool × List (List Nat × List Nat) := (true, [([], []), ([0], [0]), ([], []), ([2], [2]), ([], []), ([3, 4], [3, 4]), ([1, 5], [1, 5]), ([], []), ([7, 6, 0, 1, 2, 3, 4, 5, 6, 7], [6, 7])])
def sawtoothref02_Div.B5 : List Nat := [0, 1, 0, 4, 0, 28, 63, 0, 255]
theorem sawtoothref02_Div.tab5 : rtab .any (opsOf Tryd.f75 5) = sawtoothref02_Div.T5 := by kernel_rfl
theorem sawtoothref02_Div.bits5 : waitsOk sawtoothref02_Div.T5.2 sawtoothref02_Div.B5 = true := by kernel_rfl
def sawtoothref02_Div.T20 : Bool × List (List Nat × List Nat) := (true, [([], []), ([], []), ([0, 1, 1], [0, 1]), ([2], [2]), ([3], [3]), ([3], [3]), ([], []), ([6, 4, 2, 0, 1, 2, 3, 4, 6], [4, 6]), ([5, 7, 0, 1, 2, 3, 4, 5, 6, 7], [5])])
def sawtoothref02_Div.B20 : List Nat := [0, 0, 3, 7, 15, 15, 0, 95, 255]
theorem sawtoothref02_Div.tab20 : rtab .any (opsOf Tryd.f75 20) = sawtoothref02_Div.T20 := by kernel_rfl
theorem sawtoothref02_Div.bits20 : waitsOk sawtoothref02_Div.T20.2 sawtoothref02_Div.B20 = true := by kernel_rfl
set_option maxHeartbeats 8000000 in
set_option maxRecDepth 100000 in
theorem sawtoothref02_Div.calls (k : Nat) (a0_0 : Bool) (a0_1 : Int) (a0_2 : Int) (a1 : Int) (r1 : Bool) (r2 : Int) (r3 : Int) (r4 : Int) (r5 : Int) (w : World) (h : sawtoothref02_Div.f k a0_0 a0_1 a0_2 a1 = some (r1, r2, r3, r4, r5)) :
  Calls Tryd.prog 75 #[.agg #[.bool a0_0, .int .u64 a0_1, .int .u64 a0_2], .int .u64 a1] w fun e w' => e = .returned (.tuple #[.agg #[.bool r1, .int .u64 r2, .int .u64 r3], .int .u64 r4, .int .i64 r5]) ∧ Below w.heap.size w w' := by
 have hu35 := Tryd.underlying35; have HB := Aside0.mk (Below.refl w.heap.size w); have H : (if a1 = 0 then (some (false, 0, 0, 0, 20)) else (sawtoothref02_Div.l0 k a1 (Int.tmod a0_1 a1) a0_2 0 a0_0 a0_1 a0_2 a0_0 (IntKind.u64.wrap (Int.tdiv a0_1 a1)) 0)) = some (r1, r2, r3, r4, r5) := h; clear h
 by_cases c3 : a1 = 0
 ·rw [if_pos c3] at H
  have c3b0 : (a1 == 0) = true := beq_iff_eq.mpr c3; have c3b1 : (a1 != 0) = false := bne_eq_false_iff_eq.mpr c3; clear c3; simp only [Option.some.injEq, Prod.mk.injEq] at H; obtain ⟨rfl, rfl, rfl, rfl, rfl⟩ := H
  go_enter Tryd.func75, Tryd.ntmps75
  go_wp2_with (first | ((with_reducible refine gate_dst (N := 2) rfl ?_); refine box_event ?hg (N := 2) ?hd (cs := #[.bool a0_0, .int .u64 a0_1, .int .u64 a0_2]) (t := 35) ?hr ?_; (case hd => rfl); (case hg => rfl); (case hr => first | (go_simp; done) | (go_simp; rfl)); intro gb473 hg w4 hbox hb; have BK473 := Aside0.mk (hbox); obtain ⟨GW473, nHB⟩ := geA hg hb; have GE473 := GW473; replace HB := nHB; clear nHB; clear hb hbox hg) | ((with_reducible refine gate_dst (N := 4) rfl ?_); refine box_event ?hg (N := 4) ?hd (cs := #[.bool false, .int .u64 0, .int .u64 0]) (t := 35) ?hr ?_; (case hd => rfl); (case hg => rfl); (case hr => first | (go_simp; done) | (go_simp; rfl)); intro gb474 hg w5 hbox hb; have BK474 := Aside0.mk (hbox); obtain ⟨GW474, nHB⟩ := geA hg hb; have GE474 := GW474; obtain ⟨NB473_474, NB474_473, nBK⟩ := nbA BK473 hg hb; replace BK473 := nBK; clear nBK; replace HB := nHB; clear nHB; clear hb hbox hg; have hnb6 := NB474_473.out; have hnc6 := NB473_474.out; have hcz7_0 := czZ BK474 0 (.bool false); have hcz7_1 := czZ BK474 1 (.int .u64 0); have hcz7_2 := czZ BK474 2 (.int .u64 0); have hfz7_0 := blk_frozen BK474.out 0; have hfz7_1 := blk_frozen BK474.out 1; have hfz7_2 := blk_frozen BK474.out 2))
  refine bodyPost_ret (results_ctt rfl _ _ gb474 35 #[.bool false, .int .u64 0, .int .u64 0] (0, 0) _ rfl (by (with_reducible repeat first | apply blk_drewN | apply blk_drew | apply blk_alloc); refine blk_put (cs := #[.bool false, .int .u64 0, .int .u64 0]) ?_ 2 _ rfl; (with_reducible repeat first | apply blk_drewN | apply blk_drew | apply blk_alloc); refine blk_put (cs := #[.bool false, .int .u64 0, .int .u64 0]) ?_ 1 _ rfl; (with_reducible repeat first | apply blk_drewN | apply blk_drew | apply blk_alloc); refine blk_put (cs := #[.bool false, .int .u64 0, .int .u64 0]) ?_ 0 _ rfl; (with_reducible repeat first | apply blk_drewN | apply blk_drew | apply blk_alloc); exact BK474.out) Tryd.underlying35 rfl (by kernel_rfl)) rfl ?_; exact ⟨by first | rfl | (simp [errW_none, errW_some] <;> rfl) | (simp [*, errW_none, errW_some] <;> rfl), by repeat (first | (with_reducible first | exact HB.out | apply below_alloc | apply pw_below_drewN | apply below_drew1 | refine below_set ?_ (Aside0.out (by assumption))) | exact HB.out)⟩
 ·rw [if_neg c3] at H
  have c3b0 : (a1 == 0) = false := beq_eq_false_iff_ne.mpr c3; have c3b1 : (a1 != 0) = true := bne_iff_ne.mpr c3; have H' := Aside0.mk H; clear H
  go_enter Tryd.func75, Tryd.ntmps75
  try go_wp2_with (first | ((with_reducible refine gate_dst (N := 2) rfl ?_); refine box_event ?hg (N := 2) ?hd (cs := #[.bool a0_0, .int .u64 a0_1, .int .u64 a0_2]) (t := 35) ?hr ?_; (case hd => rfl); (case hg => rfl); (case hr => first | (go_simp; done) | (go_simp; rfl)); intro gb473 hg w8 hbox hb; have BK473 := Aside0.mk (hbox); obtain ⟨GW473, nHB⟩ := geA hg hb; have GE473 := GW473; replace HB := nHB; clear nHB; clear hb hbox hg) | ((with_reducible refine gate_dst (N := 4) rfl ?_); refine box_event ?hg (N := 4) ?hd (cs := #[.bool false, .int .u64 0, .int .u64 0]) (t := 35) ?hr ?_; (case hd => rfl); (case hg => rfl); (case hr => first | (go_simp; done) | (go_simp; rfl)); intro gb474 hg w9 hbox hb; have BK474 := Aside0.mk (hbox); obtain ⟨GW474, nHB⟩ := geA hg hb; have GE474 := GW474; obtain ⟨NB473_474, NB474_473, nBK⟩ := nbA BK473 hg hb; replace BK473 := nBK; clear nBK; replace HB := nHB; clear nHB; clear hb hbox hg; have hnb10 := NB473_474.out; have hnc10 := NB474_473.out; have hcz11_0 := czZ BK473 0 (.bool a0_0); have hcz11_1 := czZ BK473 1 (.int .u64 a0_1); have hcz11_2 := czZ BK473 2 (.int .u64 a0_2); have hfz11_0 := blk_frozen BK473.out 0; have hfz11_1 := blk_frozen BK473.out 1; have hfz11_2 := blk_frozen BK473.out 2))
  replace BK473 := Aside0.mk (blk_drew BK473.out); replace BK474 := Aside0.mk (blk_drew BK474.out); replace HB := Aside0.mk (below_drew1 HB.out); refine start_ (n := 9) (S := fun w' => w'.cell? ⟨gb473, 0, none⟩ = some (.bool a0_0) ∧ w'.cell? ⟨gb473, 1, none⟩ = some (.int .u64 a0_1) ∧ w'.cell? ⟨gb473, 2, none⟩ = some (.int .u64 a0_2)) (ds := []) #[N,N,N,N,N,N,N,N,N] (by kernel_rfl) rfl rfl ⟨(blk_cell BK473.out 0).trans rfl, (blk_cell BK473.out 1).trans rfl, (blk_cell BK473.out 2).trans rfl⟩ (fun hHeld => ?_); refine with_tabW sawtoothref02_Div.tab5 sawtoothref02_Div.bits5 (fun HT_ HW_ => ?_)
  generalize w9.drew = w12 at BK473 BK474 HB hHeld ⊢
  refine pureA_ (i := 0) (N := some 23) #[Y,N,N,N,N,N,N,N,N] rfl rfl (any_of HT_.out (by kernel_rfl)) ?_
  refine pureA_ (i := 2) (N := some 25) #[Y,N,Y,N,N,N,N,N,N] rfl rfl (any_of HT_.out (by kernel_rfl)) ?_
  refine pureA_ (i := 4) (N := some 27) #[Y,N,Y,N,Y,N,N,N,N] rfl rfl (any_of HT_.out (by kernel_rfl)) ?_
  refine take_ (i := 1) (N := some 24) (v := ?_) (a' := ?_) #[Y,Y,Y,N,Y,N,N,N,N] rfl rfl (take_ofW HT_.out HW_.out (by kernel_rfl)) (fun _ _ _ h => h) (Or.inl ⟨by rfl, ?_⟩) hHeld ?_ ?_; rotate_left
  ·rintro w' ⟨s0, s1, s2⟩; go_simp
   with_reducible rfl
  rotate_left
  ·simp only [Act.put, sA, sB, sC, i64_w, i32_w]
   rfl
  refine take_ (i := 3) (N := some 26) (v := ?_) (a' := ?_) #[Y,Y,Y,Y,Y,N,N,N,N] rfl rfl (take_ofW HT_.out HW_.out (by kernel_rfl)) (fun _ _ _ h => h) (Or.inl ⟨by rfl, ?_⟩) hHeld ?_ ?_; rotate_left
  ·rintro w' ⟨s0, s1, s2⟩; go_simp
   with_reducible rfl
  rotate_left
  ·simp only [Act.put, sA, sB, sC, i64_w, i32_w]
   rfl
  refine pureA_ (i := 5) (N := some 28) #[Y,Y,Y,Y,Y,Y,N,N,N] rfl rfl (any_of HT_.out (by kernel_rfl)) ?_
  refine pureA_ (i := 6) (N := some 29) #[Y,Y,Y,Y,Y,Y,Y,N,N] rfl rfl (any_of HT_.out (by kernel_rfl)) ?_
  refine one_ (i := 7) (N := some 9) #[Y,Y,Y,Y,Y,Y,Y,Y,N] rfl rfl (one_of HT_.out (by kernel_rfl)) (by decide) (fun K hK => ?_); refine box_step ?hg (N := 9) ?hd (cs := #[.bool false, .int .u64 0, .int .u64 0]) (t := 35) ?hr ?_; (case hd => rfl); (case hg => rfl); (case hr => first | (go_simp; done) | (go_simp; rfl)); intro gb475 hg w13 hbox hb; have BK475 := Aside0.mk (hbox); have GW475 := szZ HB hg; have GE475 := szZ HB hg; have NB473_475 := nlZ BK473 hg; have NB475_473 := ngZ BK473 hg; have NB474_475 := nlZ BK474 hg; have NB475_474 := ngZ BK474 hg; replace BK473 := bbZ BK473 hb; replace BK474 := bbZ BK474 hb; replace HB := Aside0.mk (below_step HB.out hb); clear hb hbox hg; refine hK.out _ _ ⟨(blk_cell BK473.out 0).trans rfl, (blk_cell BK473.out 1).trans rfl, (blk_cell BK473.out 2).trans rfl⟩ (fun hHeld => ?_); clear hK K; refine normA_ (some 9) ?_
  refine one_ (i := 8) (N := none) #[Y,Y,Y,Y,Y,Y,Y,Y,Y] rfl rfl (one_of HT_.out (by kernel_rfl)) (by decide) (fun K hK => ?_); have hs14 := czZ BK475 0 (.bool false); have hfs14 := blk_frozen BK475.out 0; have hns14_0 := NB473_475.out; have hns14_1 := NB474_475.out; have hms14_0 := NB475_473.out; have hms14_1 := NB475_474.out; have hs15 := czZ BK475 1 (.int .u64 0); have hfs15 := blk_frozen BK475.out 1; have hns15_0 := NB473_475.out; have hns15_1 := NB474_475.out; have hms15_0 := NB475_473.out; have hms15_1 := NB475_474.out; have hs16 := czZ BK475 2 (.int .u64 0); have hfs16 := blk_frozen BK475.out 2; have hns16_0 := NB473_475.out; have hns16_1 := NB474_475.out; have hms16_0 := NB475_473.out; have hms16_1 := NB475_474.out; refine skip_ (w1 := ?_) (by rfl) rfl ?_ ?_; rotate_left
  ·go_simp
   rfl
  refine hK.out _ _ ⟨((cell_far (p := ⟨gb475, _, none⟩) NB473_475.out _).trans (((cell_far (p := ⟨gb475, _, none⟩) NB473_475.out _).trans (((cell_far (p := ⟨gb475, _, none⟩) NB473_475.out _).trans (hHeld.1)))))), ((cell_far (p := ⟨gb475, _, none⟩) NB473_475.out _).trans (((cell_far (p := ⟨gb475, _, none⟩) NB473_475.out _).trans (((cell_far (p := ⟨gb475, _, none⟩) NB473_475.out _).trans (hHeld.2.1)))))), ((cell_far (p := ⟨gb475, _, none⟩) NB473_475.out _).trans (((cell_far (p := ⟨gb475, _, none⟩) NB473_475.out _).trans (((cell_far (p := ⟨gb475, _, none⟩) NB473_475.out _).trans (hHeld.2.2))))))⟩ (fun hHeld => ?_); clear hK K; refine done_ (done_of HT_.out (by kernel_rfl)) ?_
  try go_wp2
  go_loopg [7, 8, 10] k (fun kq v7 v8 v10 w' => ∃ (x7_1 : Int) (x8_1 : Int) (x10_1 : Int) (x476002_1 : Int), v7 = .int .u64 x7_1 ∧ v8 = .int .u64 x8_1 ∧ v10 = .int .i64 x10_1 ∧ Aside0 (sawtoothref02_Div.l0 kq a1 x7_1 x8_1 x10_1 a0_0 a0_1 a0_2 a0_0 (IntKind.u64.wrap (Int.tdiv a0_1 a1)) x476002_1 = some (r1, r2, r3, r4, r5)) ∧ Aside0 (kq ≤ k) ∧ Aside0 (w'.heap[gb473]? = some (.cells #[.bool a0_0, .int .u64 a0_1, .int .u64 a0_2] 35 (0, 0))) ∧ Aside0 (w'.heap[gb474]? = some (.cells #[.bool false, .int .u64 0, .int .u64 0] 35 (0, 0))) ∧ Aside0 (w'.heap[gb475]? = some (.cells #[.bool a0_0, .int .u64 (IntKind.u64.wrap (Int.tdiv a0_1 a1)), .int .u64 x476002_1] 35 (0, 0))) ∧ Aside0 (Below w.heap.size w w'))
  case atStart => exact ⟨(Int.tmod a0_1 a1), (a0_2), (0), (0), (by first | rfl | (simp; done) | (simp [*]; done)), (by first | rfl | (simp; done) | (simp [*]; done)), (by first | rfl | (simp; done) | (simp [*]; done)), H', ⟨Nat.le_refl _⟩, ⟨by (with_reducible repeat first | apply blk_drewN | apply blk_drew | apply blk_alloc); refine blk_far ?_ NB473_475.out _; (with_reducible repeat first | apply blk_drewN | apply blk_drew | apply blk_alloc); refine blk_far ?_ NB473_475.out _; (with_reducible repeat first | apply blk_drewN | apply blk_drew | apply blk_alloc); refine blk_far ?_ NB473_475.out _; (with_reducible repeat first | apply blk_drewN | apply blk_drew | apply blk_alloc); exact BK473.out⟩, ⟨by (with_reducible repeat first | apply blk_drewN | apply blk_drew | apply blk_alloc); refine blk_far ?_ NB474_475.out _; (with_reducible repeat first | apply blk_drewN | apply blk_drew | apply blk_alloc); refine blk_far ?_ NB474_475.out _; (with_reducible repeat first | apply blk_drewN | apply blk_drew | apply blk_alloc); refine blk_far ?_ NB474_475.out _; (with_reducible repeat first | apply blk_drewN | apply blk_drew | apply blk_alloc); exact BK474.out⟩, ⟨by (with_reducible repeat first | apply blk_drewN | apply blk_drew | apply blk_alloc); refine blk_put (cs := #[.bool a0_0, .int .u64 (IntKind.u64.wrap (Int.tdiv a0_1 a1)), .int .u64 0]) ?_ 2 _ rfl; (with_reducible repeat first | apply blk_drewN | apply blk_drew | apply blk_alloc); refine blk_put (cs := #[.bool a0_0, .int .u64 0, .int .u64 0]) ?_ 1 _ rfl; (with_reducible repeat first | apply blk_drewN | apply blk_drew | apply blk_alloc); refine blk_put (cs := #[.bool false, .int .u64 0, .int .u64 0]) ?_ 0 _ rfl; (with_reducible repeat first | apply blk_drewN | apply blk_drew | apply blk_alloc); exact BK475.out⟩, ⟨by repeat (first | (with_reducible first | exact HB.out | apply below_alloc | apply pw_below_drewN | apply below_drew1 | refine below_set ?_ (Aside0.out (by assumption))) | exact HB.out)⟩⟩
  case round =>
   clear H'
   try clear c1
   try clear p2
   try clear c3
   try clear c3b0
   try clear c3b1
   try clear c6
   try clear c7
   try clear c10
   try clear hcz11_0
   try clear hcz11_1
   try clear hcz11_2
   try clear hcz7_0
   try clear hcz7_1
   try clear hcz7_2
   try clear hfz11_0
   try clear hfz11_1
   try clear hfz11_2
   try clear hfz7_0
   try clear hfz7_1
   try clear hfz7_2
   obtain ⟨x7_1, x8_1, x10_1, x476002_1, rfl, rfl, rfl, HA, HK1, BK473, BK474, BK475, HB⟩ := hrel
   cases gk with
   | zero => exact absurd HA.out (by simp [sawtoothref02_Div.l0])
   | succ k1 =>
    have H := HA.out; clear HA; simp only [sawtoothref02_Div.l0] at H
    by_cases c17 : x10_1 < 64
    ·rw [if_pos c17] at H
     have c17b0 : decide (x10_1 < 64) = true := decide_eq_true c17; clear c17
     by_cases c18 : x7_1 ≥ 9223372036854775808
     ·rw [if_pos c18] at H
      have c18b0 : decide (9223372036854775808 ≤ x7_1) = true := decide_eq_true c18; clear c18; have H' := Aside0.mk H; clear H; have hnb19 := NB475_473.out; have hnc19 := NB473_475.out; have hnb20 := NB475_474.out; have hnc20 := NB474_475.out; have hcz21_0 : wr.cell? ⟨gb475, 0, none⟩ = some (.bool a0_0) := (blk_cell BK475.out 0).trans rfl; have hcz21_1 : wr.cell? ⟨gb475, 1, none⟩ = some (.int .u64 (IntKind.u64.wrap (Int.tdiv a0_1 a1))) := (blk_cell BK475.out 1).trans rfl; have hcz21_2 : wr.cell? ⟨gb475, 2, none⟩ = some (.int .u64 x476002_1) := (blk_cell BK475.out 2).trans rfl; have hfz21_0 := blk_frozen BK475.out 0; have hfz21_1 := blk_frozen BK475.out 1; have hfz21_2 := blk_frozen BK475.out 2
      go_wp2
      go_roundg k1
      case measure => have := HK1.out; omega
      case rel => exact ⟨(IntKind.u64.wrap ((IntKind.u64.wrap ((IntKind.u64.wrap (2 * x7_1)) + (IntKind.u64.wrap (Int.tdiv x8_1 9223372036854775808)))) - a1)), (IntKind.u64.wrap (2 * x8_1)), (wrap64 (x10_1 + 1)), (IntKind.u64.wrap ((IntKind.u64.wrap (2 * x476002_1)) + 1)), (by first | rfl | (simp; done) | (simp [*]; done)), (by first | rfl | (simp; done) | (simp [*]; done)), (by first | rfl | (simp; done) | (simp [*]; done)), H', ⟨by have := HK1.out; omega⟩, ⟨by (with_reducible repeat first | apply blk_drewN | apply blk_drew | apply blk_alloc); refine blk_far ?_ NB473_475.out _; (with_reducible repeat first | apply blk_drewN | apply blk_drew | apply blk_alloc); refine blk_far ?_ NB473_475.out _; (with_reducible repeat first | apply blk_drewN | apply blk_drew | apply blk_alloc); exact BK473.out⟩, ⟨by (with_reducible repeat first | apply blk_drewN | apply blk_drew | apply blk_alloc); refine blk_far ?_ NB474_475.out _; (with_reducible repeat first | apply blk_drewN | apply blk_drew | apply blk_alloc); refine blk_far ?_ NB474_475.out _; (with_reducible repeat first | apply blk_drewN | apply blk_drew | apply blk_alloc); exact BK474.out⟩, ⟨by (with_reducible repeat first | apply blk_drewN | apply blk_drew | apply blk_alloc); refine blk_put (cs := #[.bool a0_0, .int .u64 (IntKind.u64.wrap (Int.tdiv a0_1 a1)), .int .u64 (IntKind.u64.wrap (2 * x476002_1))]) ?_ 2 _ rfl; (with_reducible repeat first | apply blk_drewN | apply blk_drew | apply blk_alloc); refine blk_put (cs := #[.bool a0_0, .int .u64 (IntKind.u64.wrap (Int.tdiv a0_1 a1)), .int .u64 x476002_1]) ?_ 2 _ rfl; (with_reducible repeat first | apply blk_drewN | apply blk_drew | apply blk_alloc); exact BK475.out⟩, ⟨by repeat (first | (with_reducible first | exact HB.out | apply below_alloc | apply pw_below_drewN | apply below_drew1 | refine below_set ?_ (Aside0.out (by assumption))) | exact HB.out)⟩⟩
     ·rw [if_neg c18] at H
      have c18b0 : decide (9223372036854775808 ≤ x7_1) = false := decide_eq_false c18; clear c18
      by_cases c22 : (IntKind.u64.wrap ((IntKind.u64.wrap (2 * x7_1)) + (IntKind.u64.wrap (Int.tdiv x8_1 9223372036854775808)))) ≥ a1
      ·rw [if_pos c22] at H
       have c22b0 : decide (a1 ≤ (IntKind.u64.wrap ((IntKind.u64.wrap (2 * x7_1)) + (IntKind.u64.wrap (Int.tdiv x8_1 9223372036854775808))))) = true := decide_eq_true c22; clear c22; have H' := Aside0.mk H; clear H; have hnb23 := NB475_473.out; have hnc23 := NB473_475.out; have hnb24 := NB475_474.out; have hnc24 := NB474_475.out; have hcz25_0 : wr.cell? ⟨gb475, 0, none⟩ = some (.bool a0_0) := (blk_cell BK475.out 0).trans rfl; have hcz25_1 : wr.cell? ⟨gb475, 1, none⟩ = some (.int .u64 (IntKind.u64.wrap (Int.tdiv a0_1 a1))) := (blk_cell BK475.out 1).trans rfl; have hcz25_2 : wr.cell? ⟨gb475, 2, none⟩ = some (.int .u64 x476002_1) := (blk_cell BK475.out 2).trans rfl; have hfz25_0 := blk_frozen BK475.out 0; have hfz25_1 := blk_frozen BK475.out 1; have hfz25_2 := blk_frozen BK475.out 2
       go_wp2
       go_roundg k1
       case measure => have := HK1.out; omega
       case rel => exact ⟨(IntKind.u64.wrap ((IntKind.u64.wrap ((IntKind.u64.wrap (2 * x7_1)) + (IntKind.u64.wrap (Int.tdiv x8_1 9223372036854775808)))) - a1)), (IntKind.u64.wrap (2 * x8_1)), (wrap64 (x10_1 + 1)), (IntKind.u64.wrap ((IntKind.u64.wrap (2 * x476002_1)) + 1)), (by first | rfl | (simp; done) | (simp [*]; done)), (by first | rfl | (simp; done) | (simp [*]; done)), (by first | rfl | (simp; done) | (simp [*]; done)), H', ⟨by have := HK1.out; omega⟩, ⟨by (with_reducible repeat first | apply blk_drewN | apply blk_drew | apply blk_alloc); refine blk_far ?_ NB473_475.out _; (with_reducible repeat first | apply blk_drewN | apply blk_drew | apply blk_alloc); refine blk_far ?_ NB473_475.out _; (with_reducible repeat first | apply blk_drewN | apply blk_drew | apply blk_alloc); exact BK473.out⟩, ⟨by (with_reducible repeat first | apply blk_drewN | apply blk_drew | apply blk_alloc); refine blk_far ?_ NB474_475.out _; (with_reducible repeat first | apply blk_drewN | apply blk_drew | apply blk_alloc); refine blk_far ?_ NB474_475.out _; (with_reducible repeat first | apply blk_drewN | apply blk_drew | apply blk_alloc); exact BK474.out⟩, ⟨by (with_reducible repeat first | apply blk_drewN | apply blk_drew | apply blk_alloc); refine blk_put (cs := #[.bool a0_0, .int .u64 (IntKind.u64.wrap (Int.tdiv a0_1 a1)), .int .u64 (IntKind.u64.wrap (2 * x476002_1))]) ?_ 2 _ rfl; (with_reducible repeat first | apply blk_drewN | apply blk_drew | apply blk_alloc); refine blk_put (cs := #[.bool a0_0, .int .u64 (IntKind.u64.wrap (Int.tdiv a0_1 a1)), .int .u64 x476002_1]) ?_ 2 _ rfl; (with_reducible repeat first | apply blk_drewN | apply blk_drew | apply blk_alloc); exact BK475.out⟩, ⟨by repeat (first | (with_reducible first | exact HB.out | apply below_alloc | apply pw_below_drewN | apply below_drew1 | refine below_set ?_ (Aside0.out (by assumption))) | exact HB.out)⟩⟩
      ·rw [if_neg c22] at H
       have c22b0 : decide (a1 ≤ (IntKind.u64.wrap ((IntKind.u64.wrap (2 * x7_1)) + (IntKind.u64.wrap (Int.tdiv x8_1 9223372036854775808))))) = false := decide_eq_false c22; clear c22; have H' := Aside0.mk H; clear H; have hnb26 := NB475_473.out; have hnc26 := NB473_475.out; have hnb27 := NB475_474.out; have hnc27 := NB474_475.out; have hcz28_0 : wr.cell? ⟨gb475, 0, none⟩ = some (.bool a0_0) := (blk_cell BK475.out 0).trans rfl; have hcz28_1 : wr.cell? ⟨gb475, 1, none⟩ = some (.int .u64 (IntKind.u64.wrap (Int.tdiv a0_1 a1))) := (blk_cell BK475.out 1).trans rfl; have hcz28_2 : wr.cell? ⟨gb475, 2, none⟩ = some (.int .u64 x476002_1) := (blk_cell BK475.out 2).trans rfl; have hfz28_0 := blk_frozen BK475.out 0; have hfz28_1 := blk_frozen BK475.out 1; have hfz28_2 := blk_frozen BK475.out 2
       go_wp2
       go_roundg k1
       case measure => have := HK1.out; omega
       case rel => exact ⟨(IntKind.u64.wrap ((IntKind.u64.wrap (2 * x7_1)) + (IntKind.u64.wrap (Int.tdiv x8_1 9223372036854775808)))), (IntKind.u64.wrap (2 * x8_1)), (wrap64 (x10_1 + 1)), (IntKind.u64.wrap (2 * x476002_1)), (by first | rfl | (simp; done) | (simp [*]; done)), (by first | rfl | (simp; done) | (simp [*]; done)), (by first | rfl | (simp; done) | (simp [*]; done)), H', ⟨by have := HK1.out; omega⟩, ⟨by (with_reducible repeat first | apply blk_drewN | apply blk_drew | apply blk_alloc); refine blk_far ?_ NB473_475.out _; (with_reducible repeat first | apply blk_drewN | apply blk_drew | apply blk_alloc); exact BK473.out⟩, ⟨by (with_reducible repeat first | apply blk_drewN | apply blk_drew | apply blk_alloc); refine blk_far ?_ NB474_475.out _; (with_reducible repeat first | apply blk_drewN | apply blk_drew | apply blk_alloc); exact BK474.out⟩, ⟨by (with_reducible repeat first | apply blk_drewN | apply blk_drew | apply blk_alloc); refine blk_put (cs := #[.bool a0_0, .int .u64 (IntKind.u64.wrap (Int.tdiv a0_1 a1)), .int .u64 x476002_1]) ?_ 2 _ rfl; (with_reducible repeat first | apply blk_drewN | apply blk_drew | apply blk_alloc); exact BK475.out⟩, ⟨by repeat (first | (with_reducible first | exact HB.out | apply below_alloc | apply pw_below_drewN | apply below_drew1 | refine below_set ?_ (Aside0.out (by assumption))) | exact HB.out)⟩⟩
    ·rw [if_neg c17] at H
     have c17b0 : decide (x10_1 < 64) = false := decide_eq_false c17; clear c17; replace H := Option.bind_eq_some_iff.mp H; obtain ⟨⟨t476, t477, t478, t479⟩, A290, H⟩ := H; (try dsimp only at H); have A29 := Aside0.mk A290; clear A290; replace H := Option.bind_eq_some_iff.mp H; obtain ⟨⟨t480, t481, t482⟩, A300, H⟩ := H; replace H : (if a0_0 = true then (sawtoothref02_Div.j1 k1 a1 x7_1 (x7_1 == 0) t480 t481 t482) else (sawtoothref02_Div.j1 k1 a1 x7_1 true t480 t481 t482)) = some (r1, r2, r3, r4, r5) := H; have A30 := Aside0.mk A300; clear A300; have HC31 := Aside0.mk H; clear H
     try go_wp2
     replace BK473 := Aside0.mk (blk_drew BK473.out); replace BK474 := Aside0.mk (blk_drew BK474.out); replace BK475 := Aside0.mk (blk_drew BK475.out); replace HB := Aside0.mk (below_drew1 HB.out); refine start_ (n := 6) (S := fun w' => w'.cell? ⟨gb475, 0, none⟩ = some (.bool a0_0) ∧ w'.cell? ⟨gb475, 1, none⟩ = some (.int .u64 (IntKind.u64.wrap (Int.tdiv a0_1 a1))) ∧ w'.cell? ⟨gb475, 2, none⟩ = some (.int .u64 x476002_1)) (ds := [5]) #[N,N,N,N,N,N] (by kernel_rfl) rfl rfl ⟨(blk_cell BK475.out 0).trans rfl, (blk_cell BK475.out 1).trans rfl, (blk_cell BK475.out 2).trans rfl⟩ (fun hHeld => ?_)
     generalize wr.drew = w32 at BK473 BK474 BK475 HB hHeld ⊢
     refine pureA_ (i := 2) (N := some 62) #[N,N,Y,N,N,N] rfl rfl (by kernel_rfl) ?_
     refine take_ (i := 0) (N := some 60) (v := ?_) (a' := ?_) #[Y,N,Y,N,N,N] rfl rfl (by kernel_rfl) (fun _ _ _ h => h) (Or.inl ⟨by rfl, ?_⟩) hHeld ?_ ?_; rotate_left
     ·rintro w' ⟨s0, s1, s2⟩; go_simp
      with_reducible rfl
     rotate_left
     ·simp only [Act.put, sA, sB, sC, i64_w, i32_w]
      rfl
     refine take_ (i := 3) (N := some 63) (v := ?_) (a' := ?_) #[Y,N,Y,Y,N,N] rfl rfl (by kernel_rfl) (fun _ _ _ h => h) (Or.inl ⟨by rfl, ?_⟩) hHeld ?_ ?_; rotate_left
     ·rintro w' ⟨s0, s1, s2⟩; go_simp
      with_reducible rfl
     rotate_left
     ·simp only [Act.put, sA, sB, sC, i64_w, i32_w]
      rfl
     refine one_ (i := 1) (N := some 61) #[Y,Y,Y,Y,N,N] rfl rfl (by kernel_rfl) (by decide) (fun K hK => ?_); refine goesA_ Tryd.func66 rfl #[.agg #[.bool a0_0, .int .u64 (IntKind.u64.wrap (Int.tdiv a0_1 a1)), .int .u64 x476002_1]] (by rfl) rfl rfl ?_
     with_reducible refine (sawtoothref02_digits.calls a0_0 (IntKind.u64.wrap (Int.tdiv a0_1 a1)) x476002_1 t476 t477 t478 t479 _ A29.out).mono ?_
     rintro e w33 ⟨rfl, hb⟩; refine ⟨_, rfl, ?_⟩; replace BK473 := bbZ BK473 hb; replace BK474 := bbZ BK474 hb; replace BK475 := bbZ BK475 hb; replace HB := Aside0.mk (below_step HB.out hb); clear hb; refine hK.out _ _ ⟨(blk_cell BK475.out 0).trans rfl, (blk_cell BK475.out 1).trans rfl, (blk_cell BK475.out 2).trans rfl⟩ (fun hHeld => ?_); clear hK K; refine normA_ (some 61) ?_
     refine one_ (i := 4) (N := some 64) #[Y,Y,Y,Y,Y,N] rfl rfl (by kernel_rfl) (by decide) (fun K hK => ?_); refine goesA_ Tryd.func67 rfl #[.agg #[.int .u64 t476, .int .u64 t477, .int .u64 t478, .int .u64 t479], .bool a0_0] (by rfl) rfl rfl ?_
     with_reducible refine (sawtoothref02_wholeS.calls t476 t477 t478 t479 a0_0 t480 t481 t482 _ A30.out).mono ?_
     rintro e w34 ⟨rfl, hb⟩; refine ⟨_, rfl, ?_⟩; replace BK473 := bbZ BK473 hb; replace BK474 := bbZ BK474 hb; replace BK475 := bbZ BK475 hb; replace HB := Aside0.mk (below_step HB.out hb); clear hb; refine hK.out _ _ ⟨(blk_cell BK475.out 0).trans rfl, (blk_cell BK475.out 1).trans rfl, (blk_cell BK475.out 2).trans rfl⟩ (fun hHeld => ?_); clear hK K; refine normA_ (some 64) ?_
     refine last_ (i := 5) (N := none) #[Y,Y,Y,Y,Y,Y] rfl rfl (by kernel_rfl) (by decide) (fun K hK => ?_); have hs35 := czZ BK475 0 (.bool a0_0); have hfs35 := blk_frozen BK475.out 0; have hns35_0 := NB473_475.out; have hns35_1 := NB474_475.out; have hms35_0 := NB475_473.out; have hms35_1 := NB475_474.out; have hs36 : w34.cell? ⟨gb475, 1, none⟩ = some (.int .u64 (IntKind.u64.wrap (Int.tdiv a0_1 a1))) := (blk_cell BK475.out 1).trans rfl; have hfs36 := blk_frozen BK475.out 1; have hns36_0 := NB473_475.out; have hns36_1 := NB474_475.out; have hms36_0 := NB475_473.out; have hms36_1 := NB475_474.out; have hs37 := czZ BK475 2 (.int .u64 x476002_1); have hfs37 := blk_frozen BK475.out 2; have hns37_0 := NB473_475.out; have hns37_1 := NB474_475.out; have hms37_0 := NB475_473.out; have hms37_1 := NB475_474.out; refine skip_ (w1 := ?_) (by rfl) rfl ?_ ?_; rotate_left
     ·go_simp
      rfl
     refine hK.out _ _ ?_; clear hK K; refine done_ (by kernel_rfl) ?_
     go_upto_region 17 with (fail)
     go_cut [71] (fun v71 wc => ∃ (kq : Nat) (x71_30 : Bool), v71 = .bool x71_30 ∧ Aside0 (sawtoothref02_Div.j1 kq a1 x7_1 x71_30 t480 t481 t482 = some (r1, r2, r3, r4, r5)) ∧ Aside0 (kq ≤ k1) ∧ Aside0 (wc.heap[gb473]? = some (.cells #[.bool a0_0, .int .u64 a0_1, .int .u64 a0_2] 35 (0, 0))) ∧ Aside0 (wc.heap[gb474]? = some (.cells #[.bool false, .int .u64 0, .int .u64 0] 35 (0, 0))) ∧ Aside0 (wc.heap[gb475]? = some (.cells #[.bool t480, .int .u64 t481, .int .u64 t482] 35 (0, 0))) ∧ Aside0 (Below w.heap.size w wc))
     case first =>
      have H := HC31.out; clear HC31
      by_cases c38 : a0_0 = true
      ·subst c38
       have H1 : (sawtoothref02_Div.j1 k1 a1 x7_1 (x7_1 == 0) t480 t481 t482) = some (r1, r2, r3, r4, r5) := by rw [if_pos rfl] at H; exact H
       clear H; have H := H1; clear H1; have H' := Aside0.mk H; clear H; have hnb39 := NB473_474.out; have hnc39 := NB474_473.out; have hnb40 := NB473_475.out; have hnc40 := NB475_473.out; have hcz41_0 := czZ BK473 0 (.bool true); have hcz41_1 := czZ BK473 1 (.int .u64 a0_1); have hcz41_2 := czZ BK473 2 (.int .u64 a0_2); have hfz41_0 := blk_frozen BK473.out 0; have hfz41_1 := blk_frozen BK473.out 1; have hfz41_2 := blk_frozen BK473.out 2
       go_wp2
       go_meet
       case rel => exact ⟨_, ((x7_1 == 0)), (by first | rfl | (simp; done) | (simp [*]; done)), H', ⟨by have := HK1.out; first | omega | exact Nat.le_refl _⟩, ⟨by (with_reducible repeat first | apply blk_drewN | apply blk_drew | apply blk_alloc); refine blk_far ?_ NB473_475.out _; (with_reducible repeat first | apply blk_drewN | apply blk_drew | apply blk_alloc); refine blk_far ?_ NB473_475.out _; (with_reducible repeat first | apply blk_drewN | apply blk_drew | apply blk_alloc); refine blk_far ?_ NB473_475.out _; (with_reducible repeat first | apply blk_drewN | apply blk_drew | apply blk_alloc); exact BK473.out⟩, ⟨by (with_reducible repeat first | apply blk_drewN | apply blk_drew | apply blk_alloc); refine blk_far ?_ NB474_475.out _; (with_reducible repeat first | apply blk_drewN | apply blk_drew | apply blk_alloc); refine blk_far ?_ NB474_475.out _; (with_reducible repeat first | apply blk_drewN | apply blk_drew | apply blk_alloc); refine blk_far ?_ NB474_475.out _; (with_reducible repeat first | apply blk_drewN | apply blk_drew | apply blk_alloc); exact BK474.out⟩, ⟨by (with_reducible repeat first | apply blk_drewN | apply blk_drew | apply blk_alloc); refine blk_put (cs := #[.bool t480, .int .u64 t481, .int .u64 x476002_1]) ?_ 2 _ rfl; (with_reducible repeat first | apply blk_drewN | apply blk_drew | apply blk_alloc); refine blk_put (cs := #[.bool t480, .int .u64 (IntKind.u64.wrap (Int.tdiv a0_1 a1)), .int .u64 x476002_1]) ?_ 1 _ rfl; (with_reducible repeat first | apply blk_drewN | apply blk_drew | apply blk_alloc); refine blk_put (cs := #[.bool true, .int .u64 (IntKind.u64.wrap (Int.tdiv a0_1 a1)), .int .u64 x476002_1]) ?_ 0 _ rfl; (with_reducible repeat first | apply blk_drewN | apply blk_drew | apply blk_alloc); exact BK475.out⟩, ⟨by repeat (first | (with_reducible first | exact HB.out | apply below_alloc | apply pw_below_drewN | apply below_drew1 | refine below_set ?_ (Aside0.out (by assumption))) | exact HB.out)⟩⟩
      ·replace c38 := Bool.eq_false_iff.mpr c38
       subst c38
       have H1 : (sawtoothref02_Div.j1 k1 a1 x7_1 true t480 t481 t482) = some (r1, r2, r3, r4, r5) := by rw [if_neg (show ¬ (false = true) by decide)] at H; exact H
       clear H; have H := H1; clear H1; have H' := Aside0.mk H; clear H; have hnb42 := NB473_474.out; have hnc42 := NB474_473.out; have hnb43 := NB473_475.out; have hnc43 := NB475_473.out; have hcz44_0 := czZ BK473 0 (.bool false); have hcz44_1 := czZ BK473 1 (.int .u64 a0_1); have hcz44_2 := czZ BK473 2 (.int .u64 a0_2); have hfz44_0 := blk_frozen BK473.out 0; have hfz44_1 := blk_frozen BK473.out 1; have hfz44_2 := blk_frozen BK473.out 2
       go_wp2
       go_meet
       case rel => exact ⟨_, (true), (by first | rfl | (simp; done) | (simp [*]; done)), H', ⟨by have := HK1.out; first | omega | exact Nat.le_refl _⟩, ⟨by (with_reducible repeat first | apply blk_drewN | apply blk_drew | apply blk_alloc); refine blk_far ?_ NB473_475.out _; (with_reducible repeat first | apply blk_drewN | apply blk_drew | apply blk_alloc); refine blk_far ?_ NB473_475.out _; (with_reducible repeat first | apply blk_drewN | apply blk_drew | apply blk_alloc); refine blk_far ?_ NB473_475.out _; (with_reducible repeat first | apply blk_drewN | apply blk_drew | apply blk_alloc); exact BK473.out⟩, ⟨by (with_reducible repeat first | apply blk_drewN | apply blk_drew | apply blk_alloc); refine blk_far ?_ NB474_475.out _; (with_reducible repeat first | apply blk_drewN | apply blk_drew | apply blk_alloc); refine blk_far ?_ NB474_475.out _; (with_reducible repeat first | apply blk_drewN | apply blk_drew | apply blk_alloc); refine blk_far ?_ NB474_475.out _; (with_reducible repeat first | apply blk_drewN | apply blk_drew | apply blk_alloc); exact BK474.out⟩, ⟨by (with_reducible repeat first | apply blk_drewN | apply blk_drew | apply blk_alloc); refine blk_put (cs := #[.bool t480, .int .u64 t481, .int .u64 x476002_1]) ?_ 2 _ rfl; (with_reducible repeat first | apply blk_drewN | apply blk_drew | apply blk_alloc); refine blk_put (cs := #[.bool t480, .int .u64 (IntKind.u64.wrap (Int.tdiv a0_1 a1)), .int .u64 x476002_1]) ?_ 1 _ rfl; (with_reducible repeat first | apply blk_drewN | apply blk_drew | apply blk_alloc); refine blk_put (cs := #[.bool false, .int .u64 (IntKind.u64.wrap (Int.tdiv a0_1 a1)), .int .u64 x476002_1]) ?_ 0 _ rfl; (with_reducible repeat first | apply blk_drewN | apply blk_drew | apply blk_alloc); exact BK475.out⟩, ⟨by repeat (first | (with_reducible first | exact HB.out | apply below_alloc | apply pw_below_drewN | apply below_drew1 | refine below_set ?_ (Aside0.out (by assumption))) | exact HB.out)⟩⟩
     case rest =>
      clear HC31
      try clear c1
      try clear c2
      try clear p2
      try clear c3
      try clear c3b0
      try clear c3b1
      try clear c4
      try clear c6
      try clear p6
      try clear c7
      try clear c10
      try clear c17
      try clear c17b0
      try clear c18
      try clear c18b0
      try clear c19
      try clear c20
      try clear c22
      try clear c22b0
      try clear c23
      try clear c24
      try clear c26
      try clear c27
      try clear c38
      try clear c39
      try clear c40
      try clear c42
      try clear c43
      try clear hcz11_0
      try clear hcz11_1
      try clear hcz11_2
      try clear hcz21_0
      try clear hcz21_1
      try clear hcz21_2
      try clear hcz25_0
      try clear hcz25_1
      try clear hcz25_2
      try clear hcz28_0
      try clear hcz28_1
      try clear hcz28_2
      try clear hcz41_0
      try clear hcz41_1
      try clear hcz41_2
      try clear hcz44_0
      try clear hcz44_1
      try clear hcz44_2
      try clear hcz7_0
      try clear hcz7_1
      try clear hcz7_2
      try clear hfz11_0
      try clear hfz11_1
      try clear hfz11_2
      try clear hfz21_0
      try clear hfz21_1
      try clear hfz21_2
      try clear hfz25_0
      try clear hfz25_1
      try clear hfz25_2
      try clear hfz28_0
      try clear hfz28_1
      try clear hfz28_2
      try clear hfz41_0
      try clear hfz41_1
      try clear hfz41_2
      try clear hfz44_0
      try clear hfz44_1
      try clear hfz44_2
      try clear hfz7_0
      try clear hfz7_1
      try clear hfz7_2
      try clear p2
      obtain ⟨kq, x71_30, rfl, HA, HJ30, BK473, BK474, BK475, HB⟩ := hcut
      cases kq with
      | zero => exact absurd HA.out (by simp [sawtoothref02_Div.j1])
      | succ kj30 =>
       have H := HA.out; clear HA; simp only [sawtoothref02_Div.j1] at H
       by_cases c45 : x71_30 = true
       ·subst c45
        have H1 : (some (t480, t481, t482, x7_1, 0)) = some (r1, r2, r3, r4, r5) := by rw [if_pos rfl] at H; exact H
        clear H; have H := H1; clear H1; simp only [Option.some.injEq, Prod.mk.injEq] at H; obtain ⟨rfl, rfl, rfl, rfl, rfl⟩ := H; have hnb46 := NB475_473.out; have hnc46 := NB473_475.out; have hnb47 := NB475_474.out; have hnc47 := NB474_475.out; have hcz48_0 : wc.cell? ⟨gb475, 0, none⟩ = some (.bool t480) := (blk_cell BK475.out 0).trans rfl; have hcz48_1 : wc.cell? ⟨gb475, 1, none⟩ = some (.int .u64 t481) := (blk_cell BK475.out 1).trans rfl; have hcz48_2 : wc.cell? ⟨gb475, 2, none⟩ = some (.int .u64 t482) := (blk_cell BK475.out 2).trans rfl; have hfz48_0 := blk_frozen BK475.out 0; have hfz48_1 := blk_frozen BK475.out 1; have hfz48_2 := blk_frozen BK475.out 2; have hnb49 := NB474_473.out; have hnc49 := NB473_474.out; have hcz50_0 : wc.cell? ⟨gb474, 0, none⟩ = some (.bool false) := (blk_cell BK474.out 0).trans rfl; have hcz50_1 : wc.cell? ⟨gb474, 1, none⟩ = some (.int .u64 0) := (blk_cell BK474.out 1).trans rfl; have hcz50_2 : wc.cell? ⟨gb474, 2, none⟩ = some (.int .u64 0) := (blk_cell BK474.out 2).trans rfl; have hfz50_0 := blk_frozen BK474.out 0; have hfz50_1 := blk_frozen BK474.out 1; have hfz50_2 := blk_frozen BK474.out 2
        go_wp2
        refine bodyPost_ret (results_ctt rfl _ _ gb474 35 #[.bool t480, .int .u64 t481, .int .u64 t482] (0, 0) _ rfl (by (with_reducible repeat first | apply blk_drewN | apply blk_drew | apply blk_alloc); refine blk_put (cs := #[.bool t480, .int .u64 t481, .int .u64 0]) ?_ 2 _ rfl; (with_reducible repeat first | apply blk_drewN | apply blk_drew | apply blk_alloc); refine blk_put (cs := #[.bool t480, .int .u64 0, .int .u64 0]) ?_ 1 _ rfl; (with_reducible repeat first | apply blk_drewN | apply blk_drew | apply blk_alloc); refine blk_put (cs := #[.bool false, .int .u64 0, .int .u64 0]) ?_ 0 _ rfl; (with_reducible repeat first | apply blk_drewN | apply blk_drew | apply blk_alloc); exact BK474.out) Tryd.underlying35 rfl (by kernel_rfl)) rfl ?_; exact ⟨by first | rfl | (simp [errW_none, errW_some] <;> rfl) | (simp [*, errW_none, errW_some] <;> rfl), by repeat (first | (with_reducible first | exact HB.out | apply below_alloc | apply pw_below_drewN | apply below_drew1 | refine below_set ?_ (Aside0.out (by assumption))) | exact HB.out)⟩
       ·replace c45 := Bool.eq_false_iff.mpr c45
        subst c45
        have H1 : ((sawtoothref02_OfS.f (-1)).bind fun bt483 => ((sawtoothref02_AddS.f true t481 t482 bt483.1 bt483.2.1 bt483.2.2).bind fun bt486 => (if bt486.2.2.2 = 0 then (some (bt486.1, bt486.2.1, bt486.2.2.1, IntKind.u64.wrap (a1 - x7_1), 0)) else (some (false, 0, 0, 0, bt486.2.2.2))))) = some (r1, r2, r3, r4, r5) := by rw [if_neg (show ¬ (false = true) by decide)] at H; exact H
        clear H; have H := H1; clear H1; replace H := Option.bind_eq_some_iff.mp H; obtain ⟨⟨t483, t484, t485⟩, A510, H⟩ := H; (try dsimp only at H); have A51 := Aside0.mk A510; clear A510; replace H := Option.bind_eq_some_iff.mp H; obtain ⟨⟨t486, t487, t488, t489⟩, A520, H⟩ := H; replace H : (if t489 = 0 then (some (t486, t487, t488, IntKind.u64.wrap (a1 - x7_1), 0)) else (some (false, 0, 0, 0, t489))) = some (r1, r2, r3, r4, r5) := H; have A52 := Aside0.mk A520; clear A520
        by_cases c53 : t489 = 0
        ·rw [if_pos c53] at H
         have c53b0 : (t489 == 0) = true := beq_iff_eq.mpr c53; have c53b1 : (t489 != 0) = false := bne_eq_false_iff_eq.mpr c53; clear c53; simp only [Option.some.injEq, Prod.mk.injEq] at H; obtain ⟨rfl, rfl, rfl, rfl, rfl⟩ := H; have hnb54 := NB475_473.out; have hnc54 := NB473_475.out; have hnb55 := NB475_474.out; have hnc55 := NB474_475.out; have hcz56_0 : wc.cell? ⟨gb475, 0, none⟩ = some (.bool t480) := (blk_cell BK475.out 0).trans rfl; have hcz56_1 : wc.cell? ⟨gb475, 1, none⟩ = some (.int .u64 t481) := (blk_cell BK475.out 1).trans rfl; have hcz56_2 : wc.cell? ⟨gb475, 2, none⟩ = some (.int .u64 t482) := (blk_cell BK475.out 2).trans rfl; have hfz56_0 := blk_frozen BK475.out 0; have hfz56_1 := blk_frozen BK475.out 1; have hfz56_2 := blk_frozen BK475.out 2
         try go_wp2
         have n0_ : Aside0 ((wc.setCell ⟨gb475, 0, none⟩ (.bool true)).heap[gb473]? = some (.cells #[.bool a0_0, .int .u64 a0_1, .int .u64 a0_2] 35 (0, 0))) := ⟨by (with_reducible repeat first | apply blk_drewN | apply blk_drew | apply blk_alloc); refine blk_far ?_ NB473_475.out _; (with_reducible repeat first | apply blk_drewN | apply blk_drew | apply blk_alloc); exact BK473.out⟩
         have n1_ : Aside0 ((wc.setCell ⟨gb475, 0, none⟩ (.bool true)).heap[gb474]? = some (.cells #[.bool false, .int .u64 0, .int .u64 0] 35 (0, 0))) := ⟨by (with_reducible repeat first | apply blk_drewN | apply blk_drew | apply blk_alloc); refine blk_far ?_ NB474_475.out _; (with_reducible repeat first | apply blk_drewN | apply blk_drew | apply blk_alloc); exact BK474.out⟩
         have n2_ : Aside0 ((wc.setCell ⟨gb475, 0, none⟩ (.bool true)).heap[gb475]? = some (.cells #[.bool true, .int .u64 t481, .int .u64 t482] 35 (0, 0))) := ⟨by (with_reducible repeat first | apply blk_drewN | apply blk_drew | apply blk_alloc); refine blk_put (cs := #[.bool t480, .int .u64 t481, .int .u64 t482]) ?_ 0 _ rfl; (with_reducible repeat first | apply blk_drewN | apply blk_drew | apply blk_alloc); exact BK475.out⟩
         have n3_ : Aside0 (Below w.heap.size w (wc.setCell ⟨gb475, 0, none⟩ (.bool true))) := ⟨by repeat (first | (with_reducible first | exact HB.out | apply below_alloc | apply pw_below_drewN | apply below_drew1 | refine below_set ?_ (Aside0.out (by assumption))) | exact HB.out)⟩
         (try clear BK473); (try clear BK474); (try clear BK475); (try clear HB)
         generalize (wc.setCell ⟨gb475, 0, none⟩ (.bool true)) = w57 at n0_ n1_ n2_ n3_ ⊢
         have BK473 := n0_; have BK474 := n1_; have BK475 := n2_; have HB := n3_; clear n0_ n1_ n2_ n3_; replace BK473 := Aside0.mk (blk_drew BK473.out); replace BK474 := Aside0.mk (blk_drew BK474.out); replace BK475 := Aside0.mk (blk_drew BK475.out); replace HB := Aside0.mk (below_drew1 HB.out); refine start_ (n := 9) (S := fun w' => w'.cell? ⟨gb475, 0, none⟩ = some (.bool true) ∧ w'.cell? ⟨gb475, 1, none⟩ = some (.int .u64 t481) ∧ w'.cell? ⟨gb475, 2, none⟩ = some (.int .u64 t482)) (ds := []) #[N,N,N,N,N,N,N,N,N] (by kernel_rfl) rfl rfl ⟨(blk_cell BK475.out 0).trans rfl, (blk_cell BK475.out 1).trans rfl, (blk_cell BK475.out 2).trans rfl⟩ (fun hHeld => ?_); refine with_tabW sawtoothref02_Div.tab20 sawtoothref02_Div.bits20 (fun HT_ HW_ => ?_)
         generalize w57.drew = w58 at BK473 BK474 BK475 HB hHeld ⊢
         refine take_ (i := 0) (N := some 76) (v := ?_) (a' := ?_) #[Y,N,N,N,N,N,N,N,N] rfl rfl (take_ofW HT_.out HW_.out (by kernel_rfl)) (fun _ _ _ h => h) (Or.inl ⟨by rfl, ?_⟩) hHeld ?_ ?_; rotate_left
         ·rintro w' ⟨s0, s1, s2⟩; go_simp
          with_reducible rfl
         rotate_left
         ·simp only [Act.put, sA, sB, sC, i64_w, i32_w]
          rfl
         refine join_ (σ := Nat) 2 #[Y,Y,Y,Y,Y,Y,Y,N,N] (fun s_ => [(77, .agg #[.bool t483, .int .u64 t484, .int .u64 t485]), (78, .tuple #[.agg #[.bool t486, .int .u64 t487, .int .u64 t488], .int .i64 t489]), (12, .pointer (some ⟨s_, 0, none⟩)), (75, .tuple #[.agg #[.bool t486, .int .u64 t487, .int .u64 t488], .int .i64 t489]), (79, .agg #[.bool t486, .int .u64 t487, .int .u64 t488]), (80, .int .i64 t489)]) (fun s_ w' => (w'.cell? ⟨gb475, 0, none⟩ = some (.bool true) ∧ w'.cell? ⟨gb475, 1, none⟩ = some (.int .u64 t481) ∧ w'.cell? ⟨gb475, 2, none⟩ = some (.int .u64 t482)) ∧ (w'.heap[gb473]? = some (.cells #[.bool a0_0, .int .u64 a0_1, .int .u64 a0_2] 35 (0, 0))) ∧ (w'.heap[gb474]? = some (.cells #[.bool false, .int .u64 0, .int .u64 0] 35 (0, 0))) ∧ (w'.heap[gb475]? = some (.cells #[.bool true, .int .u64 t481, .int .u64 t482] 35 (0, 0))) ∧ (w'.heap[s_]? = some (.cells #[.bool false, .int .u64 0, .int .u64 0] 35 (0, 0))) ∧ (w.heap.size ≤ s_) ∧ (w.heap.size ≤ s_) ∧ (gb473 ≠ s_) ∧ (s_ ≠ gb473) ∧ (gb474 ≠ s_) ∧ (s_ ≠ gb474) ∧ (gb475 ≠ s_) ∧ (s_ ≠ gb475) ∧ (Below w.heap.size w w')) ?_ ?_; rotate_left
         ·intro hCont; refine two_ (i := 1) (j := 6) (Ni := some 77) (Nj := some 12) #[Y,Y,N,N,N,N,N,N,N] #[Y,N,N,N,N,N,Y,N,N] rfl rfl rfl rfl (two_of HT_.out (by kernel_rfl)) (by decide) (by decide) (fun K hK => ?_) (fun K hK => ?_)
          ·skip
           refine goesA_ Tryd.func51 rfl #[.int .i64 (-1)] (by rfl) rfl rfl ?_
           with_reducible refine (sawtoothref02_OfS.calls (-1) t483 t484 t485 _ A51.out).mono ?_
           rintro e w59 ⟨rfl, hb⟩; refine ⟨_, rfl, ?_⟩; replace BK473 := bbZ BK473 hb; replace BK474 := bbZ BK474 hb; replace BK475 := bbZ BK475 hb; replace HB := Aside0.mk (below_step HB.out hb); clear hb; refine hK.out _ _ ⟨(blk_cell BK475.out 0).trans rfl, (blk_cell BK475.out 1).trans rfl, (blk_cell BK475.out 2).trans rfl⟩ (fun hHeld => ?_); clear hK K; refine normA_ (some 77) ?_
           refine two_ (i := 2) (j := 6) (Ni := some 78) (Nj := some 12) #[Y,Y,Y,N,N,N,N,N,N] #[Y,Y,N,N,N,N,Y,N,N] rfl rfl rfl rfl (two_of HT_.out (by kernel_rfl)) (by decide) (by decide) (fun K hK => ?_) (fun K hK => ?_)
           ·skip
            refine goesA_ Tryd.func73 rfl #[.agg #[.bool true, .int .u64 t481, .int .u64 t482], .agg #[.bool t483, .int .u64 t484, .int .u64 t485]] (by rfl) rfl rfl ?_
            with_reducible refine (sawtoothref02_AddS.calls true t481 t482 t483 t484 t485 t486 t487 t488 t489 _ A52.out).mono ?_
            rintro e w60 ⟨rfl, hb⟩; refine ⟨_, rfl, ?_⟩; replace BK473 := bbZ BK473 hb; replace BK474 := bbZ BK474 hb; replace BK475 := bbZ BK475 hb; replace HB := Aside0.mk (below_step HB.out hb); clear hb; refine hK.out _ _ ⟨(blk_cell BK475.out 0).trans rfl, (blk_cell BK475.out 1).trans rfl, (blk_cell BK475.out 2).trans rfl⟩ (fun hHeld => ?_); clear hK K; refine normA_ (some 78) ?_
            refine pureA_ (i := 3) (N := some 75) #[Y,Y,Y,Y,N,N,N,N,N] rfl rfl (any_of HT_.out (by kernel_rfl)) ?_
            refine pureA_ (i := 4) (N := some 79) #[Y,Y,Y,Y,Y,N,N,N,N] rfl rfl (any_of HT_.out (by kernel_rfl)) ?_
            refine pureA_ (i := 5) (N := some 80) #[Y,Y,Y,Y,Y,Y,N,N,N] rfl rfl (any_of HT_.out (by kernel_rfl)) ?_
            refine one_ (i := 6) (N := some 12) #[Y,Y,Y,Y,Y,Y,Y,N,N] rfl rfl (one_of HT_.out (by kernel_rfl)) (by decide) (fun K hK => ?_); refine box_step ?hg (N := 12) ?hd (cs := #[.bool false, .int .u64 0, .int .u64 0]) (t := 35) ?hr ?_; (case hd => rfl); (case hg => rfl); (case hr => first | (go_simp; done) | (go_simp; rfl)); intro gb490 hg w61 hbox hb; have BK490 := Aside0.mk (hbox); have GW490 := szZ HB hg; have GE490 := szZ HB hg; have NB473_490 := nlZ BK473 hg; have NB490_473 := ngZ BK473 hg; have NB474_490 := nlZ BK474 hg; have NB490_474 := ngZ BK474 hg; have NB475_490 := nlZ BK475 hg; have NB490_475 := ngZ BK475 hg; replace BK473 := bbZ BK473 hb; replace BK474 := bbZ BK474 hb; replace BK475 := bbZ BK475 hb; replace HB := Aside0.mk (below_step HB.out hb); clear hb hbox hg; refine hK.out _ _ ⟨(blk_cell BK475.out 0).trans rfl, (blk_cell BK475.out 1).trans rfl, (blk_cell BK475.out 2).trans rfl⟩ (fun hHeld => ?_); clear hK K; refine normA_ (some 12) ?_
            exact norm_ (by simp only [putAll, Act.put, sA, sB, sC]) (hCont (gb490) _ ⟨hHeld, BK473.out, BK474.out, BK475.out, BK490.out, GW490.out, GE490.out, NB473_490.out, NB490_473.out, NB474_490.out, NB490_474.out, NB475_490.out, NB490_475.out, (by repeat (first | (with_reducible first | exact HB.out | apply below_alloc | apply pw_below_drewN | apply below_drew1 | refine below_set ?_ (Aside0.out (by assumption))) | exact HB.out))⟩)
           ·skip
            refine box_step ?hg (N := 12) ?hd (cs := #[.bool false, .int .u64 0, .int .u64 0]) (t := 35) ?hr ?_; (case hd => rfl); (case hg => rfl); (case hr => first | (go_simp; done) | (go_simp; rfl)); intro gb490 hg w60 hbox hb; have BK490 := Aside0.mk (hbox); have GW490 := szZ HB hg; have GE490 := szZ HB hg; have NB473_490 := nlZ BK473 hg; have NB490_473 := ngZ BK473 hg; have NB474_490 := nlZ BK474 hg; have NB490_474 := ngZ BK474 hg; have NB475_490 := nlZ BK475 hg; have NB490_475 := ngZ BK475 hg; replace BK473 := bbZ BK473 hb; replace BK474 := bbZ BK474 hb; replace BK475 := bbZ BK475 hb; replace HB := Aside0.mk (below_step HB.out hb); clear hb hbox hg; refine hK.out _ _ ⟨(blk_cell BK475.out 0).trans rfl, (blk_cell BK475.out 1).trans rfl, (blk_cell BK475.out 2).trans rfl⟩ (fun hHeld => ?_); clear hK K; refine normA_ (some 12) ?_
            refine one_ (i := 2) (N := some 78) #[Y,Y,Y,N,N,N,Y,N,N] rfl rfl (one_of HT_.out (by kernel_rfl)) (by decide) (fun K hK => ?_); refine goesA_ Tryd.func73 rfl #[.agg #[.bool true, .int .u64 t481, .int .u64 t482], .agg #[.bool t483, .int .u64 t484, .int .u64 t485]] (by rfl) rfl rfl ?_
            with_reducible refine (sawtoothref02_AddS.calls true t481 t482 t483 t484 t485 t486 t487 t488 t489 _ A52.out).mono ?_
            rintro e w61 ⟨rfl, hb⟩; refine ⟨_, rfl, ?_⟩; replace BK473 := bbZ BK473 hb; replace BK474 := bbZ BK474 hb; replace BK475 := bbZ BK475 hb; replace BK490 := bbZ BK490 hb; replace HB := Aside0.mk (below_step HB.out hb); clear hb; refine hK.out _ _ ⟨(blk_cell BK475.out 0).trans rfl, (blk_cell BK475.out 1).trans rfl, (blk_cell BK475.out 2).trans rfl⟩ (fun hHeld => ?_); clear hK K; refine normA_ (some 78) ?_
            refine pureA_ (i := 3) (N := some 75) #[Y,Y,Y,Y,N,N,Y,N,N] rfl rfl (any_of HT_.out (by kernel_rfl)) ?_
            refine pureA_ (i := 4) (N := some 79) #[Y,Y,Y,Y,Y,N,Y,N,N] rfl rfl (any_of HT_.out (by kernel_rfl)) ?_
            refine pureA_ (i := 5) (N := some 80) #[Y,Y,Y,Y,Y,Y,Y,N,N] rfl rfl (any_of HT_.out (by kernel_rfl)) ?_
            exact norm_ (by simp only [putAll, Act.put, sA, sB, sC]) (hCont (gb490) _ ⟨hHeld, BK473.out, BK474.out, BK475.out, BK490.out, GW490.out, GE490.out, NB473_490.out, NB490_473.out, NB474_490.out, NB490_474.out, NB475_490.out, NB490_475.out, (by repeat (first | (with_reducible first | exact HB.out | apply below_alloc | apply pw_below_drewN | apply below_drew1 | refine below_set ?_ (Aside0.out (by assumption))) | exact HB.out))⟩)
          ·skip
           refine box_step ?hg (N := 12) ?hd (cs := #[.bool false, .int .u64 0, .int .u64 0]) (t := 35) ?hr ?_; (case hd => rfl); (case hg => rfl); (case hr => first | (go_simp; done) | (go_simp; rfl)); intro gb490 hg w59 hbox hb; have BK490 := Aside0.mk (hbox); have GW490 := szZ HB hg; have GE490 := szZ HB hg; have NB473_490 := nlZ BK473 hg; have NB490_473 := ngZ BK473 hg; have NB474_490 := nlZ BK474 hg; have NB490_474 := ngZ BK474 hg; have NB475_490 := nlZ BK475 hg; have NB490_475 := ngZ BK475 hg; replace BK473 := bbZ BK473 hb; replace BK474 := bbZ BK474 hb; replace BK475 := bbZ BK475 hb; replace HB := Aside0.mk (below_step HB.out hb); clear hb hbox hg; refine hK.out _ _ ⟨(blk_cell BK475.out 0).trans rfl, (blk_cell BK475.out 1).trans rfl, (blk_cell BK475.out 2).trans rfl⟩ (fun hHeld => ?_); clear hK K; refine normA_ (some 12) ?_
           refine one_ (i := 1) (N := some 77) #[Y,Y,N,N,N,N,Y,N,N] rfl rfl (one_of HT_.out (by kernel_rfl)) (by decide) (fun K hK => ?_); refine goesA_ Tryd.func51 rfl #[.int .i64 (-1)] (by rfl) rfl rfl ?_
           with_reducible refine (sawtoothref02_OfS.calls (-1) t483 t484 t485 _ A51.out).mono ?_
           rintro e w60 ⟨rfl, hb⟩; refine ⟨_, rfl, ?_⟩; replace BK473 := bbZ BK473 hb; replace BK474 := bbZ BK474 hb; replace BK475 := bbZ BK475 hb; replace BK490 := bbZ BK490 hb; replace HB := Aside0.mk (below_step HB.out hb); clear hb; refine hK.out _ _ ⟨(blk_cell BK475.out 0).trans rfl, (blk_cell BK475.out 1).trans rfl, (blk_cell BK475.out 2).trans rfl⟩ (fun hHeld => ?_); clear hK K; refine normA_ (some 77) ?_
           refine one_ (i := 2) (N := some 78) #[Y,Y,Y,N,N,N,Y,N,N] rfl rfl (one_of HT_.out (by kernel_rfl)) (by decide) (fun K hK => ?_); refine goesA_ Tryd.func73 rfl #[.agg #[.bool true, .int .u64 t481, .int .u64 t482], .agg #[.bool t483, .int .u64 t484, .int .u64 t485]] (by rfl) rfl rfl ?_
           with_reducible refine (sawtoothref02_AddS.calls true t481 t482 t483 t484 t485 t486 t487 t488 t489 _ A52.out).mono ?_
           rintro e w61 ⟨rfl, hb⟩; refine ⟨_, rfl, ?_⟩; replace BK473 := bbZ BK473 hb; replace BK474 := bbZ BK474 hb; replace BK475 := bbZ BK475 hb; replace BK490 := bbZ BK490 hb; replace HB := Aside0.mk (below_step HB.out hb); clear hb; refine hK.out _ _ ⟨(blk_cell BK475.out 0).trans rfl, (blk_cell BK475.out 1).trans rfl, (blk_cell BK475.out 2).trans rfl⟩ (fun hHeld => ?_); clear hK K; refine normA_ (some 78) ?_
           refine pureA_ (i := 3) (N := some 75) #[Y,Y,Y,Y,N,N,Y,N,N] rfl rfl (any_of HT_.out (by kernel_rfl)) ?_
           refine pureA_ (i := 4) (N := some 79) #[Y,Y,Y,Y,Y,N,Y,N,N] rfl rfl (any_of HT_.out (by kernel_rfl)) ?_
           refine pureA_ (i := 5) (N := some 80) #[Y,Y,Y,Y,Y,Y,Y,N,N] rfl rfl (any_of HT_.out (by kernel_rfl)) ?_
           exact norm_ (by simp only [putAll, Act.put, sA, sB, sC]) (hCont (gb490) _ ⟨hHeld, BK473.out, BK474.out, BK475.out, BK490.out, GW490.out, GE490.out, NB473_490.out, NB490_473.out, NB474_490.out, NB490_474.out, NB475_490.out, NB490_475.out, (by repeat (first | (with_reducible first | exact HB.out | apply below_alloc | apply pw_below_drewN | apply below_drew1 | refine below_set ?_ (Aside0.out (by assumption))) | exact HB.out))⟩)
         rintro gb490 w62 ⟨hS_, h0_, h1_, h2_, h3_, h4_, h5_, h6_, h7_, h8_, h9_, h10_, h11_, h12_⟩; have BK490 := Aside0.mk h3_; have GW490 := Aside0.mk h4_; have GE490 := Aside0.mk h5_; have NB473_490 := Aside0.mk h6_; have NB490_473 := Aside0.mk h7_; have NB474_490 := Aside0.mk h8_; have NB490_474 := Aside0.mk h9_; have NB475_490 := Aside0.mk h10_; have NB490_475 := Aside0.mk h11_; replace BK473 := Aside0.mk h0_; replace BK474 := Aside0.mk h1_; replace BK475 := Aside0.mk h2_; replace HB := Aside0.mk h12_; clear h0_ h1_ h2_ h3_ h4_ h5_ h6_ h7_ h8_ h9_ h10_ h11_ h12_; have hHeld : w62.cell? ⟨gb475, 0, none⟩ = some (.bool true) ∧ w62.cell? ⟨gb475, 1, none⟩ = some (.int .u64 t481) ∧ w62.cell? ⟨gb475, 2, none⟩ = some (.int .u64 t482) := hS_; refine norm_ (a' := ?_) ?_ ?_; rotate_left
         ·simp only [putAll, Act.put, sA, sB, sC]
          rfl
         refine one_ (i := 7) (N := none) #[Y,Y,Y,Y,Y,Y,Y,Y,N] rfl rfl (one_of HT_.out (by kernel_rfl)) (by decide) (fun K hK => ?_); have hs63 := czZ BK490 0 (.bool false); have hfs63 := blk_frozen BK490.out 0; have hns63_0 := NB473_490.out; have hns63_1 := NB474_490.out; have hns63_2 := NB475_490.out; have hms63_0 := NB490_473.out; have hms63_1 := NB490_474.out; have hms63_2 := NB490_475.out; have hs64 := czZ BK490 1 (.int .u64 0); have hfs64 := blk_frozen BK490.out 1; have hns64_0 := NB473_490.out; have hns64_1 := NB474_490.out; have hns64_2 := NB475_490.out; have hms64_0 := NB490_473.out; have hms64_1 := NB490_474.out; have hms64_2 := NB490_475.out; have hs65 := czZ BK490 2 (.int .u64 0); have hfs65 := blk_frozen BK490.out 2; have hns65_0 := NB473_490.out; have hns65_1 := NB474_490.out; have hns65_2 := NB475_490.out; have hms65_0 := NB490_473.out; have hms65_1 := NB490_474.out; have hms65_2 := NB490_475.out; refine skip_ (w1 := ?_) (by rfl) rfl ?_ ?_; rotate_left
         ·go_simp
          rfl
         refine hK.out _ _ ⟨((cell_far (p := ⟨gb490, _, none⟩) NB475_490.out _).trans (((cell_far (p := ⟨gb490, _, none⟩) NB475_490.out _).trans (((cell_far (p := ⟨gb490, _, none⟩) NB475_490.out _).trans (hHeld.1)))))), ((cell_far (p := ⟨gb490, _, none⟩) NB475_490.out _).trans (((cell_far (p := ⟨gb490, _, none⟩) NB475_490.out _).trans (((cell_far (p := ⟨gb490, _, none⟩) NB475_490.out _).trans (hHeld.2.1)))))), ((cell_far (p := ⟨gb490, _, none⟩) NB475_490.out _).trans (((cell_far (p := ⟨gb490, _, none⟩) NB475_490.out _).trans (((cell_far (p := ⟨gb490, _, none⟩) NB475_490.out _).trans (hHeld.2.2))))))⟩ (fun hHeld => ?_); clear hK K; refine pureA_ (i := 8) (N := some 13) #[Y,Y,Y,Y,Y,Y,Y,Y,Y] rfl rfl (any_of HT_.out (by kernel_rfl)) ?_
         refine done_ (done_of HT_.out (by kernel_rfl)) ?_; have hnb66 := NB490_473.out; have hnc66 := NB473_490.out; have hnb67 := NB490_474.out; have hnc67 := NB474_490.out; have hnb68 := NB490_475.out; have hnc68 := NB475_490.out; have hcz69_0 := czZ BK490 0 (.bool false); have hcz69_1 := czZ BK490 1 (.int .u64 0); have hcz69_2 := czZ BK490 2 (.int .u64 0); have hfz69_0 := blk_frozen BK490.out 0; have hfz69_1 := blk_frozen BK490.out 1; have hfz69_2 := blk_frozen BK490.out 2; have hnb70 := NB474_473.out; have hnc70 := NB473_474.out; have hcz71_0 := czZ BK474 0 (.bool false); have hcz71_1 := czZ BK474 1 (.int .u64 0); have hcz71_2 := czZ BK474 2 (.int .u64 0); have hfz71_0 := blk_frozen BK474.out 0; have hfz71_1 := blk_frozen BK474.out 1; have hfz71_2 := blk_frozen BK474.out 2
         try go_wp2
         refine bodyPost_ret (results_ctt rfl _ _ gb474 35 #[.bool t486, .int .u64 t487, .int .u64 t488] (0, 0) _ rfl (by (with_reducible repeat first | apply blk_drewN | apply blk_drew | apply blk_alloc); refine blk_put (cs := #[.bool t486, .int .u64 t487, .int .u64 0]) ?_ 2 _ rfl; (with_reducible repeat first | apply blk_drewN | apply blk_drew | apply blk_alloc); refine blk_put (cs := #[.bool t486, .int .u64 0, .int .u64 0]) ?_ 1 _ rfl; (with_reducible repeat first | apply blk_drewN | apply blk_drew | apply blk_alloc); refine blk_put (cs := #[.bool false, .int .u64 0, .int .u64 0]) ?_ 0 _ rfl; (with_reducible repeat first | apply blk_drewN | apply blk_drew | apply blk_alloc); refine blk_far ?_ NB474_490.out _; (with_reducible repeat first | apply blk_drewN | apply blk_drew | apply blk_alloc); refine blk_far ?_ NB474_490.out _; (with_reducible repeat first | apply blk_drewN | apply blk_drew | apply blk_alloc); refine blk_far ?_ NB474_490.out _; (with_reducible repeat first | apply blk_drewN | apply blk_drew | apply blk_alloc); exact BK474.out) Tryd.underlying35 rfl (by kernel_rfl)) rfl ?_; exact ⟨by first | rfl | (simp [errW_none, errW_some] <;> rfl) | (simp [*, errW_none, errW_some] <;> rfl), by repeat (first | (with_reducible first | exact HB.out | apply below_alloc | apply pw_below_drewN | apply below_drew1 | refine below_set ?_ (Aside0.out (by assumption))) | exact HB.out)⟩
        ·rw [if_neg c53] at H
         have c53b0 : (t489 == 0) = false := beq_eq_false_iff_ne.mpr c53; have c53b1 : (t489 != 0) = true := bne_iff_ne.mpr c53; simp only [Option.some.injEq, Prod.mk.injEq] at H; obtain ⟨rfl, rfl, rfl, rfl, rfl⟩ := H; have hnb72 := NB475_473.out; have hnc72 := NB473_475.out; have hnb73 := NB475_474.out; have hnc73 := NB474_475.out; have hcz74_0 : wc.cell? ⟨gb475, 0, none⟩ = some (.bool t480) := (blk_cell BK475.out 0).trans rfl; have hcz74_1 : wc.cell? ⟨gb475, 1, none⟩ = some (.int .u64 t481) := (blk_cell BK475.out 1).trans rfl; have hcz74_2 : wc.cell? ⟨gb475, 2, none⟩ = some (.int .u64 t482) := (blk_cell BK475.out 2).trans rfl; have hfz74_0 := blk_frozen BK475.out 0; have hfz74_1 := blk_frozen BK475.out 1; have hfz74_2 := blk_frozen BK475.out 2
         try go_wp2
         have n0_ : Aside0 ((wc.setCell ⟨gb475, 0, none⟩ (.bool true)).heap[gb473]? = some (.cells #[.bool a0_0, .int .u64 a0_1, .int .u64 a0_2] 35 (0, 0))) := ⟨by (with_reducible repeat first | apply blk_drewN | apply blk_drew | apply blk_alloc); refine blk_far ?_ NB473_475.out _; (with_reducible repeat first | apply blk_drewN | apply blk_drew | apply blk_alloc); exact BK473.out⟩
         have n1_ : Aside0 ((wc.setCell ⟨gb475, 0, none⟩ (.bool true)).heap[gb474]? = some (.cells #[.bool false, .int .u64 0, .int .u64 0] 35 (0, 0))) := ⟨by (with_reducible repeat first | apply blk_drewN | apply blk_drew | apply blk_alloc); refine blk_far ?_ NB474_475.out _; (with_reducible repeat first | apply blk_drewN | apply blk_drew | apply blk_alloc); exact BK474.out⟩
         have n2_ : Aside0 ((wc.setCell ⟨gb475, 0, none⟩ (.bool true)).heap[gb475]? = some (.cells #[.bool true, .int .u64 t481, .int .u64 t482] 35 (0, 0))) := ⟨by (with_reducible repeat first | apply blk_drewN | apply blk_drew | apply blk_alloc); refine blk_put (cs := #[.bool t480, .int .u64 t481, .int .u64 t482]) ?_ 0 _ rfl; (with_reducible repeat first | apply blk_drewN | apply blk_drew | apply blk_alloc); exact BK475.out⟩
         have n3_ : Aside0 (Below w.heap.size w (wc.setCell ⟨gb475, 0, none⟩ (.bool true))) := ⟨by repeat (first | (with_reducible first | exact HB.out | apply below_alloc | apply pw_below_drewN | apply below_drew1 | refine below_set ?_ (Aside0.out (by assumption))) | exact HB.out)⟩
         (try clear BK473); (try clear BK474); (try clear BK475); (try clear HB)
         generalize (wc.setCell ⟨gb475, 0, none⟩ (.bool true)) = w75 at n0_ n1_ n2_ n3_ ⊢
         have BK473 := n0_; have BK474 := n1_; have BK475 := n2_; have HB := n3_; clear n0_ n1_ n2_ n3_; replace BK473 := Aside0.mk (blk_drew BK473.out); replace BK474 := Aside0.mk (blk_drew BK474.out); replace BK475 := Aside0.mk (blk_drew BK475.out); replace HB := Aside0.mk (below_drew1 HB.out); refine start_ (n := 9) (S := fun w' => w'.cell? ⟨gb475, 0, none⟩ = some (.bool true) ∧ w'.cell? ⟨gb475, 1, none⟩ = some (.int .u64 t481) ∧ w'.cell? ⟨gb475, 2, none⟩ = some (.int .u64 t482)) (ds := []) #[N,N,N,N,N,N,N,N,N] (by kernel_rfl) rfl rfl ⟨(blk_cell BK475.out 0).trans rfl, (blk_cell BK475.out 1).trans rfl, (blk_cell BK475.out 2).trans rfl⟩ (fun hHeld => ?_); refine with_tabW sawtoothref02_Div.tab20 sawtoothref02_Div.bits20 (fun HT_ HW_ => ?_)
         generalize w75.drew = w76 at BK473 BK474 BK475 HB hHeld ⊢
         refine take_ (i := 0) (N := some 76) (v := ?_) (a' := ?_) #[Y,N,N,N,N,N,N,N,N] rfl rfl (take_ofW HT_.out HW_.out (by kernel_rfl)) (fun _ _ _ h => h) (Or.inl ⟨by rfl, ?_⟩) hHeld ?_ ?_; rotate_left
         ·rintro w' ⟨s0, s1, s2⟩; go_simp
          with_reducible rfl
         rotate_left
         ·simp only [Act.put, sA, sB, sC, i64_w, i32_w]
          rfl
         refine join_ (σ := Nat) 2 #[Y,Y,Y,Y,Y,Y,Y,N,N] (fun s_ => [(77, .agg #[.bool t483, .int .u64 t484, .int .u64 t485]), (78, .tuple #[.agg #[.bool t486, .int .u64 t487, .int .u64 t488], .int .i64 t489]), (12, .pointer (some ⟨s_, 0, none⟩)), (75, .tuple #[.agg #[.bool t486, .int .u64 t487, .int .u64 t488], .int .i64 t489]), (79, .agg #[.bool t486, .int .u64 t487, .int .u64 t488]), (80, .int .i64 t489)]) (fun s_ w' => (w'.cell? ⟨gb475, 0, none⟩ = some (.bool true) ∧ w'.cell? ⟨gb475, 1, none⟩ = some (.int .u64 t481) ∧ w'.cell? ⟨gb475, 2, none⟩ = some (.int .u64 t482)) ∧ (w'.heap[gb473]? = some (.cells #[.bool a0_0, .int .u64 a0_1, .int .u64 a0_2] 35 (0, 0))) ∧ (w'.heap[gb474]? = some (.cells #[.bool false, .int .u64 0, .int .u64 0] 35 (0, 0))) ∧ (w'.heap[gb475]? = some (.cells #[.bool true, .int .u64 t481, .int .u64 t482] 35 (0, 0))) ∧ (w'.heap[s_]? = some (.cells #[.bool false, .int .u64 0, .int .u64 0] 35 (0, 0))) ∧ (w.heap.size ≤ s_) ∧ (w.heap.size ≤ s_) ∧ (gb473 ≠ s_) ∧ (s_ ≠ gb473) ∧ (gb474 ≠ s_) ∧ (s_ ≠ gb474) ∧ (gb475 ≠ s_) ∧ (s_ ≠ gb475) ∧ (Below w.heap.size w w')) ?_ ?_; rotate_left
         ·intro hCont; refine two_ (i := 1) (j := 6) (Ni := some 77) (Nj := some 12) #[Y,Y,N,N,N,N,N,N,N] #[Y,N,N,N,N,N,Y,N,N] rfl rfl rfl rfl (two_of HT_.out (by kernel_rfl)) (by decide) (by decide) (fun K hK => ?_) (fun K hK => ?_)
          ·skip
           refine goesA_ Tryd.func51 rfl #[.int .i64 (-1)] (by rfl) rfl rfl ?_
           with_reducible refine (sawtoothref02_OfS.calls (-1) t483 t484 t485 _ A51.out).mono ?_
           rintro e w77 ⟨rfl, hb⟩; refine ⟨_, rfl, ?_⟩; replace BK473 := bbZ BK473 hb; replace BK474 := bbZ BK474 hb; replace BK475 := bbZ BK475 hb; replace HB := Aside0.mk (below_step HB.out hb); clear hb; refine hK.out _ _ ⟨(blk_cell BK475.out 0).trans rfl, (blk_cell BK475.out 1).trans rfl, (blk_cell BK475.out 2).trans rfl⟩ (fun hHeld => ?_); clear hK K; refine normA_ (some 77) ?_
           refine two_ (i := 2) (j := 6) (Ni := some 78) (Nj := some 12) #[Y,Y,Y,N,N,N,N,N,N] #[Y,Y,N,N,N,N,Y,N,N] rfl rfl rfl rfl (two_of HT_.out (by kernel_rfl)) (by decide) (by decide) (fun K hK => ?_) (fun K hK => ?_)
           ·skip
            refine goesA_ Tryd.func73 rfl #[.agg #[.bool true, .int .u64 t481, .int .u64 t482], .agg #[.bool t483, .int .u64 t484, .int .u64 t485]] (by rfl) rfl rfl ?_
            with_reducible refine (sawtoothref02_AddS.calls true t481 t482 t483 t484 t485 t486 t487 t488 t489 _ A52.out).mono ?_
            rintro e w78 ⟨rfl, hb⟩; refine ⟨_, rfl, ?_⟩; replace BK473 := bbZ BK473 hb; replace BK474 := bbZ BK474 hb; replace BK475 := bbZ BK475 hb; replace HB := Aside0.mk (below_step HB.out hb); clear hb; refine hK.out _ _ ⟨(blk_cell BK475.out 0).trans rfl, (blk_cell BK475.out 1).trans rfl, (blk_cell BK475.out 2).trans rfl⟩ (fun hHeld => ?_); clear hK K; refine normA_ (some 78) ?_
            refine pureA_ (i := 3) (N := some 75) #[Y,Y,Y,Y,N,N,N,N,N] rfl rfl (any_of HT_.out (by kernel_rfl)) ?_
            refine pureA_ (i := 4) (N := some 79) #[Y,Y,Y,Y,Y,N,N,N,N] rfl rfl (any_of HT_.out (by kernel_rfl)) ?_
            refine pureA_ (i := 5) (N := some 80) #[Y,Y,Y,Y,Y,Y,N,N,N] rfl rfl (any_of HT_.out (by kernel_rfl)) ?_
            refine one_ (i := 6) (N := some 12) #[Y,Y,Y,Y,Y,Y,Y,N,N] rfl rfl (one_of HT_.out (by kernel_rfl)) (by decide) (fun K hK => ?_); refine box_step ?hg (N := 12) ?hd (cs := #[.bool false, .int .u64 0, .int .u64 0]) (t := 35) ?hr ?_; (case hd => rfl); (case hg => rfl); (case hr => first | (go_simp; done) | (go_simp; rfl)); intro gb490 hg w79 hbox hb; have BK490 := Aside0.mk (hbox); have GW490 := szZ HB hg; have GE490 := szZ HB hg; have NB473_490 := nlZ BK473 hg; have NB490_473 := ngZ BK473 hg; have NB474_490 := nlZ BK474 hg; have NB490_474 := ngZ BK474 hg; have NB475_490 := nlZ BK475 hg; have NB490_475 := ngZ BK475 hg; replace BK473 := bbZ BK473 hb; replace BK474 := bbZ BK474 hb; replace BK475 := bbZ BK475 hb; replace HB := Aside0.mk (below_step HB.out hb); clear hb hbox hg; refine hK.out _ _ ⟨(blk_cell BK475.out 0).trans rfl, (blk_cell BK475.out 1).trans rfl, (blk_cell BK475.out 2).trans rfl⟩ (fun hHeld => ?_); clear hK K; refine normA_ (some 12) ?_
            exact norm_ (by simp only [putAll, Act.put, sA, sB, sC]) (hCont (gb490) _ ⟨hHeld, BK473.out, BK474.out, BK475.out, BK490.out, GW490.out, GE490.out, NB473_490.out, NB490_473.out, NB474_490.out, NB490_474.out, NB475_490.out, NB490_475.out, (by repeat (first | (with_reducible first | exact HB.out | apply below_alloc | apply pw_below_drewN | apply below_drew1 | refine below_set ?_ (Aside0.out (by assumption))) | exact HB.out))⟩)
           ·skip
            refine box_step ?hg (N := 12) ?hd (cs := #[.bool false, .int .u64 0, .int .u64 0]) (t := 35) ?hr ?_; (case hd => rfl); (case hg => rfl); (case hr => first | (go_simp; done) | (go_simp; rfl)); intro gb490 hg w78 hbox hb; have BK490 := Aside0.mk (hbox); have GW490 := szZ HB hg; have GE490 := szZ HB hg; have NB473_490 := nlZ BK473 hg; have NB490_473 := ngZ BK473 hg; have NB474_490 := nlZ BK474 hg; have NB490_474 := ngZ BK474 hg; have NB475_490 := nlZ BK475 hg; have NB490_475 := ngZ BK475 hg; replace BK473 := bbZ BK473 hb; replace BK474 := bbZ BK474 hb; replace BK475 := bbZ BK475 hb; replace HB := Aside0.mk (below_step HB.out hb); clear hb hbox hg; refine hK.out _ _ ⟨(blk_cell BK475.out 0).trans rfl, (blk_cell BK475.out 1).trans rfl, (blk_cell BK475.out 2).trans rfl⟩ (fun hHeld => ?_); clear hK K; refine normA_ (some 12) ?_
            refine one_ (i := 2) (N := some 78) #[Y,Y,Y,N,N,N,Y,N,N] rfl rfl (one_of HT_.out (by kernel_rfl)) (by decide) (fun K hK => ?_); refine goesA_ Tryd.func73 rfl #[.agg #[.bool true, .int .u64 t481, .int .u64 t482], .agg #[.bool t483, .int .u64 t484, .int .u64 t485]] (by rfl) rfl rfl ?_
            with_reducible refine (sawtoothref02_AddS.calls true t481 t482 t483 t484 t485 t486 t487 t488 t489 _ A52.out).mono ?_
            rintro e w79 ⟨rfl, hb⟩; refine ⟨_, rfl, ?_⟩; replace BK473 := bbZ BK473 hb; replace BK474 := bbZ BK474 hb; replace BK475 := bbZ BK475 hb; replace BK490 := bbZ BK490 hb; replace HB := Aside0.mk (below_step HB.out hb); clear hb; refine hK.out _ _ ⟨(blk_cell BK475.out 0).trans rfl, (blk_cell BK475.out 1).trans rfl, (blk_cell BK475.out 2).trans rfl⟩ (fun hHeld => ?_); clear hK K; refine normA_ (some 78) ?_
            refine pureA_ (i := 3) (N := some 75) #[Y,Y,Y,Y,N,N,Y,N,N] rfl rfl (any_of HT_.out (by kernel_rfl)) ?_
            refine pureA_ (i := 4) (N := some 79) #[Y,Y,Y,Y,Y,N,Y,N,N] rfl rfl (any_of HT_.out (by kernel_rfl)) ?_
            refine pureA_ (i := 5) (N := some 80) #[Y,Y,Y,Y,Y,Y,Y,N,N] rfl rfl (any_of HT_.out (by kernel_rfl)) ?_
            exact norm_ (by simp only [putAll, Act.put, sA, sB, sC]) (hCont (gb490) _ ⟨hHeld, BK473.out, BK474.out, BK475.out, BK490.out, GW490.out, GE490.out, NB473_490.out, NB490_473.out, NB474_490.out, NB490_474.out, NB475_490.out, NB490_475.out, (by repeat (first | (with_reducible first | exact HB.out | apply below_alloc | apply pw_below_drewN | apply below_drew1 | refine below_set ?_ (Aside0.out (by assumption))) | exact HB.out))⟩)
          ·skip
           refine box_step ?hg (N := 12) ?hd (cs := #[.bool false, .int .u64 0, .int .u64 0]) (t := 35) ?hr ?_; (case hd => rfl); (case hg => rfl); (case hr => first | (go_simp; done) | (go_simp; rfl)); intro gb490 hg w77 hbox hb; have BK490 := Aside0.mk (hbox); have GW490 := szZ HB hg; have GE490 := szZ HB hg; have NB473_490 := nlZ BK473 hg; have NB490_473 := ngZ BK473 hg; have NB474_490 := nlZ BK474 hg; have NB490_474 := ngZ BK474 hg; have NB475_490 := nlZ BK475 hg; have NB490_475 := ngZ BK475 hg; replace BK473 := bbZ BK473 hb; replace BK474 := bbZ BK474 hb; replace BK475 := bbZ BK475 hb; replace HB := Aside0.mk (below_step HB.out hb); clear hb hbox hg; refine hK.out _ _ ⟨(blk_cell BK475.out 0).trans rfl, (blk_cell BK475.out 1).trans rfl, (blk_cell BK475.out 2).trans rfl⟩ (fun hHeld => ?_); clear hK K; refine normA_ (some 12) ?_
           refine one_ (i := 1) (N := some 77) #[Y,Y,N,N,N,N,Y,N,N] rfl rfl (one_of HT_.out (by kernel_rfl)) (by decide) (fun K hK => ?_); refine goesA_ Tryd.func51 rfl #[.int .i64 (-1)] (by rfl) rfl rfl ?_
           with_reducible refine (sawtoothref02_OfS.calls (-1) t483 t484 t485 _ A51.out).mono ?_
           rintro e w78 ⟨rfl, hb⟩; refine ⟨_, rfl, ?_⟩; replace BK473 := bbZ BK473 hb; replace BK474 := bbZ BK474 hb; replace BK475 := bbZ BK475 hb; replace BK490 := bbZ BK490 hb; replace HB := Aside0.mk (below_step HB.out hb); clear hb; refine hK.out _ _ ⟨(blk_cell BK475.out 0).trans rfl, (blk_cell BK475.out 1).trans rfl, (blk_cell BK475.out 2).trans rfl⟩ (fun hHeld => ?_); clear hK K; refine normA_ (some 77) ?_
           refine one_ (i := 2) (N := some 78) #[Y,Y,Y,N,N,N,Y,N,N] rfl rfl (one_of HT_.out (by kernel_rfl)) (by decide) (fun K hK => ?_); refine goesA_ Tryd.func73 rfl #[.agg #[.bool true, .int .u64 t481, .int .u64 t482], .agg #[.bool t483, .int .u64 t484, .int .u64 t485]] (by rfl) rfl rfl ?_
           with_reducible refine (sawtoothref02_AddS.calls true t481 t482 t483 t484 t485 t486 t487 t488 t489 _ A52.out).mono ?_
           rintro e w79 ⟨rfl, hb⟩; refine ⟨_, rfl, ?_⟩; replace BK473 := bbZ BK473 hb; replace BK474 := bbZ BK474 hb; replace BK475 := bbZ BK475 hb; replace BK490 := bbZ BK490 hb; replace HB := Aside0.mk (below_step HB.out hb); clear hb; refine hK.out _ _ ⟨(blk_cell BK475.out 0).trans rfl, (blk_cell BK475.out 1).trans rfl, (blk_cell BK475.out 2).trans rfl⟩ (fun hHeld => ?_); clear hK K; refine normA_ (some 78) ?_
           refine pureA_ (i := 3) (N := some 75) #[Y,Y,Y,Y,N,N,Y,N,N] rfl rfl (any_of HT_.out (by kernel_rfl)) ?_
           refine pureA_ (i := 4) (N := some 79) #[Y,Y,Y,Y,Y,N,Y,N,N] rfl rfl (any_of HT_.out (by kernel_rfl)) ?_
           refine pureA_ (i := 5) (N := some 80) #[Y,Y,Y,Y,Y,Y,Y,N,N] rfl rfl (any_of HT_.out (by kernel_rfl)) ?_
           exact norm_ (by simp only [putAll, Act.put, sA, sB, sC]) (hCont (gb490) _ ⟨hHeld, BK473.out, BK474.out, BK475.out, BK490.out, GW490.out, GE490.out, NB473_490.out, NB490_473.out, NB474_490.out, NB490_474.out, NB475_490.out, NB490_475.out, (by repeat (first | (with_reducible first | exact HB.out | apply below_alloc | apply pw_below_drewN | apply below_drew1 | refine below_set ?_ (Aside0.out (by assumption))) | exact HB.out))⟩)
         rintro gb490 w80 ⟨hS_, h0_, h1_, h2_, h3_, h4_, h5_, h6_, h7_, h8_, h9_, h10_, h11_, h12_⟩; have BK490 := Aside0.mk h3_; have GW490 := Aside0.mk h4_; have GE490 := Aside0.mk h5_; have NB473_490 := Aside0.mk h6_; have NB490_473 := Aside0.mk h7_; have NB474_490 := Aside0.mk h8_; have NB490_474 := Aside0.mk h9_; have NB475_490 := Aside0.mk h10_; have NB490_475 := Aside0.mk h11_; replace BK473 := Aside0.mk h0_; replace BK474 := Aside0.mk h1_; replace BK475 := Aside0.mk h2_; replace HB := Aside0.mk h12_; clear h0_ h1_ h2_ h3_ h4_ h5_ h6_ h7_ h8_ h9_ h10_ h11_ h12_; have hHeld : w80.cell? ⟨gb475, 0, none⟩ = some (.bool true) ∧ w80.cell? ⟨gb475, 1, none⟩ = some (.int .u64 t481) ∧ w80.cell? ⟨gb475, 2, none⟩ = some (.int .u64 t482) := hS_; refine norm_ (a' := ?_) ?_ ?_; rotate_left
         ·simp only [putAll, Act.put, sA, sB, sC]
          rfl
         refine one_ (i := 7) (N := none) #[Y,Y,Y,Y,Y,Y,Y,Y,N] rfl rfl (one_of HT_.out (by kernel_rfl)) (by decide) (fun K hK => ?_); have hs81 := czZ BK490 0 (.bool false); have hfs81 := blk_frozen BK490.out 0; have hns81_0 := NB473_490.out; have hns81_1 := NB474_490.out; have hns81_2 := NB475_490.out; have hms81_0 := NB490_473.out; have hms81_1 := NB490_474.out; have hms81_2 := NB490_475.out; have hs82 := czZ BK490 1 (.int .u64 0); have hfs82 := blk_frozen BK490.out 1; have hns82_0 := NB473_490.out; have hns82_1 := NB474_490.out; have hns82_2 := NB475_490.out; have hms82_0 := NB490_473.out; have hms82_1 := NB490_474.out; have hms82_2 := NB490_475.out; have hs83 := czZ BK490 2 (.int .u64 0); have hfs83 := blk_frozen BK490.out 2; have hns83_0 := NB473_490.out; have hns83_1 := NB474_490.out; have hns83_2 := NB475_490.out; have hms83_0 := NB490_473.out; have hms83_1 := NB490_474.out; have hms83_2 := NB490_475.out; refine skip_ (w1 := ?_) (by rfl) rfl ?_ ?_; rotate_left
         ·go_simp
          rfl
         refine hK.out _ _ ⟨((cell_far (p := ⟨gb490, _, none⟩) NB475_490.out _).trans (((cell_far (p := ⟨gb490, _, none⟩) NB475_490.out _).trans (((cell_far (p := ⟨gb490, _, none⟩) NB475_490.out _).trans (hHeld.1)))))), ((cell_far (p := ⟨gb490, _, none⟩) NB475_490.out _).trans (((cell_far (p := ⟨gb490, _, none⟩) NB475_490.out _).trans (((cell_far (p := ⟨gb490, _, none⟩) NB475_490.out _).trans (hHeld.2.1)))))), ((cell_far (p := ⟨gb490, _, none⟩) NB475_490.out _).trans (((cell_far (p := ⟨gb490, _, none⟩) NB475_490.out _).trans (((cell_far (p := ⟨gb490, _, none⟩) NB475_490.out _).trans (hHeld.2.2))))))⟩ (fun hHeld => ?_); clear hK K; refine pureA_ (i := 8) (N := some 13) #[Y,Y,Y,Y,Y,Y,Y,Y,Y] rfl rfl (any_of HT_.out (by kernel_rfl)) ?_
         refine done_ (done_of HT_.out (by kernel_rfl)) ?_; have hnb84 := NB474_473.out; have hnc84 := NB473_474.out; have hnb85 := NB474_490.out; have hnc85 := NB490_474.out; have hcz86_0 := czZ BK474 0 (.bool false); have hcz86_1 := czZ BK474 1 (.int .u64 0); have hcz86_2 := czZ BK474 2 (.int .u64 0); have hfz86_0 := blk_frozen BK474.out 0; have hfz86_1 := blk_frozen BK474.out 1; have hfz86_2 := blk_frozen BK474.out 2
         try go_wp2
         refine bodyPost_ret (results_ctt rfl _ _ gb474 35 #[.bool false, .int .u64 0, .int .u64 0] (0, 0) _ rfl (by (with_reducible repeat first | apply blk_drewN | apply blk_drew | apply blk_alloc); refine blk_put (cs := #[.bool false, .int .u64 0, .int .u64 0]) ?_ 2 _ rfl; (with_reducible repeat first | apply blk_drewN | apply blk_drew | apply blk_alloc); refine blk_put (cs := #[.bool false, .int .u64 0, .int .u64 0]) ?_ 1 _ rfl; (with_reducible repeat first | apply blk_drewN | apply blk_drew | apply blk_alloc); refine blk_put (cs := #[.bool false, .int .u64 0, .int .u64 0]) ?_ 0 _ rfl; (with_reducible repeat first | apply blk_drewN | apply blk_drew | apply blk_alloc); refine blk_far ?_ NB474_490.out _; (with_reducible repeat first | apply blk_drewN | apply blk_drew | apply blk_alloc); refine blk_far ?_ NB474_490.out _; (with_reducible repeat first | apply blk_drewN | apply blk_drew | apply blk_alloc); refine blk_far ?_ NB474_490.out _; (with_reducible repeat first | apply blk_drewN | apply blk_drew | apply blk_alloc); exact BK474.out) Tryd.underlying35 rfl (by kernel_rfl)) rfl ?_; exact ⟨by first | rfl | (simp [errW_none, errW_some] <;> rfl) | (simp [*, errW_none, errW_some] <;> rfl), by repeat (first | (with_reducible first | exact HB.out | apply below_alloc | apply pw_below_drewN | apply below_drew1 | refine below_set ?_ (Aside0.out (by assumption))) | exact HB.out)⟩

end Go.Proofs.YtceiakiihkaamaaDoor.Px
