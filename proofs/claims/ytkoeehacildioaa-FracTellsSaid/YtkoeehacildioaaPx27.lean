/- Printed by a program of this session (wip/tool/px.py), over the kit's print: for each Go function a Lean function, and the proof that the machine's call answers as that function says. Conditions: none beside what the theorems state. -/
import Derived.Test.YtkoeehacildioaaPx0
import Derived.Test.YtkoeehacildioaaPx25
import Derived.Test.YtkoeehacildioaaPx26
namespace Go.Proofs.Ytkoeehacildioaa.Px
open Go.RowKit Go.Proofs.YtkoeehacildioaaW.PrintWords Go.Proofs.YtkoeehacildioaaW.PrintLast Go.Proofs.YtkoeehacildioaaW.PrintMore
attribute [local go_sem] max2_int min2_int max_two min_two max_three min_three max_four min_four   -- for this text's walks alone
set_option linter.unusedVariables false
set_option linter.unusedSimpArgs false

/-! ### sawtoothref02_Div: function 21 -/
mutual
noncomputable def sawtoothref02_Div.l0 : Nat → Int → Int → Int → Int → Bool → Int → Int → Bool → Int → Int → Option (Bool × Int × Int × Int × Int)
 | 0, _, _, _, _, _, _, _, _, _, _ => none
 | k + 1, x1, x7, x8, x10, x354000, x354001, x354002, x356000, x356001, x356002 => if x10 < 64 then (if x7 ≥ 9223372036854775808 then (sawtoothref02_Div.l0 k x1 (IntKind.u64.wrap ((IntKind.u64.wrap ((IntKind.u64.wrap (2 * x7)) + (IntKind.u64.wrap (Int.tdiv x8 9223372036854775808)))) - x1)) (IntKind.u64.wrap (2 * x8)) (wrap64 (x10 + 1)) x354000 x354001 x354002 x356000 x356001 (IntKind.u64.wrap ((IntKind.u64.wrap (2 * x356002)) + 1))) else (if (IntKind.u64.wrap ((IntKind.u64.wrap (2 * x7)) + (IntKind.u64.wrap (Int.tdiv x8 9223372036854775808)))) ≥ x1 then (sawtoothref02_Div.l0 k x1 (IntKind.u64.wrap ((IntKind.u64.wrap ((IntKind.u64.wrap (2 * x7)) + (IntKind.u64.wrap (Int.tdiv x8 9223372036854775808)))) - x1)) (IntKind.u64.wrap (2 * x8)) (wrap64 (x10 + 1)) x354000 x354001 x354002 x356000 x356001 (IntKind.u64.wrap ((IntKind.u64.wrap (2 * x356002)) + 1))) else (sawtoothref02_Div.l0 k x1 (IntKind.u64.wrap ((IntKind.u64.wrap (2 * x7)) + (IntKind.u64.wrap (Int.tdiv x8 9223372036854775808)))) (IntKind.u64.wrap (2 * x8)) (wrap64 (x10 + 1)) x354000 x354001 x354002 x356000 x356001 (IntKind.u64.wrap (2 * x356002))))) else ((sawtoothref02_digits.f x356000 x356001 x356002).bind fun bt356 => ((sawtoothref02_wholeS.f bt356.1 bt356.2.1 bt356.2.2.1 bt356.2.2.2 x356000).bind fun bt360 => (if x354000 = true then (sawtoothref02_Div.j1 k x1 x7 (x7 == 0) bt360.1 bt360.2.1 bt360.2.2) else (sawtoothref02_Div.j1 k x1 x7 true bt360.1 bt360.2.1 bt360.2.2))))
noncomputable def sawtoothref02_Div.j1 : Nat → Int → Int → Bool → Bool → Int → Int → Option (Bool × Int × Int × Int × Int)
 | 0, _, _, _, _, _, _ => none
 | k + 1, x1, x7, x71, x356000, x356001, x356002 => if x71 = true then (some (x356000, x356001, x356002, x7, 0)) else ((sawtoothref02_OfS.f (-1)).bind fun bt363 => ((sawtoothref02_AddS.f true x356001 x356002 bt363.1 bt363.2.1 bt363.2.2).bind fun bt366 => (if bt366.2.2.2 = 0 then (some (bt366.1, bt366.2.1, bt366.2.2.1, IntKind.u64.wrap (x1 - x7), 0)) else (some (false, 0, 0, 0, bt366.2.2.2)))))
end
noncomputable def sawtoothref02_Div.f (k : Nat) (a0_0 : Bool) (a0_1 : Int) (a0_2 : Int) (a1 : Int) : Option (Bool × Int × Int × Int × Int) := if a1 = 0 then (some (false, 0, 0, 0, 20)) else (sawtoothref02_Div.l0 k a1 (Int.tmod a0_1 a1) a0_2 0 a0_0 a0_1 a0_2 a0_0 (IntKind.u64.wrap (Int.tdiv a0_1 a1)) 0)
theorem sawtoothref02_Div.mono_l : ∀ k, (∀ y0 y1 y2 y3 y4 y5 y6 y7 y8 y9, LeO (sawtoothref02_Div.l0 k y0 y1 y2 y3 y4 y5 y6 y7 y8 y9) (sawtoothref02_Div.l0 (k + 1) y0 y1 y2 y3 y4 y5 y6 y7 y8 y9)) ∧ (∀ y0 y1 y2 y3 y4 y5, LeO (sawtoothref02_Div.j1 k y0 y1 y2 y3 y4 y5) (sawtoothref02_Div.j1 (k + 1) y0 y1 y2 y3 y4 y5))
 | 0 => ⟨fun _ _ _ _ _ _ _ _ _ _ r h => by simp [sawtoothref02_Div.l0] at h, fun _ _ _ _ _ _ r h => by simp [sawtoothref02_Div.j1] at h⟩
 | k + 1 => by
  obtain ⟨ih0, ih1⟩ := sawtoothref02_Div.mono_l k; refine ⟨?_, ?_⟩
  ·intro y0 y1 y2 y3 y4 y5 y6 y7 y8 y9
   unfold sawtoothref02_Div.l0
   repeat' first
   | (with_reducible exact ih0 _ _ _ _ _ _ _ _ _ _)
   | (with_reducible exact ih1 _ _ _ _ _ _)
   | (with_reducible exact LeO.refl _)
   | (with_reducible exact LeO.none _)
   | (with_reducible refine LeO.ite ?_ ?_)
   | (with_reducible refine LeO.bind ?_ (fun _ => ?_))
   | exact ih0 _ _ _ _ _ _ _ _ _ _
   | exact ih1 _ _ _ _ _ _
   | exact LeO.none _
   | refine LeO.ite ?_ ?_
   | refine LeO.bind ?_ (fun _ => ?_)
  ·intro y0 y1 y2 y3 y4 y5
   unfold sawtoothref02_Div.j1
   repeat' first
   | (with_reducible exact ih0 _ _ _ _ _ _ _ _ _ _)
   | (with_reducible exact ih1 _ _ _ _ _ _)
   | (with_reducible exact LeO.refl _)
   | (with_reducible exact LeO.none _)
   | (with_reducible refine LeO.ite ?_ ?_)
   | (with_reducible refine LeO.bind ?_ (fun _ => ?_))
   | exact ih0 _ _ _ _ _ _ _ _ _ _
   | exact ih1 _ _ _ _ _ _
   | exact LeO.none _
   | refine LeO.ite ?_ ?_
   | refine LeO.bind ?_ (fun _ => ?_)
theorem sawtoothref02_Div.mono : ∀ a0 a1 a2 a3 k, LeO (sawtoothref02_Div.f k a0 a1 a2 a3) (sawtoothref02_Div.f (k + 1) a0 a1 a2 a3) := by
 intro a0 a1 a2 a3 k; obtain ⟨ih0, ih1⟩ := sawtoothref02_Div.mono_l k
 unfold sawtoothref02_Div.f
 repeat' first
   | (with_reducible exact ih0 _ _ _ _ _ _ _ _ _ _)
   | (with_reducible exact ih1 _ _ _ _ _ _)
   | (with_reducible exact LeO.refl _)
   | (with_reducible exact LeO.none _)
   | (with_reducible refine LeO.ite ?_ ?_)
   | (with_reducible refine LeO.bind ?_ (fun _ => ?_))
   | exact ih0 _ _ _ _ _ _ _ _ _ _
   | exact ih1 _ _ _ _ _ _
   | exact LeO.none _
   | refine LeO.ite ?_ ?_
   | refine LeO.bind ?_ (fun _ => ?_)
def sawtoothref02_Div.T5 : Bool × List (List Nat × List Nat) := (true, [([], []), ([0], [0]), ([], []), ([2], [2]), ([], []), ([3, 4], [3, 4]), ([1, 5], [1, 5]), ([], []), ([7, 6, 0, 1, 2, 3, 4, 5, 6, 7], [6, 7])])
def sawtoothref02_Div.B5 : List Nat := [0, 1, 0, 4, 0, 28, 63, 0, 255]
theorem sawtoothref02_Div.tab5 : rtab .any (opsOf Try.f21 5) = sawtoothref02_Div.T5 := by kernel_rfl
theorem sawtoothref02_Div.bits5 : waitsOk sawtoothref02_Div.T5.2 sawtoothref02_Div.B5 = true := by kernel_rfl
def sawtoothref02_Div.T20 : Bool × List (List Nat × List Nat) := (true, [([], []), ([], []), ([0, 1, 1], [0, 1]), ([2], [2]), ([3], [3]), ([3], [3]), ([], []), ([6, 4, 2, 0, 1, 2, 3, 4, 6], [4, 6]), ([5, 7, 0, 1, 2, 3, 4, 5, 6, 7], [5])])
def sawtoothref02_Div.B20 : List Nat := [0, 0, 3, 7, 15, 15, 0, 95, 255]
theorem sawtoothref02_Div.tab20 : rtab .any (opsOf Try.f21 20) = sawtoothref02_Div.T20 := by kernel_rfl
theorem sawtoothref02_Div.bits20 : waitsOk sawtoothref02_Div.T20.2 sawtoothref02_Div.B20 = true := by kernel_rfl
set_option maxHeartbeats 8000000 in
set_option maxRecDepth 100000 in
theorem sawtoothref02_Div.calls (k : Nat) (a0_0 : Bool) (a0_1 : Int) (a0_2 : Int) (a1 : Int) (r1 : Bool) (r2 : Int) (r3 : Int) (r4 : Int) (r5 : Int) (w : World) (h : sawtoothref02_Div.f k a0_0 a0_1 a0_2 a1 = some (r1, r2, r3, r4, r5)) :
  Calls Try.prog 21 #[.agg #[.bool a0_0, .int .u64 a0_1, .int .u64 a0_2], .int .u64 a1] w fun e w' => e = .returned (.tuple #[.agg #[.bool r1, .int .u64 r2, .int .u64 r3], .int .u64 r4, .int .i64 r5]) ∧ Below w.heap.size w w' := by
 have hu24 := Try.underlying24; have HB := Aside0.mk (Below.refl w.heap.size w); have H : (if a1 = 0 then (some (false, 0, 0, 0, 20)) else (sawtoothref02_Div.l0 k a1 (Int.tmod a0_1 a1) a0_2 0 a0_0 a0_1 a0_2 a0_0 (IntKind.u64.wrap (Int.tdiv a0_1 a1)) 0)) = some (r1, r2, r3, r4, r5) := h; clear h
 by_cases c3 : a1 = 0
 ·rw [if_pos c3] at H
  have c3b0 : (a1 == 0) = true := beq_iff_eq.mpr c3; have c3b1 : (a1 != 0) = false := bne_eq_false_iff_eq.mpr c3; clear c3; simp only [Option.some.injEq, Prod.mk.injEq] at H; obtain ⟨rfl, rfl, rfl, rfl, rfl⟩ := H
  go_enter Try.func21, Try.ntmps21
  go_wp2_with (first | ((with_reducible refine gate_dst (N := 2) rfl ?_); refine box_event ?hg (N := 2) ?hd (cs := #[.bool a0_0, .int .u64 a0_1, .int .u64 a0_2]) (t := 24) ?hr ?_; (case hd => rfl); (case hg => rfl); (case hr => first | (go_simp; done) | (go_simp; rfl)); intro gb353 hg w4 hbox hb; have BK353 := Aside0.mk (hbox); obtain ⟨GW353, nHB⟩ := geA hg hb; have GE353 := GW353; replace HB := nHB; clear nHB; clear hb hbox hg) | ((with_reducible refine gate_dst (N := 4) rfl ?_); refine box_event ?hg (N := 4) ?hd (cs := #[.bool false, .int .u64 0, .int .u64 0]) (t := 24) ?hr ?_; (case hd => rfl); (case hg => rfl); (case hr => first | (go_simp; done) | (go_simp; rfl)); intro gb354 hg w5 hbox hb; have BK354 := Aside0.mk (hbox); obtain ⟨GW354, nHB⟩ := geA hg hb; have GE354 := GW354; obtain ⟨NB353_354, NB354_353, nBK⟩ := nbA BK353 hg hb; replace BK353 := nBK; clear nBK; replace HB := nHB; clear nHB; clear hb hbox hg; have hnb6 := NB354_353.out; have hnc6 := NB353_354.out; have hcz7_0 := czZ BK354 0 (.bool false); have hcz7_1 := czZ BK354 1 (.int .u64 0); have hcz7_2 := czZ BK354 2 (.int .u64 0); have hfz7_0 := blk_frozen BK354.out 0; have hfz7_1 := blk_frozen BK354.out 1; have hfz7_2 := blk_frozen BK354.out 2))
  refine bodyPost_ret (results_ctt rfl _ _ gb354 24 #[.bool false, .int .u64 0, .int .u64 0] (0, 0) _ rfl (by (with_reducible repeat first | apply blk_drewN | apply blk_drew | apply blk_alloc); refine blk_put (cs := #[.bool false, .int .u64 0, .int .u64 0]) ?_ 2 _ rfl; (with_reducible repeat first | apply blk_drewN | apply blk_drew | apply blk_alloc); refine blk_put (cs := #[.bool false, .int .u64 0, .int .u64 0]) ?_ 1 _ rfl; (with_reducible repeat first | apply blk_drewN | apply blk_drew | apply blk_alloc); refine blk_put (cs := #[.bool false, .int .u64 0, .int .u64 0]) ?_ 0 _ rfl; (with_reducible repeat first | apply blk_drewN | apply blk_drew | apply blk_alloc); exact BK354.out) Try.underlying24 rfl (by kernel_rfl)) rfl ?_; exact ⟨by first | rfl | (simp [errW_none, errW_some] <;> rfl) | (simp [*, errW_none, errW_some] <;> rfl), by repeat (first | (with_reducible first | exact HB.out | apply below_alloc | apply pw_below_drewN | apply below_drew1 | refine below_set ?_ (Aside0.out (by assumption))) | exact HB.out)⟩
 ·rw [if_neg c3] at H
  have c3b0 : (a1 == 0) = false := beq_eq_false_iff_ne.mpr c3; have c3b1 : (a1 != 0) = true := bne_iff_ne.mpr c3; have H' := Aside0.mk H; clear H
  go_enter Try.func21, Try.ntmps21
  try go_wp2_with (first | ((with_reducible refine gate_dst (N := 2) rfl ?_); refine box_event ?hg (N := 2) ?hd (cs := #[.bool a0_0, .int .u64 a0_1, .int .u64 a0_2]) (t := 24) ?hr ?_; (case hd => rfl); (case hg => rfl); (case hr => first | (go_simp; done) | (go_simp; rfl)); intro gb353 hg w8 hbox hb; have BK353 := Aside0.mk (hbox); obtain ⟨GW353, nHB⟩ := geA hg hb; have GE353 := GW353; replace HB := nHB; clear nHB; clear hb hbox hg) | ((with_reducible refine gate_dst (N := 4) rfl ?_); refine box_event ?hg (N := 4) ?hd (cs := #[.bool false, .int .u64 0, .int .u64 0]) (t := 24) ?hr ?_; (case hd => rfl); (case hg => rfl); (case hr => first | (go_simp; done) | (go_simp; rfl)); intro gb354 hg w9 hbox hb; have BK354 := Aside0.mk (hbox); obtain ⟨GW354, nHB⟩ := geA hg hb; have GE354 := GW354; obtain ⟨NB353_354, NB354_353, nBK⟩ := nbA BK353 hg hb; replace BK353 := nBK; clear nBK; replace HB := nHB; clear nHB; clear hb hbox hg; have hnb10 := NB353_354.out; have hnc10 := NB354_353.out; have hcz11_0 := czZ BK353 0 (.bool a0_0); have hcz11_1 := czZ BK353 1 (.int .u64 a0_1); have hcz11_2 := czZ BK353 2 (.int .u64 a0_2); have hfz11_0 := blk_frozen BK353.out 0; have hfz11_1 := blk_frozen BK353.out 1; have hfz11_2 := blk_frozen BK353.out 2))
  replace BK353 := Aside0.mk (blk_drew BK353.out); replace BK354 := Aside0.mk (blk_drew BK354.out); replace HB := Aside0.mk (below_drew1 HB.out); refine start_ (n := 9) (S := fun w' => w'.cell? ⟨gb353, 0, none⟩ = some (.bool a0_0) ∧ w'.cell? ⟨gb353, 1, none⟩ = some (.int .u64 a0_1) ∧ w'.cell? ⟨gb353, 2, none⟩ = some (.int .u64 a0_2)) (ds := []) #[N,N,N,N,N,N,N,N,N] (by kernel_rfl) rfl rfl ⟨(blk_cell BK353.out 0).trans rfl, (blk_cell BK353.out 1).trans rfl, (blk_cell BK353.out 2).trans rfl⟩ (fun hHeld => ?_); refine with_tabW sawtoothref02_Div.tab5 sawtoothref02_Div.bits5 (fun HT_ HW_ => ?_)
  generalize w9.drew = w12 at BK353 BK354 HB hHeld ⊢
  refine pureA_ (i := 0) (N := some 23) #[Y,N,N,N,N,N,N,N,N] rfl rfl (any_of HT_.out (by kernel_rfl)) ?_
  refine pureA_ (i := 2) (N := some 25) #[Y,N,Y,N,N,N,N,N,N] rfl rfl (any_of HT_.out (by kernel_rfl)) ?_
  refine pureA_ (i := 4) (N := some 27) #[Y,N,Y,N,Y,N,N,N,N] rfl rfl (any_of HT_.out (by kernel_rfl)) ?_
  refine take_ (i := 1) (N := some 24) (v := ?_) (a' := ?_) #[Y,Y,Y,N,Y,N,N,N,N] rfl rfl (take_ofW HT_.out HW_.out (by kernel_rfl)) (fun _ _ _ h => h) (Or.inl ⟨by rfl, ?_⟩) hHeld ?_ ?_; rotate_left
  ·rintro w' ⟨s0, s1, s2⟩; go_simp
   with_reducible rfl
  rotate_left
  ·simp only [Act.put, sA, sB, sC, i64_w, i32_w]
   rfl
  refine take_ (i := 3) (N := some 26) (v := ?_) (a' := ?_) #[Y,Y,Y,Y,Y,N,N,N,N] rfl rfl (take_ofW HT_.out HW_.out (by kernel_rfl)) (fun _ _ _ h => h) (Or.inl ⟨by rfl, ?_⟩) hHeld ?_ ?_; rotate_left
  ·rintro w' ⟨s0, s1, s2⟩; go_simp
   with_reducible rfl
  rotate_left
  ·simp only [Act.put, sA, sB, sC, i64_w, i32_w]
   rfl
  refine pureA_ (i := 5) (N := some 28) #[Y,Y,Y,Y,Y,Y,N,N,N] rfl rfl (any_of HT_.out (by kernel_rfl)) ?_
  refine pureA_ (i := 6) (N := some 29) #[Y,Y,Y,Y,Y,Y,Y,N,N] rfl rfl (any_of HT_.out (by kernel_rfl)) ?_
  refine one_ (i := 7) (N := some 9) #[Y,Y,Y,Y,Y,Y,Y,Y,N] rfl rfl (one_of HT_.out (by kernel_rfl)) (by decide) (fun K hK => ?_); refine box_step ?hg (N := 9) ?hd (cs := #[.bool false, .int .u64 0, .int .u64 0]) (t := 24) ?hr ?_; (case hd => rfl); (case hg => rfl); (case hr => first | (go_simp; done) | (go_simp; rfl)); intro gb355 hg w13 hbox hb; have BK355 := Aside0.mk (hbox); have GW355 := szZ HB hg; have GE355 := szZ HB hg; have NB353_355 := nlZ BK353 hg; have NB355_353 := ngZ BK353 hg; have NB354_355 := nlZ BK354 hg; have NB355_354 := ngZ BK354 hg; replace BK353 := bbZ BK353 hb; replace BK354 := bbZ BK354 hb; replace HB := Aside0.mk (below_step HB.out hb); clear hb hbox hg; refine hK.out _ _ ⟨(blk_cell BK353.out 0).trans rfl, (blk_cell BK353.out 1).trans rfl, (blk_cell BK353.out 2).trans rfl⟩ (fun hHeld => ?_); clear hK K; refine normA_ (some 9) ?_
  refine one_ (i := 8) (N := none) #[Y,Y,Y,Y,Y,Y,Y,Y,Y] rfl rfl (one_of HT_.out (by kernel_rfl)) (by decide) (fun K hK => ?_); have hs14 := czZ BK355 0 (.bool false); have hfs14 := blk_frozen BK355.out 0; have hns14_0 := NB353_355.out; have hns14_1 := NB354_355.out; have hms14_0 := NB355_353.out; have hms14_1 := NB355_354.out; have hs15 := czZ BK355 1 (.int .u64 0); have hfs15 := blk_frozen BK355.out 1; have hns15_0 := NB353_355.out; have hns15_1 := NB354_355.out; have hms15_0 := NB355_353.out; have hms15_1 := NB355_354.out; have hs16 := czZ BK355 2 (.int .u64 0); have hfs16 := blk_frozen BK355.out 2; have hns16_0 := NB353_355.out; have hns16_1 := NB354_355.out; have hms16_0 := NB355_353.out; have hms16_1 := NB355_354.out; refine skip_ (w1 := ?_) (by rfl) rfl ?_ ?_; rotate_left
  ·go_simp
   rfl
  refine hK.out _ _ ⟨((cell_far (p := ⟨gb355, _, none⟩) NB353_355.out _).trans (((cell_far (p := ⟨gb355, _, none⟩) NB353_355.out _).trans (((cell_far (p := ⟨gb355, _, none⟩) NB353_355.out _).trans (hHeld.1)))))), ((cell_far (p := ⟨gb355, _, none⟩) NB353_355.out _).trans (((cell_far (p := ⟨gb355, _, none⟩) NB353_355.out _).trans (((cell_far (p := ⟨gb355, _, none⟩) NB353_355.out _).trans (hHeld.2.1)))))), ((cell_far (p := ⟨gb355, _, none⟩) NB353_355.out _).trans (((cell_far (p := ⟨gb355, _, none⟩) NB353_355.out _).trans (((cell_far (p := ⟨gb355, _, none⟩) NB353_355.out _).trans (hHeld.2.2))))))⟩ (fun hHeld => ?_); clear hK K; refine done_ (done_of HT_.out (by kernel_rfl)) ?_
  try go_wp2
  go_loopg [7, 8, 10] k (fun kq v7 v8 v10 w' => ∃ (x7_1 : Int) (x8_1 : Int) (x10_1 : Int) (x356002_1 : Int), v7 = .int .u64 x7_1 ∧ v8 = .int .u64 x8_1 ∧ v10 = .int .i64 x10_1 ∧ Aside0 (sawtoothref02_Div.l0 kq a1 x7_1 x8_1 x10_1 a0_0 a0_1 a0_2 a0_0 (IntKind.u64.wrap (Int.tdiv a0_1 a1)) x356002_1 = some (r1, r2, r3, r4, r5)) ∧ Aside0 (kq ≤ k) ∧ Aside0 (w'.heap[gb353]? = some (.cells #[.bool a0_0, .int .u64 a0_1, .int .u64 a0_2] 24 (0, 0))) ∧ Aside0 (w'.heap[gb354]? = some (.cells #[.bool false, .int .u64 0, .int .u64 0] 24 (0, 0))) ∧ Aside0 (w'.heap[gb355]? = some (.cells #[.bool a0_0, .int .u64 (IntKind.u64.wrap (Int.tdiv a0_1 a1)), .int .u64 x356002_1] 24 (0, 0))) ∧ Aside0 (Below w.heap.size w w'))
  case atStart => exact ⟨(Int.tmod a0_1 a1), (a0_2), (0), (0), (by first | rfl | (simp; done) | (simp [*]; done)), (by first | rfl | (simp; done) | (simp [*]; done)), (by first | rfl | (simp; done) | (simp [*]; done)), H', ⟨Nat.le_refl _⟩, ⟨by (with_reducible repeat first | apply blk_drewN | apply blk_drew | apply blk_alloc); refine blk_far ?_ NB353_355.out _; (with_reducible repeat first | apply blk_drewN | apply blk_drew | apply blk_alloc); refine blk_far ?_ NB353_355.out _; (with_reducible repeat first | apply blk_drewN | apply blk_drew | apply blk_alloc); refine blk_far ?_ NB353_355.out _; (with_reducible repeat first | apply blk_drewN | apply blk_drew | apply blk_alloc); exact BK353.out⟩, ⟨by (with_reducible repeat first | apply blk_drewN | apply blk_drew | apply blk_alloc); refine blk_far ?_ NB354_355.out _; (with_reducible repeat first | apply blk_drewN | apply blk_drew | apply blk_alloc); refine blk_far ?_ NB354_355.out _; (with_reducible repeat first | apply blk_drewN | apply blk_drew | apply blk_alloc); refine blk_far ?_ NB354_355.out _; (with_reducible repeat first | apply blk_drewN | apply blk_drew | apply blk_alloc); exact BK354.out⟩, ⟨by (with_reducible repeat first | apply blk_drewN | apply blk_drew | apply blk_alloc); refine blk_put (cs := #[.bool a0_0, .int .u64 (IntKind.u64.wrap (Int.tdiv a0_1 a1)), .int .u64 0]) ?_ 2 _ rfl; (with_reducible repeat first | apply blk_drewN | apply blk_drew | apply blk_alloc); refine blk_put (cs := #[.bool a0_0, .int .u64 0, .int .u64 0]) ?_ 1 _ rfl; (with_reducible repeat first | apply blk_drewN | apply blk_drew | apply blk_alloc); refine blk_put (cs := #[.bool false, .int .u64 0, .int .u64 0]) ?_ 0 _ rfl; (with_reducible repeat first | apply blk_drewN | apply blk_drew | apply blk_alloc); exact BK355.out⟩, ⟨by repeat (first | (with_reducible first | exact HB.out | apply below_alloc | apply pw_below_drewN | apply below_drew1 | refine below_set ?_ (Aside0.out (by assumption))) | exact HB.out)⟩⟩
  case round =>
   clear H'
   try clear c1
   try clear c2
   try clear p2
   try clear c3
   try clear c3b0
   try clear c3b1
   try clear c6
   try clear c10
   try clear hcz11_0
   try clear hcz11_1
   try clear hcz11_2
   try clear hcz7_0
   try clear hcz7_1
   try clear hcz7_2
   try clear hfz11_0
   try clear hfz11_1
   try clear hfz11_2
   try clear hfz7_0
   try clear hfz7_1
   try clear hfz7_2
   obtain ⟨x7_1, x8_1, x10_1, x356002_1, rfl, rfl, rfl, HA, HK1, BK353, BK354, BK355, HB⟩ := hrel
   cases gk with
   | zero => exact absurd HA.out (by simp [sawtoothref02_Div.l0])
   | succ k1 =>
    have H := HA.out; clear HA; simp only [sawtoothref02_Div.l0] at H
    by_cases c17 : x10_1 < 64
    ·rw [if_pos c17] at H
     have c17b0 : decide (x10_1 < 64) = true := decide_eq_true c17; clear c17
     by_cases c18 : x7_1 ≥ 9223372036854775808
     ·rw [if_pos c18] at H
      have c18b0 : decide (9223372036854775808 ≤ x7_1) = true := decide_eq_true c18; clear c18; have H' := Aside0.mk H; clear H; have hnb19 := NB355_353.out; have hnc19 := NB353_355.out; have hnb20 := NB355_354.out; have hnc20 := NB354_355.out; have hcz21_0 : wr.cell? ⟨gb355, 0, none⟩ = some (.bool a0_0) := (blk_cell BK355.out 0).trans rfl; have hcz21_1 : wr.cell? ⟨gb355, 1, none⟩ = some (.int .u64 (IntKind.u64.wrap (Int.tdiv a0_1 a1))) := (blk_cell BK355.out 1).trans rfl; have hcz21_2 : wr.cell? ⟨gb355, 2, none⟩ = some (.int .u64 x356002_1) := (blk_cell BK355.out 2).trans rfl; have hfz21_0 := blk_frozen BK355.out 0; have hfz21_1 := blk_frozen BK355.out 1; have hfz21_2 := blk_frozen BK355.out 2
      go_wp2
      go_roundg k1
      case measure => have := HK1.out; omega
      case rel => exact ⟨(IntKind.u64.wrap ((IntKind.u64.wrap ((IntKind.u64.wrap (2 * x7_1)) + (IntKind.u64.wrap (Int.tdiv x8_1 9223372036854775808)))) - a1)), (IntKind.u64.wrap (2 * x8_1)), (wrap64 (x10_1 + 1)), (IntKind.u64.wrap ((IntKind.u64.wrap (2 * x356002_1)) + 1)), (by first | rfl | (simp; done) | (simp [*]; done)), (by first | rfl | (simp; done) | (simp [*]; done)), (by first | rfl | (simp; done) | (simp [*]; done)), H', ⟨by have := HK1.out; omega⟩, ⟨by (with_reducible repeat first | apply blk_drewN | apply blk_drew | apply blk_alloc); refine blk_far ?_ NB353_355.out _; (with_reducible repeat first | apply blk_drewN | apply blk_drew | apply blk_alloc); refine blk_far ?_ NB353_355.out _; (with_reducible repeat first | apply blk_drewN | apply blk_drew | apply blk_alloc); exact BK353.out⟩, ⟨by (with_reducible repeat first | apply blk_drewN | apply blk_drew | apply blk_alloc); refine blk_far ?_ NB354_355.out _; (with_reducible repeat first | apply blk_drewN | apply blk_drew | apply blk_alloc); refine blk_far ?_ NB354_355.out _; (with_reducible repeat first | apply blk_drewN | apply blk_drew | apply blk_alloc); exact BK354.out⟩, ⟨by (with_reducible repeat first | apply blk_drewN | apply blk_drew | apply blk_alloc); refine blk_put (cs := #[.bool a0_0, .int .u64 (IntKind.u64.wrap (Int.tdiv a0_1 a1)), .int .u64 (IntKind.u64.wrap (2 * x356002_1))]) ?_ 2 _ rfl; (with_reducible repeat first | apply blk_drewN | apply blk_drew | apply blk_alloc); refine blk_put (cs := #[.bool a0_0, .int .u64 (IntKind.u64.wrap (Int.tdiv a0_1 a1)), .int .u64 x356002_1]) ?_ 2 _ rfl; (with_reducible repeat first | apply blk_drewN | apply blk_drew | apply blk_alloc); exact BK355.out⟩, ⟨by repeat (first | (with_reducible first | exact HB.out | apply below_alloc | apply pw_below_drewN | apply below_drew1 | refine below_set ?_ (Aside0.out (by assumption))) | exact HB.out)⟩⟩
     ·rw [if_neg c18] at H
      have c18b0 : decide (9223372036854775808 ≤ x7_1) = false := decide_eq_false c18; clear c18
      by_cases c22 : (IntKind.u64.wrap ((IntKind.u64.wrap (2 * x7_1)) + (IntKind.u64.wrap (Int.tdiv x8_1 9223372036854775808)))) ≥ a1
      ·rw [if_pos c22] at H
       have c22b0 : decide (a1 ≤ (IntKind.u64.wrap ((IntKind.u64.wrap (2 * x7_1)) + (IntKind.u64.wrap (Int.tdiv x8_1 9223372036854775808))))) = true := decide_eq_true c22; clear c22; have H' := Aside0.mk H; clear H; have hnb23 := NB355_353.out; have hnc23 := NB353_355.out; have hnb24 := NB355_354.out; have hnc24 := NB354_355.out; have hcz25_0 : wr.cell? ⟨gb355, 0, none⟩ = some (.bool a0_0) := (blk_cell BK355.out 0).trans rfl; have hcz25_1 : wr.cell? ⟨gb355, 1, none⟩ = some (.int .u64 (IntKind.u64.wrap (Int.tdiv a0_1 a1))) := (blk_cell BK355.out 1).trans rfl; have hcz25_2 : wr.cell? ⟨gb355, 2, none⟩ = some (.int .u64 x356002_1) := (blk_cell BK355.out 2).trans rfl; have hfz25_0 := blk_frozen BK355.out 0; have hfz25_1 := blk_frozen BK355.out 1; have hfz25_2 := blk_frozen BK355.out 2
       go_wp2
       go_roundg k1
       case measure => have := HK1.out; omega
       case rel => exact ⟨(IntKind.u64.wrap ((IntKind.u64.wrap ((IntKind.u64.wrap (2 * x7_1)) + (IntKind.u64.wrap (Int.tdiv x8_1 9223372036854775808)))) - a1)), (IntKind.u64.wrap (2 * x8_1)), (wrap64 (x10_1 + 1)), (IntKind.u64.wrap ((IntKind.u64.wrap (2 * x356002_1)) + 1)), (by first | rfl | (simp; done) | (simp [*]; done)), (by first | rfl | (simp; done) | (simp [*]; done)), (by first | rfl | (simp; done) | (simp [*]; done)), H', ⟨by have := HK1.out; omega⟩, ⟨by (with_reducible repeat first | apply blk_drewN | apply blk_drew | apply blk_alloc); refine blk_far ?_ NB353_355.out _; (with_reducible repeat first | apply blk_drewN | apply blk_drew | apply blk_alloc); refine blk_far ?_ NB353_355.out _; (with_reducible repeat first | apply blk_drewN | apply blk_drew | apply blk_alloc); exact BK353.out⟩, ⟨by (with_reducible repeat first | apply blk_drewN | apply blk_drew | apply blk_alloc); refine blk_far ?_ NB354_355.out _; (with_reducible repeat first | apply blk_drewN | apply blk_drew | apply blk_alloc); refine blk_far ?_ NB354_355.out _; (with_reducible repeat first | apply blk_drewN | apply blk_drew | apply blk_alloc); exact BK354.out⟩, ⟨by (with_reducible repeat first | apply blk_drewN | apply blk_drew | apply blk_alloc); refine blk_put (cs := #[.bool a0_0, .int .u64 (IntKind.u64.wrap (Int.tdiv a0_1 a1)), .int .u64 (IntKind.u64.wrap (2 * x356002_1))]) ?_ 2 _ rfl; (with_reducible repeat first | apply blk_drewN | apply blk_drew | apply blk_alloc); refine blk_put (cs := #[.bool a0_0, .int .u64 (IntKind.u64.wrap (Int.tdiv a0_1 a1)), .int .u64 x356002_1]) ?_ 2 _ rfl; (with_reducible repeat first | apply blk_drewN | apply blk_drew | apply blk_alloc); exact BK355.out⟩, ⟨by repeat (first | (with_reducible first | exact HB.out | apply below_alloc | apply pw_below_drewN | apply below_drew1 | refine below_set ?_ (Aside0.out (by assumption))) | exact HB.out)⟩⟩
      ·rw [if_neg c22] at H
       have c22b0 : decide (a1 ≤ (IntKind.u64.wrap ((IntKind.u64.wrap (2 * x7_1)) + (IntKind.u64.wrap (Int.tdiv x8_1 9223372036854775808))))) = false := decide_eq_false c22; clear c22; have H' := Aside0.mk H; clear H; have hnb26 := NB355_353.out; have hnc26 := NB353_355.out; have hnb27 := NB355_354.out; have hnc27 := NB354_355.out; have hcz28_0 : wr.cell? ⟨gb355, 0, none⟩ = some (.bool a0_0) := (blk_cell BK355.out 0).trans rfl; have hcz28_1 : wr.cell? ⟨gb355, 1, none⟩ = some (.int .u64 (IntKind.u64.wrap (Int.tdiv a0_1 a1))) := (blk_cell BK355.out 1).trans rfl; have hcz28_2 : wr.cell? ⟨gb355, 2, none⟩ = some (.int .u64 x356002_1) := (blk_cell BK355.out 2).trans rfl; have hfz28_0 := blk_frozen BK355.out 0; have hfz28_1 := blk_frozen BK355.out 1; have hfz28_2 := blk_frozen BK355.out 2
       go_wp2
       go_roundg k1
       case measure => have := HK1.out; omega
       case rel => exact ⟨(IntKind.u64.wrap ((IntKind.u64.wrap (2 * x7_1)) + (IntKind.u64.wrap (Int.tdiv x8_1 9223372036854775808)))), (IntKind.u64.wrap (2 * x8_1)), (wrap64 (x10_1 + 1)), (IntKind.u64.wrap (2 * x356002_1)), (by first | rfl | (simp; done) | (simp [*]; done)), (by first | rfl | (simp; done) | (simp [*]; done)), (by first | rfl | (simp; done) | (simp [*]; done)), H', ⟨by have := HK1.out; omega⟩, ⟨by (with_reducible repeat first | apply blk_drewN | apply blk_drew | apply blk_alloc); refine blk_far ?_ NB353_355.out _; (with_reducible repeat first | apply blk_drewN | apply blk_drew | apply blk_alloc); exact BK353.out⟩, ⟨by (with_reducible repeat first | apply blk_drewN | apply blk_drew | apply blk_alloc); refine blk_far ?_ NB354_355.out _; (with_reducible repeat first | apply blk_drewN | apply blk_drew | apply blk_alloc); exact BK354.out⟩, ⟨by (with_reducible repeat first | apply blk_drewN | apply blk_drew | apply blk_alloc); refine blk_put (cs := #[.bool a0_0, .int .u64 (IntKind.u64.wrap (Int.tdiv a0_1 a1)), .int .u64 x356002_1]) ?_ 2 _ rfl; (with_reducible repeat first | apply blk_drewN | apply blk_drew | apply blk_alloc); exact BK355.out⟩, ⟨by repeat (first | (with_reducible first | exact HB.out | apply below_alloc | apply pw_below_drewN | apply below_drew1 | refine below_set ?_ (Aside0.out (by assumption))) | exact HB.out)⟩⟩
    ·rw [if_neg c17] at H
     have c17b0 : decide (x10_1 < 64) = false := decide_eq_false c17; clear c17; replace H := Option.bind_eq_some_iff.mp H; obtain ⟨⟨t356, t357, t358, t359⟩, A290, H⟩ := H; (try dsimp only at H); have A29 := Aside0.mk A290; clear A290; replace H := Option.bind_eq_some_iff.mp H; obtain ⟨⟨t360, t361, t362⟩, A300, H⟩ := H; replace H : (if a0_0 = true then (sawtoothref02_Div.j1 k1 a1 x7_1 (x7_1 == 0) t360 t361 t362) else (sawtoothref02_Div.j1 k1 a1 x7_1 true t360 t361 t362)) = some (r1, r2, r3, r4, r5) := H; have A30 := Aside0.mk A300; clear A300; have HC31 := Aside0.mk H; clear H
     try go_wp2
     replace BK353 := Aside0.mk (blk_drew BK353.out); replace BK354 := Aside0.mk (blk_drew BK354.out); replace BK355 := Aside0.mk (blk_drew BK355.out); replace HB := Aside0.mk (below_drew1 HB.out); refine start_ (n := 6) (S := fun w' => w'.cell? ⟨gb355, 0, none⟩ = some (.bool a0_0) ∧ w'.cell? ⟨gb355, 1, none⟩ = some (.int .u64 (IntKind.u64.wrap (Int.tdiv a0_1 a1))) ∧ w'.cell? ⟨gb355, 2, none⟩ = some (.int .u64 x356002_1)) (ds := [5]) #[N,N,N,N,N,N] (by kernel_rfl) rfl rfl ⟨(blk_cell BK355.out 0).trans rfl, (blk_cell BK355.out 1).trans rfl, (blk_cell BK355.out 2).trans rfl⟩ (fun hHeld => ?_)
     generalize wr.drew = w32 at BK353 BK354 BK355 HB hHeld ⊢
     refine pureA_ (i := 2) (N := some 62) #[N,N,Y,N,N,N] rfl rfl (by kernel_rfl) ?_
     refine take_ (i := 0) (N := some 60) (v := ?_) (a' := ?_) #[Y,N,Y,N,N,N] rfl rfl (by kernel_rfl) (fun _ _ _ h => h) (Or.inl ⟨by rfl, ?_⟩) hHeld ?_ ?_; rotate_left
     ·rintro w' ⟨s0, s1, s2⟩; go_simp
      with_reducible rfl
     rotate_left
     ·simp only [Act.put, sA, sB, sC, i64_w, i32_w]
      rfl
     refine take_ (i := 3) (N := some 63) (v := ?_) (a' := ?_) #[Y,N,Y,Y,N,N] rfl rfl (by kernel_rfl) (fun _ _ _ h => h) (Or.inl ⟨by rfl, ?_⟩) hHeld ?_ ?_; rotate_left
     ·rintro w' ⟨s0, s1, s2⟩; go_simp
      with_reducible rfl
     rotate_left
     ·simp only [Act.put, sA, sB, sC, i64_w, i32_w]
      rfl
     refine one_ (i := 1) (N := some 61) #[Y,Y,Y,Y,N,N] rfl rfl (by kernel_rfl) (by decide) (fun K hK => ?_); refine goesA_ Try.func50 rfl #[.agg #[.bool a0_0, .int .u64 (IntKind.u64.wrap (Int.tdiv a0_1 a1)), .int .u64 x356002_1]] (by rfl) rfl rfl ?_
     with_reducible refine (sawtoothref02_digits.calls a0_0 (IntKind.u64.wrap (Int.tdiv a0_1 a1)) x356002_1 t356 t357 t358 t359 _ A29.out).mono ?_
     rintro e w33 ⟨rfl, hb⟩; refine ⟨_, rfl, ?_⟩; replace BK353 := bbZ BK353 hb; replace BK354 := bbZ BK354 hb; replace BK355 := bbZ BK355 hb; replace HB := Aside0.mk (below_step HB.out hb); clear hb; refine hK.out _ _ ⟨(blk_cell BK355.out 0).trans rfl, (blk_cell BK355.out 1).trans rfl, (blk_cell BK355.out 2).trans rfl⟩ (fun hHeld => ?_); clear hK K; refine normA_ (some 61) ?_
     refine one_ (i := 4) (N := some 64) #[Y,Y,Y,Y,Y,N] rfl rfl (by kernel_rfl) (by decide) (fun K hK => ?_); refine goesA_ Try.func52 rfl #[.agg #[.int .u64 t356, .int .u64 t357, .int .u64 t358, .int .u64 t359], .bool a0_0] (by rfl) rfl rfl ?_
     with_reducible refine (sawtoothref02_wholeS.calls t356 t357 t358 t359 a0_0 t360 t361 t362 _ A30.out).mono ?_
     rintro e w34 ⟨rfl, hb⟩; refine ⟨_, rfl, ?_⟩; replace BK353 := bbZ BK353 hb; replace BK354 := bbZ BK354 hb; replace BK355 := bbZ BK355 hb; replace HB := Aside0.mk (below_step HB.out hb); clear hb; refine hK.out _ _ ⟨(blk_cell BK355.out 0).trans rfl, (blk_cell BK355.out 1).trans rfl, (blk_cell BK355.out 2).trans rfl⟩ (fun hHeld => ?_); clear hK K; refine normA_ (some 64) ?_
     refine last_ (i := 5) (N := none) #[Y,Y,Y,Y,Y,Y] rfl rfl (by kernel_rfl) (by decide) (fun K hK => ?_); have hs35 := czZ BK355 0 (.bool a0_0); have hfs35 := blk_frozen BK355.out 0; have hns35_0 := NB353_355.out; have hns35_1 := NB354_355.out; have hms35_0 := NB355_353.out; have hms35_1 := NB355_354.out; have hs36 : w34.cell? ⟨gb355, 1, none⟩ = some (.int .u64 (IntKind.u64.wrap (Int.tdiv a0_1 a1))) := (blk_cell BK355.out 1).trans rfl; have hfs36 := blk_frozen BK355.out 1; have hns36_0 := NB353_355.out; have hns36_1 := NB354_355.out; have hms36_0 := NB355_353.out; have hms36_1 := NB355_354.out; have hs37 := czZ BK355 2 (.int .u64 x356002_1); have hfs37 := blk_frozen BK355.out 2; have hns37_0 := NB353_355.out; have hns37_1 := NB354_355.out; have hms37_0 := NB355_353.out; have hms37_1 := NB355_354.out; refine skip_ (w1 := ?_) (by rfl) rfl ?_ ?_; rotate_left
     ·go_simp
      rfl
     refine hK.out _ _ ?_; clear hK K; refine done_ (by kernel_rfl) ?_
     go_upto_region 17 with (fail)
     go_cut [71] (fun v71 wc => ∃ (kq : Nat) (x71_30 : Bool), v71 = .bool x71_30 ∧ Aside0 (sawtoothref02_Div.j1 kq a1 x7_1 x71_30 t360 t361 t362 = some (r1, r2, r3, r4, r5)) ∧ Aside0 (kq ≤ k1) ∧ Aside0 (wc.heap[gb353]? = some (.cells #[.bool a0_0, .int .u64 a0_1, .int .u64 a0_2] 24 (0, 0))) ∧ Aside0 (wc.heap[gb354]? = some (.cells #[.bool false, .int .u64 0, .int .u64 0] 24 (0, 0))) ∧ Aside0 (wc.heap[gb355]? = some (.cells #[.bool t360, .int .u64 t361, .int .u64 t362] 24 (0, 0))) ∧ Aside0 (Below w.heap.size w wc))
     case first =>
      have H := HC31.out; clear HC31
      by_cases c38 : a0_0 = true
      ·subst c38
       have H1 : (sawtoothref02_Div.j1 k1 a1 x7_1 (x7_1 == 0) t360 t361 t362) = some (r1, r2, r3, r4, r5) := by rw [if_pos rfl] at H; exact H
       clear H; have H := H1; clear H1; have H' := Aside0.mk H; clear H; have hnb39 := NB353_354.out; have hnc39 := NB354_353.out; have hnb40 := NB353_355.out; have hnc40 := NB355_353.out; have hcz41_0 := czZ BK353 0 (.bool true); have hcz41_1 := czZ BK353 1 (.int .u64 a0_1); have hcz41_2 := czZ BK353 2 (.int .u64 a0_2); have hfz41_0 := blk_frozen BK353.out 0; have hfz41_1 := blk_frozen BK353.out 1; have hfz41_2 := blk_frozen BK353.out 2
       go_wp2
       go_meet
       case rel => exact ⟨_, ((x7_1 == 0)), (by first | rfl | (simp; done) | (simp [*]; done)), H', ⟨by have := HK1.out; first | omega | exact Nat.le_refl _⟩, ⟨by (with_reducible repeat first | apply blk_drewN | apply blk_drew | apply blk_alloc); refine blk_far ?_ NB353_355.out _; (with_reducible repeat first | apply blk_drewN | apply blk_drew | apply blk_alloc); refine blk_far ?_ NB353_355.out _; (with_reducible repeat first | apply blk_drewN | apply blk_drew | apply blk_alloc); refine blk_far ?_ NB353_355.out _; (with_reducible repeat first | apply blk_drewN | apply blk_drew | apply blk_alloc); exact BK353.out⟩, ⟨by (with_reducible repeat first | apply blk_drewN | apply blk_drew | apply blk_alloc); refine blk_far ?_ NB354_355.out _; (with_reducible repeat first | apply blk_drewN | apply blk_drew | apply blk_alloc); refine blk_far ?_ NB354_355.out _; (with_reducible repeat first | apply blk_drewN | apply blk_drew | apply blk_alloc); refine blk_far ?_ NB354_355.out _; (with_reducible repeat first | apply blk_drewN | apply blk_drew | apply blk_alloc); exact BK354.out⟩, ⟨by (with_reducible repeat first | apply blk_drewN | apply blk_drew | apply blk_alloc); refine blk_put (cs := #[.bool t360, .int .u64 t361, .int .u64 x356002_1]) ?_ 2 _ rfl; (with_reducible repeat first | apply blk_drewN | apply blk_drew | apply blk_alloc); refine blk_put (cs := #[.bool t360, .int .u64 (IntKind.u64.wrap (Int.tdiv a0_1 a1)), .int .u64 x356002_1]) ?_ 1 _ rfl; (with_reducible repeat first | apply blk_drewN | apply blk_drew | apply blk_alloc); refine blk_put (cs := #[.bool true, .int .u64 (IntKind.u64.wrap (Int.tdiv a0_1 a1)), .int .u64 x356002_1]) ?_ 0 _ rfl; (with_reducible repeat first | apply blk_drewN | apply blk_drew | apply blk_alloc); exact BK355.out⟩, ⟨by repeat (first | (with_reducible first | exact HB.out | apply below_alloc | apply pw_below_drewN | apply below_drew1 | refine below_set ?_ (Aside0.out (by assumption))) | exact HB.out)⟩⟩
      ·replace c38 := Bool.eq_false_iff.mpr c38
       subst c38
       have H1 : (sawtoothref02_Div.j1 k1 a1 x7_1 true t360 t361 t362) = some (r1, r2, r3, r4, r5) := by rw [if_neg (show ¬ (false = true) by decide)] at H; exact H
       clear H; have H := H1; clear H1; have H' := Aside0.mk H; clear H; have hnb42 := NB353_354.out; have hnc42 := NB354_353.out; have hnb43 := NB353_355.out; have hnc43 := NB355_353.out; have hcz44_0 := czZ BK353 0 (.bool false); have hcz44_1 := czZ BK353 1 (.int .u64 a0_1); have hcz44_2 := czZ BK353 2 (.int .u64 a0_2); have hfz44_0 := blk_frozen BK353.out 0; have hfz44_1 := blk_frozen BK353.out 1; have hfz44_2 := blk_frozen BK353.out 2
       go_wp2
       go_meet
       case rel => exact ⟨_, (true), (by first | rfl | (simp; done) | (simp [*]; done)), H', ⟨by have := HK1.out; first | omega | exact Nat.le_refl _⟩, ⟨by (with_reducible repeat first | apply blk_drewN | apply blk_drew | apply blk_alloc); refine blk_far ?_ NB353_355.out _; (with_reducible repeat first | apply blk_drewN | apply blk_drew | apply blk_alloc); refine blk_far ?_ NB353_355.out _; (with_reducible repeat first | apply blk_drewN | apply blk_drew | apply blk_alloc); refine blk_far ?_ NB353_355.out _; (with_reducible repeat first | apply blk_drewN | apply blk_drew | apply blk_alloc); exact BK353.out⟩, ⟨by (with_reducible repeat first | apply blk_drewN | apply blk_drew | apply blk_alloc); refine blk_far ?_ NB354_355.out _; (with_reducible repeat first | apply blk_drewN | apply blk_drew | apply blk_alloc); refine blk_far ?_ NB354_355.out _; (with_reducible repeat first | apply blk_drewN | apply blk_drew | apply blk_alloc); refine blk_far ?_ NB354_355.out _; (with_reducible repeat first | apply blk_drewN | apply blk_drew | apply blk_alloc); exact BK354.out⟩, ⟨by (with_reducible repeat first | apply blk_drewN | apply blk_drew | apply blk_alloc); refine blk_put (cs := #[.bool t360, .int .u64 t361, .int .u64 x356002_1]) ?_ 2 _ rfl; (with_reducible repeat first | apply blk_drewN | apply blk_drew | apply blk_alloc); refine blk_put (cs := #[.bool t360, .int .u64 (IntKind.u64.wrap (Int.tdiv a0_1 a1)), .int .u64 x356002_1]) ?_ 1 _ rfl; (with_reducible repeat first | apply blk_drewN | apply blk_drew | apply blk_alloc); refine blk_put (cs := #[.bool false, .int .u64 (IntKind.u64.wrap (Int.tdiv a0_1 a1)), .int .u64 x356002_1]) ?_ 0 _ rfl; (with_reducible repeat first | apply blk_drewN | apply blk_drew | apply blk_alloc); exact BK355.out⟩, ⟨by repeat (first | (with_reducible first | exact HB.out | apply below_alloc | apply pw_below_drewN | apply below_drew1 | refine below_set ?_ (Aside0.out (by assumption))) | exact HB.out)⟩⟩
     case rest =>
      clear HC31
      try clear c1
      try clear c2
      try clear p2
      try clear c3
      try clear c3b0
      try clear c3b1
      try clear c4
      try clear c5
      try clear c6
      try clear p6
      try clear c10
      try clear c17
      try clear c17b0
      try clear c18
      try clear c18b0
      try clear c19
      try clear c20
      try clear c21
      try clear c22
      try clear c22b0
      try clear c23
      try clear c24
      try clear c26
      try clear c27
      try clear c38
      try clear c39
      try clear c40
      try clear c42
      try clear c43
      try clear hcz11_0
      try clear hcz11_1
      try clear hcz11_2
      try clear hcz21_0
      try clear hcz21_1
      try clear hcz21_2
      try clear hcz25_0
      try clear hcz25_1
      try clear hcz25_2
      try clear hcz28_0
      try clear hcz28_1
      try clear hcz28_2
      try clear hcz41_0
      try clear hcz41_1
      try clear hcz41_2
      try clear hcz44_0
      try clear hcz44_1
      try clear hcz44_2
      try clear hcz7_0
      try clear hcz7_1
      try clear hcz7_2
      try clear hfz11_0
      try clear hfz11_1
      try clear hfz11_2
      try clear hfz21_0
      try clear hfz21_1
      try clear hfz21_2
      try clear hfz25_0
      try clear hfz25_1
      try clear hfz25_2
      try clear hfz28_0
      try clear hfz28_1
      try clear hfz28_2
      try clear hfz41_0
      try clear hfz41_1
      try clear hfz41_2
      try clear hfz44_0
      try clear hfz44_1
      try clear hfz44_2
      try clear hfz7_0
      try clear hfz7_1
      try clear hfz7_2
      try clear p2
      obtain ⟨kq, x71_30, rfl, HA, HJ30, BK353, BK354, BK355, HB⟩ := hcut
      cases kq with
      | zero => exact absurd HA.out (by simp [sawtoothref02_Div.j1])
      | succ kj30 =>
       have H := HA.out; clear HA; simp only [sawtoothref02_Div.j1] at H
       by_cases c45 : x71_30 = true
       ·subst c45
        have H1 : (some (t360, t361, t362, x7_1, 0)) = some (r1, r2, r3, r4, r5) := by rw [if_pos rfl] at H; exact H
        clear H; have H := H1; clear H1; simp only [Option.some.injEq, Prod.mk.injEq] at H; obtain ⟨rfl, rfl, rfl, rfl, rfl⟩ := H; have hnb46 := NB355_353.out; have hnc46 := NB353_355.out; have hnb47 := NB355_354.out; have hnc47 := NB354_355.out; have hcz48_0 : wc.cell? ⟨gb355, 0, none⟩ = some (.bool t360) := (blk_cell BK355.out 0).trans rfl; have hcz48_1 : wc.cell? ⟨gb355, 1, none⟩ = some (.int .u64 t361) := (blk_cell BK355.out 1).trans rfl; have hcz48_2 : wc.cell? ⟨gb355, 2, none⟩ = some (.int .u64 t362) := (blk_cell BK355.out 2).trans rfl; have hfz48_0 := blk_frozen BK355.out 0; have hfz48_1 := blk_frozen BK355.out 1; have hfz48_2 := blk_frozen BK355.out 2; have hnb49 := NB354_353.out; have hnc49 := NB353_354.out; have hcz50_0 : wc.cell? ⟨gb354, 0, none⟩ = some (.bool false) := (blk_cell BK354.out 0).trans rfl; have hcz50_1 : wc.cell? ⟨gb354, 1, none⟩ = some (.int .u64 0) := (blk_cell BK354.out 1).trans rfl; have hcz50_2 : wc.cell? ⟨gb354, 2, none⟩ = some (.int .u64 0) := (blk_cell BK354.out 2).trans rfl; have hfz50_0 := blk_frozen BK354.out 0; have hfz50_1 := blk_frozen BK354.out 1; have hfz50_2 := blk_frozen BK354.out 2
        go_wp2
        refine bodyPost_ret (results_ctt rfl _ _ gb354 24 #[.bool t360, .int .u64 t361, .int .u64 t362] (0, 0) _ rfl (by (with_reducible repeat first | apply blk_drewN | apply blk_drew | apply blk_alloc); refine blk_put (cs := #[.bool t360, .int .u64 t361, .int .u64 0]) ?_ 2 _ rfl; (with_reducible repeat first | apply blk_drewN | apply blk_drew | apply blk_alloc); refine blk_put (cs := #[.bool t360, .int .u64 0, .int .u64 0]) ?_ 1 _ rfl; (with_reducible repeat first | apply blk_drewN | apply blk_drew | apply blk_alloc); refine blk_put (cs := #[.bool false, .int .u64 0, .int .u64 0]) ?_ 0 _ rfl; (with_reducible repeat first | apply blk_drewN | apply blk_drew | apply blk_alloc); exact BK354.out) Try.underlying24 rfl (by kernel_rfl)) rfl ?_; exact ⟨by first | rfl | (simp [errW_none, errW_some] <;> rfl) | (simp [*, errW_none, errW_some] <;> rfl), by repeat (first | (with_reducible first | exact HB.out | apply below_alloc | apply pw_below_drewN | apply below_drew1 | refine below_set ?_ (Aside0.out (by assumption))) | exact HB.out)⟩
       ·replace c45 := Bool.eq_false_iff.mpr c45
        subst c45
        have H1 : ((sawtoothref02_OfS.f (-1)).bind fun bt363 => ((sawtoothref02_AddS.f true t361 t362 bt363.1 bt363.2.1 bt363.2.2).bind fun bt366 => (if bt366.2.2.2 = 0 then (some (bt366.1, bt366.2.1, bt366.2.2.1, IntKind.u64.wrap (a1 - x7_1), 0)) else (some (false, 0, 0, 0, bt366.2.2.2))))) = some (r1, r2, r3, r4, r5) := by rw [if_neg (show ¬ (false = true) by decide)] at H; exact H
        clear H; have H := H1; clear H1; replace H := Option.bind_eq_some_iff.mp H; obtain ⟨⟨t363, t364, t365⟩, A510, H⟩ := H; (try dsimp only at H); have A51 := Aside0.mk A510; clear A510; replace H := Option.bind_eq_some_iff.mp H; obtain ⟨⟨t366, t367, t368, t369⟩, A520, H⟩ := H; replace H : (if t369 = 0 then (some (t366, t367, t368, IntKind.u64.wrap (a1 - x7_1), 0)) else (some (false, 0, 0, 0, t369))) = some (r1, r2, r3, r4, r5) := H; have A52 := Aside0.mk A520; clear A520
        by_cases c53 : t369 = 0
        ·rw [if_pos c53] at H
         have c53b0 : (t369 == 0) = true := beq_iff_eq.mpr c53; have c53b1 : (t369 != 0) = false := bne_eq_false_iff_eq.mpr c53; clear c53; simp only [Option.some.injEq, Prod.mk.injEq] at H; obtain ⟨rfl, rfl, rfl, rfl, rfl⟩ := H; have hnb54 := NB355_353.out; have hnc54 := NB353_355.out; have hnb55 := NB355_354.out; have hnc55 := NB354_355.out; have hcz56_0 : wc.cell? ⟨gb355, 0, none⟩ = some (.bool t360) := (blk_cell BK355.out 0).trans rfl; have hcz56_1 : wc.cell? ⟨gb355, 1, none⟩ = some (.int .u64 t361) := (blk_cell BK355.out 1).trans rfl; have hcz56_2 : wc.cell? ⟨gb355, 2, none⟩ = some (.int .u64 t362) := (blk_cell BK355.out 2).trans rfl; have hfz56_0 := blk_frozen BK355.out 0; have hfz56_1 := blk_frozen BK355.out 1; have hfz56_2 := blk_frozen BK355.out 2
         try go_wp2
         have n0_ : Aside0 ((wc.setCell ⟨gb355, 0, none⟩ (.bool true)).heap[gb353]? = some (.cells #[.bool a0_0, .int .u64 a0_1, .int .u64 a0_2] 24 (0, 0))) := ⟨by (with_reducible repeat first | apply blk_drewN | apply blk_drew | apply blk_alloc); refine blk_far ?_ NB353_355.out _; (with_reducible repeat first | apply blk_drewN | apply blk_drew | apply blk_alloc); exact BK353.out⟩
         have n1_ : Aside0 ((wc.setCell ⟨gb355, 0, none⟩ (.bool true)).heap[gb354]? = some (.cells #[.bool false, .int .u64 0, .int .u64 0] 24 (0, 0))) := ⟨by (with_reducible repeat first | apply blk_drewN | apply blk_drew | apply blk_alloc); refine blk_far ?_ NB354_355.out _; (with_reducible repeat first | apply blk_drewN | apply blk_drew | apply blk_alloc); exact BK354.out⟩
         have n2_ : Aside0 ((wc.setCell ⟨gb355, 0, none⟩ (.bool true)).heap[gb355]? = some (.cells #[.bool true, .int .u64 t361, .int .u64 t362] 24 (0, 0))) := ⟨by (with_reducible repeat first | apply blk_drewN | apply blk_drew | apply blk_alloc); refine blk_put (cs := #[.bool t360, .int .u64 t361, .int .u64 t362]) ?_ 0 _ rfl; (with_reducible repeat first | apply blk_drewN | apply blk_drew | apply blk_alloc); exact BK355.out⟩
         have n3_ : Aside0 (Below w.heap.size w (wc.setCell ⟨gb355, 0, none⟩ (.bool true))) := ⟨by repeat (first | (with_reducible first | exact HB.out | apply below_alloc | apply pw_below_drewN | apply below_drew1 | refine below_set ?_ (Aside0.out (by assumption))) | exact HB.out)⟩
         (try clear BK353); (try clear BK354); (try clear BK355); (try clear HB)
         generalize (wc.setCell ⟨gb355, 0, none⟩ (.bool true)) = w57 at n0_ n1_ n2_ n3_ ⊢
         have BK353 := n0_; have BK354 := n1_; have BK355 := n2_; have HB := n3_; clear n0_ n1_ n2_ n3_; replace BK353 := Aside0.mk (blk_drew BK353.out); replace BK354 := Aside0.mk (blk_drew BK354.out); replace BK355 := Aside0.mk (blk_drew BK355.out); replace HB := Aside0.mk (below_drew1 HB.out); refine start_ (n := 9) (S := fun w' => w'.cell? ⟨gb355, 0, none⟩ = some (.bool true) ∧ w'.cell? ⟨gb355, 1, none⟩ = some (.int .u64 t361) ∧ w'.cell? ⟨gb355, 2, none⟩ = some (.int .u64 t362)) (ds := []) #[N,N,N,N,N,N,N,N,N] (by kernel_rfl) rfl rfl ⟨(blk_cell BK355.out 0).trans rfl, (blk_cell BK355.out 1).trans rfl, (blk_cell BK355.out 2).trans rfl⟩ (fun hHeld => ?_); refine with_tabW sawtoothref02_Div.tab20 sawtoothref02_Div.bits20 (fun HT_ HW_ => ?_)
         generalize w57.drew = w58 at BK353 BK354 BK355 HB hHeld ⊢
         refine take_ (i := 0) (N := some 76) (v := ?_) (a' := ?_) #[Y,N,N,N,N,N,N,N,N] rfl rfl (take_ofW HT_.out HW_.out (by kernel_rfl)) (fun _ _ _ h => h) (Or.inl ⟨by rfl, ?_⟩) hHeld ?_ ?_; rotate_left
         ·rintro w' ⟨s0, s1, s2⟩; go_simp
          with_reducible rfl
         rotate_left
         ·simp only [Act.put, sA, sB, sC, i64_w, i32_w]
          rfl
         refine join_ (σ := Nat) 2 #[Y,Y,Y,Y,Y,Y,Y,N,N] (fun s_ => [(77, .agg #[.bool t363, .int .u64 t364, .int .u64 t365]), (78, .tuple #[.agg #[.bool t366, .int .u64 t367, .int .u64 t368], .int .i64 t369]), (12, .pointer (some ⟨s_, 0, none⟩)), (75, .tuple #[.agg #[.bool t366, .int .u64 t367, .int .u64 t368], .int .i64 t369]), (79, .agg #[.bool t366, .int .u64 t367, .int .u64 t368]), (80, .int .i64 t369)]) (fun s_ w' => (w'.cell? ⟨gb355, 0, none⟩ = some (.bool true) ∧ w'.cell? ⟨gb355, 1, none⟩ = some (.int .u64 t361) ∧ w'.cell? ⟨gb355, 2, none⟩ = some (.int .u64 t362)) ∧ (w'.heap[gb353]? = some (.cells #[.bool a0_0, .int .u64 a0_1, .int .u64 a0_2] 24 (0, 0))) ∧ (w'.heap[gb354]? = some (.cells #[.bool false, .int .u64 0, .int .u64 0] 24 (0, 0))) ∧ (w'.heap[gb355]? = some (.cells #[.bool true, .int .u64 t361, .int .u64 t362] 24 (0, 0))) ∧ (w'.heap[s_]? = some (.cells #[.bool false, .int .u64 0, .int .u64 0] 24 (0, 0))) ∧ (w.heap.size ≤ s_) ∧ (w.heap.size ≤ s_) ∧ (gb353 ≠ s_) ∧ (s_ ≠ gb353) ∧ (gb354 ≠ s_) ∧ (s_ ≠ gb354) ∧ (gb355 ≠ s_) ∧ (s_ ≠ gb355) ∧ (Below w.heap.size w w')) ?_ ?_; rotate_left
         ·intro hCont; refine two_ (i := 1) (j := 6) (Ni := some 77) (Nj := some 12) #[Y,Y,N,N,N,N,N,N,N] #[Y,N,N,N,N,N,Y,N,N] rfl rfl rfl rfl (two_of HT_.out (by kernel_rfl)) (by decide) (by decide) (fun K hK => ?_) (fun K hK => ?_)
          ·skip
           refine goesA_ Try.func23 rfl #[.int .i64 (-1)] (by rfl) rfl rfl ?_
           with_reducible refine (sawtoothref02_OfS.calls (-1) t363 t364 t365 _ A51.out).mono ?_
           rintro e w59 ⟨rfl, hb⟩; refine ⟨_, rfl, ?_⟩; replace BK353 := bbZ BK353 hb; replace BK354 := bbZ BK354 hb; replace BK355 := bbZ BK355 hb; replace HB := Aside0.mk (below_step HB.out hb); clear hb; refine hK.out _ _ ⟨(blk_cell BK355.out 0).trans rfl, (blk_cell BK355.out 1).trans rfl, (blk_cell BK355.out 2).trans rfl⟩ (fun hHeld => ?_); clear hK K; refine normA_ (some 77) ?_
           refine two_ (i := 2) (j := 6) (Ni := some 78) (Nj := some 12) #[Y,Y,Y,N,N,N,N,N,N] #[Y,Y,N,N,N,N,Y,N,N] rfl rfl rfl rfl (two_of HT_.out (by kernel_rfl)) (by decide) (by decide) (fun K hK => ?_) (fun K hK => ?_)
           ·skip
            refine goesA_ Try.func17 rfl #[.agg #[.bool true, .int .u64 t361, .int .u64 t362], .agg #[.bool t363, .int .u64 t364, .int .u64 t365]] (by rfl) rfl rfl ?_
            with_reducible refine (sawtoothref02_AddS.calls true t361 t362 t363 t364 t365 t366 t367 t368 t369 _ A52.out).mono ?_
            rintro e w60 ⟨rfl, hb⟩; refine ⟨_, rfl, ?_⟩; replace BK353 := bbZ BK353 hb; replace BK354 := bbZ BK354 hb; replace BK355 := bbZ BK355 hb; replace HB := Aside0.mk (below_step HB.out hb); clear hb; refine hK.out _ _ ⟨(blk_cell BK355.out 0).trans rfl, (blk_cell BK355.out 1).trans rfl, (blk_cell BK355.out 2).trans rfl⟩ (fun hHeld => ?_); clear hK K; refine normA_ (some 78) ?_
            refine pureA_ (i := 3) (N := some 75) #[Y,Y,Y,Y,N,N,N,N,N] rfl rfl (any_of HT_.out (by kernel_rfl)) ?_
            refine pureA_ (i := 4) (N := some 79) #[Y,Y,Y,Y,Y,N,N,N,N] rfl rfl (any_of HT_.out (by kernel_rfl)) ?_
            refine pureA_ (i := 5) (N := some 80) #[Y,Y,Y,Y,Y,Y,N,N,N] rfl rfl (any_of HT_.out (by kernel_rfl)) ?_
            refine one_ (i := 6) (N := some 12) #[Y,Y,Y,Y,Y,Y,Y,N,N] rfl rfl (one_of HT_.out (by kernel_rfl)) (by decide) (fun K hK => ?_); refine box_step ?hg (N := 12) ?hd (cs := #[.bool false, .int .u64 0, .int .u64 0]) (t := 24) ?hr ?_; (case hd => rfl); (case hg => rfl); (case hr => first | (go_simp; done) | (go_simp; rfl)); intro gb370 hg w61 hbox hb; have BK370 := Aside0.mk (hbox); have GW370 := szZ HB hg; have GE370 := szZ HB hg; have NB353_370 := nlZ BK353 hg; have NB370_353 := ngZ BK353 hg; have NB354_370 := nlZ BK354 hg; have NB370_354 := ngZ BK354 hg; have NB355_370 := nlZ BK355 hg; have NB370_355 := ngZ BK355 hg; replace BK353 := bbZ BK353 hb; replace BK354 := bbZ BK354 hb; replace BK355 := bbZ BK355 hb; replace HB := Aside0.mk (below_step HB.out hb); clear hb hbox hg; refine hK.out _ _ ⟨(blk_cell BK355.out 0).trans rfl, (blk_cell BK355.out 1).trans rfl, (blk_cell BK355.out 2).trans rfl⟩ (fun hHeld => ?_); clear hK K; refine normA_ (some 12) ?_
            exact norm_ (by simp only [putAll, Act.put, sA, sB, sC]) (hCont (gb370) _ ⟨hHeld, BK353.out, BK354.out, BK355.out, BK370.out, GW370.out, GE370.out, NB353_370.out, NB370_353.out, NB354_370.out, NB370_354.out, NB355_370.out, NB370_355.out, (by repeat (first | (with_reducible first | exact HB.out | apply below_alloc | apply pw_below_drewN | apply below_drew1 | refine below_set ?_ (Aside0.out (by assumption))) | exact HB.out))⟩)
           ·skip
            refine box_step ?hg (N := 12) ?hd (cs := #[.bool false, .int .u64 0, .int .u64 0]) (t := 24) ?hr ?_; (case hd => rfl); (case hg => rfl); (case hr => first | (go_simp; done) | (go_simp; rfl)); intro gb370 hg w60 hbox hb; have BK370 := Aside0.mk (hbox); have GW370 := szZ HB hg; have GE370 := szZ HB hg; have NB353_370 := nlZ BK353 hg; have NB370_353 := ngZ BK353 hg; have NB354_370 := nlZ BK354 hg; have NB370_354 := ngZ BK354 hg; have NB355_370 := nlZ BK355 hg; have NB370_355 := ngZ BK355 hg; replace BK353 := bbZ BK353 hb; replace BK354 := bbZ BK354 hb; replace BK355 := bbZ BK355 hb; replace HB := Aside0.mk (below_step HB.out hb); clear hb hbox hg; refine hK.out _ _ ⟨(blk_cell BK355.out 0).trans rfl, (blk_cell BK355.out 1).trans rfl, (blk_cell BK355.out 2).trans rfl⟩ (fun hHeld => ?_); clear hK K; refine normA_ (some 12) ?_
            refine one_ (i := 2) (N := some 78) #[Y,Y,Y,N,N,N,Y,N,N] rfl rfl (one_of HT_.out (by kernel_rfl)) (by decide) (fun K hK => ?_); refine goesA_ Try.func17 rfl #[.agg #[.bool true, .int .u64 t361, .int .u64 t362], .agg #[.bool t363, .int .u64 t364, .int .u64 t365]] (by rfl) rfl rfl ?_
            with_reducible refine (sawtoothref02_AddS.calls true t361 t362 t363 t364 t365 t366 t367 t368 t369 _ A52.out).mono ?_
            rintro e w61 ⟨rfl, hb⟩; refine ⟨_, rfl, ?_⟩; replace BK353 := bbZ BK353 hb; replace BK354 := bbZ BK354 hb; replace BK355 := bbZ BK355 hb; replace BK370 := bbZ BK370 hb; replace HB := Aside0.mk (below_step HB.out hb); clear hb; refine hK.out _ _ ⟨(blk_cell BK355.out 0).trans rfl, (blk_cell BK355.out 1).trans rfl, (blk_cell BK355.out 2).trans rfl⟩ (fun hHeld => ?_); clear hK K; refine normA_ (some 78) ?_
            refine pureA_ (i := 3) (N := some 75) #[Y,Y,Y,Y,N,N,Y,N,N] rfl rfl (any_of HT_.out (by kernel_rfl)) ?_
            refine pureA_ (i := 4) (N := some 79) #[Y,Y,Y,Y,Y,N,Y,N,N] rfl rfl (any_of HT_.out (by kernel_rfl)) ?_
            refine pureA_ (i := 5) (N := some 80) #[Y,Y,Y,Y,Y,Y,Y,N,N] rfl rfl (any_of HT_.out (by kernel_rfl)) ?_
            exact norm_ (by simp only [putAll, Act.put, sA, sB, sC]) (hCont (gb370) _ ⟨hHeld, BK353.out, BK354.out, BK355.out, BK370.out, GW370.out, GE370.out, NB353_370.out, NB370_353.out, NB354_370.out, NB370_354.out, NB355_370.out, NB370_355.out, (by repeat (first | (with_reducible first | exact HB.out | apply below_alloc | apply pw_below_drewN | apply below_drew1 | refine below_set ?_ (Aside0.out (by assumption))) | exact HB.out))⟩)
          ·skip
           refine box_step ?hg (N := 12) ?hd (cs := #[.bool false, .int .u64 0, .int .u64 0]) (t := 24) ?hr ?_; (case hd => rfl); (case hg => rfl); (case hr => first | (go_simp; done) | (go_simp; rfl)); intro gb370 hg w59 hbox hb; have BK370 := Aside0.mk (hbox); have GW370 := szZ HB hg; have GE370 := szZ HB hg; have NB353_370 := nlZ BK353 hg; have NB370_353 := ngZ BK353 hg; have NB354_370 := nlZ BK354 hg; have NB370_354 := ngZ BK354 hg; have NB355_370 := nlZ BK355 hg; have NB370_355 := ngZ BK355 hg; replace BK353 := bbZ BK353 hb; replace BK354 := bbZ BK354 hb; replace BK355 := bbZ BK355 hb; replace HB := Aside0.mk (below_step HB.out hb); clear hb hbox hg; refine hK.out _ _ ⟨(blk_cell BK355.out 0).trans rfl, (blk_cell BK355.out 1).trans rfl, (blk_cell BK355.out 2).trans rfl⟩ (fun hHeld => ?_); clear hK K; refine normA_ (some 12) ?_
           refine one_ (i := 1) (N := some 77) #[Y,Y,N,N,N,N,Y,N,N] rfl rfl (one_of HT_.out (by kernel_rfl)) (by decide) (fun K hK => ?_); refine goesA_ Try.func23 rfl #[.int .i64 (-1)] (by rfl) rfl rfl ?_
           with_reducible refine (sawtoothref02_OfS.calls (-1) t363 t364 t365 _ A51.out).mono ?_
           rintro e w60 ⟨rfl, hb⟩; refine ⟨_, rfl, ?_⟩; replace BK353 := bbZ BK353 hb; replace BK354 := bbZ BK354 hb; replace BK355 := bbZ BK355 hb; replace BK370 := bbZ BK370 hb; replace HB := Aside0.mk (below_step HB.out hb); clear hb; refine hK.out _ _ ⟨(blk_cell BK355.out 0).trans rfl, (blk_cell BK355.out 1).trans rfl, (blk_cell BK355.out 2).trans rfl⟩ (fun hHeld => ?_); clear hK K; refine normA_ (some 77) ?_
           refine one_ (i := 2) (N := some 78) #[Y,Y,Y,N,N,N,Y,N,N] rfl rfl (one_of HT_.out (by kernel_rfl)) (by decide) (fun K hK => ?_); refine goesA_ Try.func17 rfl #[.agg #[.bool true, .int .u64 t361, .int .u64 t362], .agg #[.bool t363, .int .u64 t364, .int .u64 t365]] (by rfl) rfl rfl ?_
           with_reducible refine (sawtoothref02_AddS.calls true t361 t362 t363 t364 t365 t366 t367 t368 t369 _ A52.out).mono ?_
           rintro e w61 ⟨rfl, hb⟩; refine ⟨_, rfl, ?_⟩; replace BK353 := bbZ BK353 hb; replace BK354 := bbZ BK354 hb; replace BK355 := bbZ BK355 hb; replace BK370 := bbZ BK370 hb; replace HB := Aside0.mk (below_step HB.out hb); clear hb; refine hK.out _ _ ⟨(blk_cell BK355.out 0).trans rfl, (blk_cell BK355.out 1).trans rfl, (blk_cell BK355.out 2).trans rfl⟩ (fun hHeld => ?_); clear hK K; refine normA_ (some 78) ?_
           refine pureA_ (i := 3) (N := some 75) #[Y,Y,Y,Y,N,N,Y,N,N] rfl rfl (any_of HT_.out (by kernel_rfl)) ?_
           refine pureA_ (i := 4) (N := some 79) #[Y,Y,Y,Y,Y,N,Y,N,N] rfl rfl (any_of HT_.out (by kernel_rfl)) ?_
           refine pureA_ (i := 5) (N := some 80) #[Y,Y,Y,Y,Y,Y,Y,N,N] rfl rfl (any_of HT_.out (by kernel_rfl)) ?_
           exact norm_ (by simp only [putAll, Act.put, sA, sB, sC]) (hCont (gb370) _ ⟨hHeld, BK353.out, BK354.out, BK355.out, BK370.out, GW370.out, GE370.out, NB353_370.out, NB370_353.out, NB354_370.out, NB370_354.out, NB355_370.out, NB370_355.out, (by repeat (first | (with_reducible first | exact HB.out | apply below_alloc | apply pw_below_drewN | apply below_drew1 | refine below_set ?_ (Aside0.out (by assumption))) | exact HB.out))⟩)
         rintro gb370 w62 ⟨hS_, h0_, h1_, h2_, h3_, h4_, h5_, h6_, h7_, h8_, h9_, h10_, h11_, h12_⟩; have BK370 := Aside0.mk h3_; have GW370 := Aside0.mk h4_; have GE370 := Aside0.mk h5_; have NB353_370 := Aside0.mk h6_; have NB370_353 := Aside0.mk h7_; have NB354_370 := Aside0.mk h8_; have NB370_354 := Aside0.mk h9_; have NB355_370 := Aside0.mk h10_; have NB370_355 := Aside0.mk h11_; replace BK353 := Aside0.mk h0_; replace BK354 := Aside0.mk h1_; replace BK355 := Aside0.mk h2_; replace HB := Aside0.mk h12_; clear h0_ h1_ h2_ h3_ h4_ h5_ h6_ h7_ h8_ h9_ h10_ h11_ h12_; have hHeld : w62.cell? ⟨gb355, 0, none⟩ = some (.bool true) ∧ w62.cell? ⟨gb355, 1, none⟩ = some (.int .u64 t361) ∧ w62.cell? ⟨gb355, 2, none⟩ = some (.int .u64 t362) := hS_; refine norm_ (a' := ?_) ?_ ?_; rotate_left
         ·simp only [putAll, Act.put, sA, sB, sC]
          rfl
         refine one_ (i := 7) (N := none) #[Y,Y,Y,Y,Y,Y,Y,Y,N] rfl rfl (one_of HT_.out (by kernel_rfl)) (by decide) (fun K hK => ?_); have hs63 := czZ BK370 0 (.bool false); have hfs63 := blk_frozen BK370.out 0; have hns63_0 := NB353_370.out; have hns63_1 := NB354_370.out; have hns63_2 := NB355_370.out; have hms63_0 := NB370_353.out; have hms63_1 := NB370_354.out; have hms63_2 := NB370_355.out; have hs64 := czZ BK370 1 (.int .u64 0); have hfs64 := blk_frozen BK370.out 1; have hns64_0 := NB353_370.out; have hns64_1 := NB354_370.out; have hns64_2 := NB355_370.out; have hms64_0 := NB370_353.out; have hms64_1 := NB370_354.out; have hms64_2 := NB370_355.out; have hs65 := czZ BK370 2 (.int .u64 0); have hfs65 := blk_frozen BK370.out 2; have hns65_0 := NB353_370.out; have hns65_1 := NB354_370.out; have hns65_2 := NB355_370.out; have hms65_0 := NB370_353.out; have hms65_1 := NB370_354.out; have hms65_2 := NB370_355.out; refine skip_ (w1 := ?_) (by rfl) rfl ?_ ?_; rotate_left
         ·go_simp
          rfl
         refine hK.out _ _ ⟨((cell_far (p := ⟨gb370, _, none⟩) NB355_370.out _).trans (((cell_far (p := ⟨gb370, _, none⟩) NB355_370.out _).trans (((cell_far (p := ⟨gb370, _, none⟩) NB355_370.out _).trans (hHeld.1)))))), ((cell_far (p := ⟨gb370, _, none⟩) NB355_370.out _).trans (((cell_far (p := ⟨gb370, _, none⟩) NB355_370.out _).trans (((cell_far (p := ⟨gb370, _, none⟩) NB355_370.out _).trans (hHeld.2.1)))))), ((cell_far (p := ⟨gb370, _, none⟩) NB355_370.out _).trans (((cell_far (p := ⟨gb370, _, none⟩) NB355_370.out _).trans (((cell_far (p := ⟨gb370, _, none⟩) NB355_370.out _).trans (hHeld.2.2))))))⟩ (fun hHeld => ?_); clear hK K; refine pureA_ (i := 8) (N := some 13) #[Y,Y,Y,Y,Y,Y,Y,Y,Y] rfl rfl (any_of HT_.out (by kernel_rfl)) ?_
         refine done_ (done_of HT_.out (by kernel_rfl)) ?_; have hnb66 := NB370_353.out; have hnc66 := NB353_370.out; have hnb67 := NB370_354.out; have hnc67 := NB354_370.out; have hnb68 := NB370_355.out; have hnc68 := NB355_370.out; have hcz69_0 := czZ BK370 0 (.bool false); have hcz69_1 := czZ BK370 1 (.int .u64 0); have hcz69_2 := czZ BK370 2 (.int .u64 0); have hfz69_0 := blk_frozen BK370.out 0; have hfz69_1 := blk_frozen BK370.out 1; have hfz69_2 := blk_frozen BK370.out 2; have hnb70 := NB354_353.out; have hnc70 := NB353_354.out; have hcz71_0 := czZ BK354 0 (.bool false); have hcz71_1 := czZ BK354 1 (.int .u64 0); have hcz71_2 := czZ BK354 2 (.int .u64 0); have hfz71_0 := blk_frozen BK354.out 0; have hfz71_1 := blk_frozen BK354.out 1; have hfz71_2 := blk_frozen BK354.out 2
         try go_wp2
         refine bodyPost_ret (results_ctt rfl _ _ gb354 24 #[.bool t366, .int .u64 t367, .int .u64 t368] (0, 0) _ rfl (by (with_reducible repeat first | apply blk_drewN | apply blk_drew | apply blk_alloc); refine blk_put (cs := #[.bool t366, .int .u64 t367, .int .u64 0]) ?_ 2 _ rfl; (with_reducible repeat first | apply blk_drewN | apply blk_drew | apply blk_alloc); refine blk_put (cs := #[.bool t366, .int .u64 0, .int .u64 0]) ?_ 1 _ rfl; (with_reducible repeat first | apply blk_drewN | apply blk_drew | apply blk_alloc); refine blk_put (cs := #[.bool false, .int .u64 0, .int .u64 0]) ?_ 0 _ rfl; (with_reducible repeat first | apply blk_drewN | apply blk_drew | apply blk_alloc); refine blk_far ?_ NB354_370.out _; (with_reducible repeat first | apply blk_drewN | apply blk_drew | apply blk_alloc); refine blk_far ?_ NB354_370.out _; (with_reducible repeat first | apply blk_drewN | apply blk_drew | apply blk_alloc); refine blk_far ?_ NB354_370.out _; (with_reducible repeat first | apply blk_drewN | apply blk_drew | apply blk_alloc); exact BK354.out) Try.underlying24 rfl (by kernel_rfl)) rfl ?_; exact ⟨by first | rfl | (simp [errW_none, errW_some] <;> rfl) | (simp [*, errW_none, errW_some] <;> rfl), by repeat (first | (with_reducible first | exact HB.out | apply below_alloc | apply pw_below_drewN | apply below_drew1 | refine below_set ?_ (Aside0.out (by assumption))) | exact HB.out)⟩
        ·rw [if_neg c53] at H
         have c53b0 : (t369 == 0) = false := beq_eq_false_iff_ne.mpr c53; have c53b1 : (t369 != 0) = true := bne_iff_ne.mpr c53; simp only [Option.some.injEq, Prod.mk.injEq] at H; obtain ⟨rfl, rfl, rfl, rfl, rfl⟩ := H; have hnb72 := NB355_353.out; have hnc72 := NB353_355.out; have hnb73 := NB355_354.out; have hnc73 := NB354_355.out; have hcz74_0 : wc.cell? ⟨gb355, 0, none⟩ = some (.bool t360) := (blk_cell BK355.out 0).trans rfl; have hcz74_1 : wc.cell? ⟨gb355, 1, none⟩ = some (.int .u64 t361) := (blk_cell BK355.out 1).trans rfl; have hcz74_2 : wc.cell? ⟨gb355, 2, none⟩ = some (.int .u64 t362) := (blk_cell BK355.out 2).trans rfl; have hfz74_0 := blk_frozen BK355.out 0; have hfz74_1 := blk_frozen BK355.out 1; have hfz74_2 := blk_frozen BK355.out 2
         try go_wp2
         have n0_ : Aside0 ((wc.setCell ⟨gb355, 0, none⟩ (.bool true)).heap[gb353]? = some (.cells #[.bool a0_0, .int .u64 a0_1, .int .u64 a0_2] 24 (0, 0))) := ⟨by (with_reducible repeat first | apply blk_drewN | apply blk_drew | apply blk_alloc); refine blk_far ?_ NB353_355.out _; (with_reducible repeat first | apply blk_drewN | apply blk_drew | apply blk_alloc); exact BK353.out⟩
         have n1_ : Aside0 ((wc.setCell ⟨gb355, 0, none⟩ (.bool true)).heap[gb354]? = some (.cells #[.bool false, .int .u64 0, .int .u64 0] 24 (0, 0))) := ⟨by (with_reducible repeat first | apply blk_drewN | apply blk_drew | apply blk_alloc); refine blk_far ?_ NB354_355.out _; (with_reducible repeat first | apply blk_drewN | apply blk_drew | apply blk_alloc); exact BK354.out⟩
         have n2_ : Aside0 ((wc.setCell ⟨gb355, 0, none⟩ (.bool true)).heap[gb355]? = some (.cells #[.bool true, .int .u64 t361, .int .u64 t362] 24 (0, 0))) := ⟨by (with_reducible repeat first | apply blk_drewN | apply blk_drew | apply blk_alloc); refine blk_put (cs := #[.bool t360, .int .u64 t361, .int .u64 t362]) ?_ 0 _ rfl; (with_reducible repeat first | apply blk_drewN | apply blk_drew | apply blk_alloc); exact BK355.out⟩
         have n3_ : Aside0 (Below w.heap.size w (wc.setCell ⟨gb355, 0, none⟩ (.bool true))) := ⟨by repeat (first | (with_reducible first | exact HB.out | apply below_alloc | apply pw_below_drewN | apply below_drew1 | refine below_set ?_ (Aside0.out (by assumption))) | exact HB.out)⟩
         (try clear BK353); (try clear BK354); (try clear BK355); (try clear HB)
         generalize (wc.setCell ⟨gb355, 0, none⟩ (.bool true)) = w75 at n0_ n1_ n2_ n3_ ⊢
         have BK353 := n0_; have BK354 := n1_; have BK355 := n2_; have HB := n3_; clear n0_ n1_ n2_ n3_; replace BK353 := Aside0.mk (blk_drew BK353.out); replace BK354 := Aside0.mk (blk_drew BK354.out); replace BK355 := Aside0.mk (blk_drew BK355.out); replace HB := Aside0.mk (below_drew1 HB.out); refine start_ (n := 9) (S := fun w' => w'.cell? ⟨gb355, 0, none⟩ = some (.bool true) ∧ w'.cell? ⟨gb355, 1, none⟩ = some (.int .u64 t361) ∧ w'.cell? ⟨gb355, 2, none⟩ = some (.int .u64 t362)) (ds := []) #[N,N,N,N,N,N,N,N,N] (by kernel_rfl) rfl rfl ⟨(blk_cell BK355.out 0).trans rfl, (blk_cell BK355.out 1).trans rfl, (blk_cell BK355.out 2).trans rfl⟩ (fun hHeld => ?_); refine with_tabW sawtoothref02_Div.tab20 sawtoothref02_Div.bits20 (fun HT_ HW_ => ?_)
         generalize w75.drew = w76 at BK353 BK354 BK355 HB hHeld ⊢
         refine take_ (i := 0) (N := some 76) (v := ?_) (a' := ?_) #[Y,N,N,N,N,N,N,N,N] rfl rfl (take_ofW HT_.out HW_.out (by kernel_rfl)) (fun _ _ _ h => h) (Or.inl ⟨by rfl, ?_⟩) hHeld ?_ ?_; rotate_left
         ·rintro w' ⟨s0, s1, s2⟩; go_simp
          with_reducible rfl
         rotate_left
         ·simp only [Act.put, sA, sB, sC, i64_w, i32_w]
          rfl
         refine join_ (σ := Nat) 2 #[Y,Y,Y,Y,Y,Y,Y,N,N] (fun s_ => [(77, .agg #[.bool t363, .int .u64 t364, .int .u64 t365]), (78, .tuple #[.agg #[.bool t366, .int .u64 t367, .int .u64 t368], .int .i64 t369]), (12, .pointer (some ⟨s_, 0, none⟩)), (75, .tuple #[.agg #[.bool t366, .int .u64 t367, .int .u64 t368], .int .i64 t369]), (79, .agg #[.bool t366, .int .u64 t367, .int .u64 t368]), (80, .int .i64 t369)]) (fun s_ w' => (w'.cell? ⟨gb355, 0, none⟩ = some (.bool true) ∧ w'.cell? ⟨gb355, 1, none⟩ = some (.int .u64 t361) ∧ w'.cell? ⟨gb355, 2, none⟩ = some (.int .u64 t362)) ∧ (w'.heap[gb353]? = some (.cells #[.bool a0_0, .int .u64 a0_1, .int .u64 a0_2] 24 (0, 0))) ∧ (w'.heap[gb354]? = some (.cells #[.bool false, .int .u64 0, .int .u64 0] 24 (0, 0))) ∧ (w'.heap[gb355]? = some (.cells #[.bool true, .int .u64 t361, .int .u64 t362] 24 (0, 0))) ∧ (w'.heap[s_]? = some (.cells #[.bool false, .int .u64 0, .int .u64 0] 24 (0, 0))) ∧ (w.heap.size ≤ s_) ∧ (w.heap.size ≤ s_) ∧ (gb353 ≠ s_) ∧ (s_ ≠ gb353) ∧ (gb354 ≠ s_) ∧ (s_ ≠ gb354) ∧ (gb355 ≠ s_) ∧ (s_ ≠ gb355) ∧ (Below w.heap.size w w')) ?_ ?_; rotate_left
         ·intro hCont; refine two_ (i := 1) (j := 6) (Ni := some 77) (Nj := some 12) #[Y,Y,N,N,N,N,N,N,N] #[Y,N,N,N,N,N,Y,N,N] rfl rfl rfl rfl (two_of HT_.out (by kernel_rfl)) (by decide) (by decide) (fun K hK => ?_) (fun K hK => ?_)
          ·skip
           refine goesA_ Try.func23 rfl #[.int .i64 (-1)] (by rfl) rfl rfl ?_
           with_reducible refine (sawtoothref02_OfS.calls (-1) t363 t364 t365 _ A51.out).mono ?_
           rintro e w77 ⟨rfl, hb⟩; refine ⟨_, rfl, ?_⟩; replace BK353 := bbZ BK353 hb; replace BK354 := bbZ BK354 hb; replace BK355 := bbZ BK355 hb; replace HB := Aside0.mk (below_step HB.out hb); clear hb; refine hK.out _ _ ⟨(blk_cell BK355.out 0).trans rfl, (blk_cell BK355.out 1).trans rfl, (blk_cell BK355.out 2).trans rfl⟩ (fun hHeld => ?_); clear hK K; refine normA_ (some 77) ?_
           refine two_ (i := 2) (j := 6) (Ni := some 78) (Nj := some 12) #[Y,Y,Y,N,N,N,N,N,N] #[Y,Y,N,N,N,N,Y,N,N] rfl rfl rfl rfl (two_of HT_.out (by kernel_rfl)) (by decide) (by decide) (fun K hK => ?_) (fun K hK => ?_)
           ·skip
            refine goesA_ Try.func17 rfl #[.agg #[.bool true, .int .u64 t361, .int .u64 t362], .agg #[.bool t363, .int .u64 t364, .int .u64 t365]] (by rfl) rfl rfl ?_
            with_reducible refine (sawtoothref02_AddS.calls true t361 t362 t363 t364 t365 t366 t367 t368 t369 _ A52.out).mono ?_
            rintro e w78 ⟨rfl, hb⟩; refine ⟨_, rfl, ?_⟩; replace BK353 := bbZ BK353 hb; replace BK354 := bbZ BK354 hb; replace BK355 := bbZ BK355 hb; replace HB := Aside0.mk (below_step HB.out hb); clear hb; refine hK.out _ _ ⟨(blk_cell BK355.out 0).trans rfl, (blk_cell BK355.out 1).trans rfl, (blk_cell BK355.out 2).trans rfl⟩ (fun hHeld => ?_); clear hK K; refine normA_ (some 78) ?_
            refine pureA_ (i := 3) (N := some 75) #[Y,Y,Y,Y,N,N,N,N,N] rfl rfl (any_of HT_.out (by kernel_rfl)) ?_
            refine pureA_ (i := 4) (N := some 79) #[Y,Y,Y,Y,Y,N,N,N,N] rfl rfl (any_of HT_.out (by kernel_rfl)) ?_
            refine pureA_ (i := 5) (N := some 80) #[Y,Y,Y,Y,Y,Y,N,N,N] rfl rfl (any_of HT_.out (by kernel_rfl)) ?_
            refine one_ (i := 6) (N := some 12) #[Y,Y,Y,Y,Y,Y,Y,N,N] rfl rfl (one_of HT_.out (by kernel_rfl)) (by decide) (fun K hK => ?_); refine box_step ?hg (N := 12) ?hd (cs := #[.bool false, .int .u64 0, .int .u64 0]) (t := 24) ?hr ?_; (case hd => rfl); (case hg => rfl); (case hr => first | (go_simp; done) | (go_simp; rfl)); intro gb370 hg w79 hbox hb; have BK370 := Aside0.mk (hbox); have GW370 := szZ HB hg; have GE370 := szZ HB hg; have NB353_370 := nlZ BK353 hg; have NB370_353 := ngZ BK353 hg; have NB354_370 := nlZ BK354 hg; have NB370_354 := ngZ BK354 hg; have NB355_370 := nlZ BK355 hg; have NB370_355 := ngZ BK355 hg; replace BK353 := bbZ BK353 hb; replace BK354 := bbZ BK354 hb; replace BK355 := bbZ BK355 hb; replace HB := Aside0.mk (below_step HB.out hb); clear hb hbox hg; refine hK.out _ _ ⟨(blk_cell BK355.out 0).trans rfl, (blk_cell BK355.out 1).trans rfl, (blk_cell BK355.out 2).trans rfl⟩ (fun hHeld => ?_); clear hK K; refine normA_ (some 12) ?_
            exact norm_ (by simp only [putAll, Act.put, sA, sB, sC]) (hCont (gb370) _ ⟨hHeld, BK353.out, BK354.out, BK355.out, BK370.out, GW370.out, GE370.out, NB353_370.out, NB370_353.out, NB354_370.out, NB370_354.out, NB355_370.out, NB370_355.out, (by repeat (first | (with_reducible first | exact HB.out | apply below_alloc | apply pw_below_drewN | apply below_drew1 | refine below_set ?_ (Aside0.out (by assumption))) | exact HB.out))⟩)
           ·skip
            refine box_step ?hg (N := 12) ?hd (cs := #[.bool false, .int .u64 0, .int .u64 0]) (t := 24) ?hr ?_; (case hd => rfl); (case hg => rfl); (case hr => first | (go_simp; done) | (go_simp; rfl)); intro gb370 hg w78 hbox hb; have BK370 := Aside0.mk (hbox); have GW370 := szZ HB hg; have GE370 := szZ HB hg; have NB353_370 := nlZ BK353 hg; have NB370_353 := ngZ BK353 hg; have NB354_370 := nlZ BK354 hg; have NB370_354 := ngZ BK354 hg; have NB355_370 := nlZ BK355 hg; have NB370_355 := ngZ BK355 hg; replace BK353 := bbZ BK353 hb; replace BK354 := bbZ BK354 hb; replace BK355 := bbZ BK355 hb; replace HB := Aside0.mk (below_step HB.out hb); clear hb hbox hg; refine hK.out _ _ ⟨(blk_cell BK355.out 0).trans rfl, (blk_cell BK355.out 1).trans rfl, (blk_cell BK355.out 2).trans rfl⟩ (fun hHeld => ?_); clear hK K; refine normA_ (some 12) ?_
            refine one_ (i := 2) (N := some 78) #[Y,Y,Y,N,N,N,Y,N,N] rfl rfl (one_of HT_.out (by kernel_rfl)) (by decide) (fun K hK => ?_); refine goesA_ Try.func17 rfl #[.agg #[.bool true, .int .u64 t361, .int .u64 t362], .agg #[.bool t363, .int .u64 t364, .int .u64 t365]] (by rfl) rfl rfl ?_
            with_reducible refine (sawtoothref02_AddS.calls true t361 t362 t363 t364 t365 t366 t367 t368 t369 _ A52.out).mono ?_
            rintro e w79 ⟨rfl, hb⟩; refine ⟨_, rfl, ?_⟩; replace BK353 := bbZ BK353 hb; replace BK354 := bbZ BK354 hb; replace BK355 := bbZ BK355 hb; replace BK370 := bbZ BK370 hb; replace HB := Aside0.mk (below_step HB.out hb); clear hb; refine hK.out _ _ ⟨(blk_cell BK355.out 0).trans rfl, (blk_cell BK355.out 1).trans rfl, (blk_cell BK355.out 2).trans rfl⟩ (fun hHeld => ?_); clear hK K; refine normA_ (some 78) ?_
            refine pureA_ (i := 3) (N := some 75) #[Y,Y,Y,Y,N,N,Y,N,N] rfl rfl (any_of HT_.out (by kernel_rfl)) ?_
            refine pureA_ (i := 4) (N := some 79) #[Y,Y,Y,Y,Y,N,Y,N,N] rfl rfl (any_of HT_.out (by kernel_rfl)) ?_
            refine pureA_ (i := 5) (N := some 80) #[Y,Y,Y,Y,Y,Y,Y,N,N] rfl rfl (any_of HT_.out (by kernel_rfl)) ?_
            exact norm_ (by simp only [putAll, Act.put, sA, sB, sC]) (hCont (gb370) _ ⟨hHeld, BK353.out, BK354.out, BK355.out, BK370.out, GW370.out, GE370.out, NB353_370.out, NB370_353.out, NB354_370.out, NB370_354.out, NB355_370.out, NB370_355.out, (by repeat (first | (with_reducible first | exact HB.out | apply below_alloc | apply pw_below_drewN | apply below_drew1 | refine below_set ?_ (Aside0.out (by assumption))) | exact HB.out))⟩)
          ·skip
           refine box_step ?hg (N := 12) ?hd (cs := #[.bool false, .int .u64 0, .int .u64 0]) (t := 24) ?hr ?_; (case hd => rfl); (case hg => rfl); (case hr => first | (go_simp; done) | (go_simp; rfl)); intro gb370 hg w77 hbox hb; have BK370 := Aside0.mk (hbox); have GW370 := szZ HB hg; have GE370 := szZ HB hg; have NB353_370 := nlZ BK353 hg; have NB370_353 := ngZ BK353 hg; have NB354_370 := nlZ BK354 hg; have NB370_354 := ngZ BK354 hg; have NB355_370 := nlZ BK355 hg; have NB370_355 := ngZ BK355 hg; replace BK353 := bbZ BK353 hb; replace BK354 := bbZ BK354 hb; replace BK355 := bbZ BK355 hb; replace HB := Aside0.mk (below_step HB.out hb); clear hb hbox hg; refine hK.out _ _ ⟨(blk_cell BK355.out 0).trans rfl, (blk_cell BK355.out 1).trans rfl, (blk_cell BK355.out 2).trans rfl⟩ (fun hHeld => ?_); clear hK K; refine normA_ (some 12) ?_
           refine one_ (i := 1) (N := some 77) #[Y,Y,N,N,N,N,Y,N,N] rfl rfl (one_of HT_.out (by kernel_rfl)) (by decide) (fun K hK => ?_); refine goesA_ Try.func23 rfl #[.int .i64 (-1)] (by rfl) rfl rfl ?_
           with_reducible refine (sawtoothref02_OfS.calls (-1) t363 t364 t365 _ A51.out).mono ?_
           rintro e w78 ⟨rfl, hb⟩; refine ⟨_, rfl, ?_⟩; replace BK353 := bbZ BK353 hb; replace BK354 := bbZ BK354 hb; replace BK355 := bbZ BK355 hb; replace BK370 := bbZ BK370 hb; replace HB := Aside0.mk (below_step HB.out hb); clear hb; refine hK.out _ _ ⟨(blk_cell BK355.out 0).trans rfl, (blk_cell BK355.out 1).trans rfl, (blk_cell BK355.out 2).trans rfl⟩ (fun hHeld => ?_); clear hK K; refine normA_ (some 77) ?_
           refine one_ (i := 2) (N := some 78) #[Y,Y,Y,N,N,N,Y,N,N] rfl rfl (one_of HT_.out (by kernel_rfl)) (by decide) (fun K hK => ?_); refine goesA_ Try.func17 rfl #[.agg #[.bool true, .int .u64 t361, .int .u64 t362], .agg #[.bool t363, .int .u64 t364, .int .u64 t365]] (by rfl) rfl rfl ?_
           with_reducible refine (sawtoothref02_AddS.calls true t361 t362 t363 t364 t365 t366 t367 t368 t369 _ A52.out).mono ?_
           rintro e w79 ⟨rfl, hb⟩; refine ⟨_, rfl, ?_⟩; replace BK353 := bbZ BK353 hb; replace BK354 := bbZ BK354 hb; replace BK355 := bbZ BK355 hb; replace BK370 := bbZ BK370 hb; replace HB := Aside0.mk (below_step HB.out hb); clear hb; refine hK.out _ _ ⟨(blk_cell BK355.out 0).trans rfl, (blk_cell BK355.out 1).trans rfl, (blk_cell BK355.out 2).trans rfl⟩ (fun hHeld => ?_); clear hK K; refine normA_ (some 78) ?_
           refine pureA_ (i := 3) (N := some 75) #[Y,Y,Y,Y,N,N,Y,N,N] rfl rfl (any_of HT_.out (by kernel_rfl)) ?_
           refine pureA_ (i := 4) (N := some 79) #[Y,Y,Y,Y,Y,N,Y,N,N] rfl rfl (any_of HT_.out (by kernel_rfl)) ?_
           refine pureA_ (i := 5) (N := some 80) #[Y,Y,Y,Y,Y,Y,Y,N,N] rfl rfl (any_of HT_.out (by kernel_rfl)) ?_
           exact norm_ (by simp only [putAll, Act.put, sA, sB, sC]) (hCont (gb370) _ ⟨hHeld, BK353.out, BK354.out, BK355.out, BK370.out, GW370.out, GE370.out, NB353_370.out, NB370_353.out, NB354_370.out, NB370_354.out, NB355_370.out, NB370_355.out, (by repeat (first | (with_reducible first | exact HB.out | apply below_alloc | apply pw_below_drewN | apply below_drew1 | refine below_set ?_ (Aside0.out (by assumption))) | exact HB.out))⟩)
         rintro gb370 w80 ⟨hS_, h0_, h1_, h2_, h3_, h4_, h5_, h6_, h7_, h8_, h9_, h10_, h11_, h12_⟩; have BK370 := Aside0.mk h3_; have GW370 := Aside0.mk h4_; have GE370 := Aside0.mk h5_; have NB353_370 := Aside0.mk h6_; have NB370_353 := Aside0.mk h7_; have NB354_370 := Aside0.mk h8_; have NB370_354 := Aside0.mk h9_; have NB355_370 := Aside0.mk h10_; have NB370_355 := Aside0.mk h11_; replace BK353 := Aside0.mk h0_; replace BK354 := Aside0.mk h1_; replace BK355 := Aside0.mk h2_; replace HB := Aside0.mk h12_; clear h0_ h1_ h2_ h3_ h4_ h5_ h6_ h7_ h8_ h9_ h10_ h11_ h12_; have hHeld : w80.cell? ⟨gb355, 0, none⟩ = some (.bool true) ∧ w80.cell? ⟨gb355, 1, none⟩ = some (.int .u64 t361) ∧ w80.cell? ⟨gb355, 2, none⟩ = some (.int .u64 t362) := hS_; refine norm_ (a' := ?_) ?_ ?_; rotate_left
         ·simp only [putAll, Act.put, sA, sB, sC]
          rfl
         refine one_ (i := 7) (N := none) #[Y,Y,Y,Y,Y,Y,Y,Y,N] rfl rfl (one_of HT_.out (by kernel_rfl)) (by decide) (fun K hK => ?_); have hs81 := czZ BK370 0 (.bool false); have hfs81 := blk_frozen BK370.out 0; have hns81_0 := NB353_370.out; have hns81_1 := NB354_370.out; have hns81_2 := NB355_370.out; have hms81_0 := NB370_353.out; have hms81_1 := NB370_354.out; have hms81_2 := NB370_355.out; have hs82 := czZ BK370 1 (.int .u64 0); have hfs82 := blk_frozen BK370.out 1; have hns82_0 := NB353_370.out; have hns82_1 := NB354_370.out; have hns82_2 := NB355_370.out; have hms82_0 := NB370_353.out; have hms82_1 := NB370_354.out; have hms82_2 := NB370_355.out; have hs83 := czZ BK370 2 (.int .u64 0); have hfs83 := blk_frozen BK370.out 2; have hns83_0 := NB353_370.out; have hns83_1 := NB354_370.out; have hns83_2 := NB355_370.out; have hms83_0 := NB370_353.out; have hms83_1 := NB370_354.out; have hms83_2 := NB370_355.out; refine skip_ (w1 := ?_) (by rfl) rfl ?_ ?_; rotate_left
         ·go_simp
          rfl
         refine hK.out _ _ ⟨((cell_far (p := ⟨gb370, _, none⟩) NB355_370.out _).trans (((cell_far (p := ⟨gb370, _, none⟩) NB355_370.out _).trans (((cell_far (p := ⟨gb370, _, none⟩) NB355_370.out _).trans (hHeld.1)))))), ((cell_far (p := ⟨gb370, _, none⟩) NB355_370.out _).trans (((cell_far (p := ⟨gb370, _, none⟩) NB355_370.out _).trans (((cell_far (p := ⟨gb370, _, none⟩) NB355_370.out _).trans (hHeld.2.1)))))), ((cell_far (p := ⟨gb370, _, none⟩) NB355_370.out _).trans (((cell_far (p := ⟨gb370, _, none⟩) NB355_370.out _).trans (((cell_far (p := ⟨gb370, _, none⟩) NB355_370.out _).trans (hHeld.2.2))))))⟩ (fun hHeld => ?_); clear hK K; refine pureA_ (i := 8) (N := some 13) #[Y,Y,Y,Y,Y,Y,Y,Y,Y] rfl rfl (any_of HT_.out (by kernel_rfl)) ?_
         refine done_ (done_of HT_.out (by kernel_rfl)) ?_; have hnb84 := NB354_353.out; have hnc84 := NB353_354.out; have hnb85 := NB354_370.out; have hnc85 := NB370_354.out; have hcz86_0 := czZ BK354 0 (.bool false); have hcz86_1 := czZ BK354 1 (.int .u64 0); have hcz86_2 := czZ BK354 2 (.int .u64 0); have hfz86_0 := blk_frozen BK354.out 0; have hfz86_1 := blk_frozen BK354.out 1; have hfz86_2 := blk_frozen BK354.out 2
         try go_wp2
         refine bodyPost_ret (results_ctt rfl _ _ gb354 24 #[.bool false, .int .u64 0, .int .u64 0] (0, 0) _ rfl (by (with_reducible repeat first | apply blk_drewN | apply blk_drew | apply blk_alloc); refine blk_put (cs := #[.bool false, .int .u64 0, .int .u64 0]) ?_ 2 _ rfl; (with_reducible repeat first | apply blk_drewN | apply blk_drew | apply blk_alloc); refine blk_put (cs := #[.bool false, .int .u64 0, .int .u64 0]) ?_ 1 _ rfl; (with_reducible repeat first | apply blk_drewN | apply blk_drew | apply blk_alloc); refine blk_put (cs := #[.bool false, .int .u64 0, .int .u64 0]) ?_ 0 _ rfl; (with_reducible repeat first | apply blk_drewN | apply blk_drew | apply blk_alloc); refine blk_far ?_ NB354_370.out _; (with_reducible repeat first | apply blk_drewN | apply blk_drew | apply blk_alloc); refine blk_far ?_ NB354_370.out _; (with_reducible repeat first | apply blk_drewN | apply blk_drew | apply blk_alloc); refine blk_far ?_ NB354_370.out _; (with_reducible repeat first | apply blk_drewN | apply blk_drew | apply blk_alloc); exact BK354.out) Try.underlying24 rfl (by kernel_rfl)) rfl ?_; exact ⟨by first | rfl | (simp [errW_none, errW_some] <;> rfl) | (simp [*, errW_none, errW_some] <;> rfl), by repeat (first | (with_reducible first | exact HB.out | apply below_alloc | apply pw_below_drewN | apply below_drew1 | refine below_set ?_ (Aside0.out (by assumption))) | exact HB.out)⟩

end Go.Proofs.Ytkoeehacildioaa.Px
