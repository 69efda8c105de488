/- Printed by a program of this session (wip/tool/px.py), over the kit's print: for each Go function a Lean function, and the proof that the machine's call answers as that function says. Conditions: none beside what the theorems state. -/
import Derived.Test.YtlcobnngpcabpaaPx0
import Derived.Test.YtlcobnngpcabpaaPx27
import Derived.Test.YtlcobnngpcabpaaPx28
import Derived.Test.YtlcobnngpcabpaaPx30
namespace Go.Proofs.Ytlcobnngpcabpaa.Px
open Go.RowKit Go.Proofs.YtlcobnngpcabpaaW.PrintWords Go.Proofs.YtlcobnngpcabpaaW.PrintLast Go.Proofs.YtlcobnngpcabpaaW.PrintMore
attribute [local go_sem] max2_int min2_int max_two min_two max_three min_three max_four min_four   -- for this text's walks alone
set_option linter.unusedVariables false
set_option linter.unusedSimpArgs false

/-! ### sawtoothref02_Div: function 10 -/
mutual
noncomputable def sawtoothref02_Div.l0 : Nat → Int → Int → Int → Int → Bool → Int → Int → Bool → Int → Int → Option (Bool × Int × Int × Int × Int)
 | 0, _, _, _, _, _, _, _, _, _, _ => none
 | k + 1, x1, x7, x8, x10, x363000, x363001, x363002, x365000, x365001, x365002 => if x10 < 64 then (if x7 ≥ 9223372036854775808 then (sawtoothref02_Div.l0 k x1 (IntKind.u64.wrap ((IntKind.u64.wrap ((IntKind.u64.wrap (2 * x7)) + (IntKind.u64.wrap (Int.tdiv x8 9223372036854775808)))) - x1)) (IntKind.u64.wrap (2 * x8)) (wrap64 (x10 + 1)) x363000 x363001 x363002 x365000 x365001 (IntKind.u64.wrap ((IntKind.u64.wrap (2 * x365002)) + 1))) else (if (IntKind.u64.wrap ((IntKind.u64.wrap (2 * x7)) + (IntKind.u64.wrap (Int.tdiv x8 9223372036854775808)))) ≥ x1 then (sawtoothref02_Div.l0 k x1 (IntKind.u64.wrap ((IntKind.u64.wrap ((IntKind.u64.wrap (2 * x7)) + (IntKind.u64.wrap (Int.tdiv x8 9223372036854775808)))) - x1)) (IntKind.u64.wrap (2 * x8)) (wrap64 (x10 + 1)) x363000 x363001 x363002 x365000 x365001 (IntKind.u64.wrap ((IntKind.u64.wrap (2 * x365002)) + 1))) else (sawtoothref02_Div.l0 k x1 (IntKind.u64.wrap ((IntKind.u64.wrap (2 * x7)) + (IntKind.u64.wrap (Int.tdiv x8 9223372036854775808)))) (IntKind.u64.wrap (2 * x8)) (wrap64 (x10 + 1)) x363000 x363001 x363002 x365000 x365001 (IntKind.u64.wrap (2 * x365002))))) else ((sawtoothref02_digits.f x365000 x365001 x365002).bind fun bt365 => ((sawtoothref02_wholeS.f bt365.1 bt365.2.1 bt365.2.2.1 bt365.2.2.2 x365000).bind fun bt369 => (if x363000 = true then (sawtoothref02_Div.j1 k x1 x7 (x7 == 0) bt369.1 bt369.2.1 bt369.2.2) else (sawtoothref02_Div.j1 k x1 x7 true bt369.1 bt369.2.1 bt369.2.2))))
noncomputable def sawtoothref02_Div.j1 : Nat → Int → Int → Bool → Bool → Int → Int → Option (Bool × Int × Int × Int × Int)
 | 0, _, _, _, _, _, _ => none
 | k + 1, x1, x7, x71, x365000, x365001, x365002 => if x71 = true then (some (x365000, x365001, x365002, x7, 0)) else ((sawtoothref02_OfS.f (-1)).bind fun bt372 => ((sawtoothref02_AddS.f true x365001 x365002 bt372.1 bt372.2.1 bt372.2.2).bind fun bt375 => (if bt375.2.2.2 = 0 then (some (bt375.1, bt375.2.1, bt375.2.2.1, IntKind.u64.wrap (x1 - x7), 0)) else (some (false, 0, 0, 0, bt375.2.2.2)))))
end
noncomputable def sawtoothref02_Div.f (k : Nat) (a0_0 : Bool) (a0_1 : Int) (a0_2 : Int) (a1 : Int) : Option (Bool × Int × Int × Int × Int) := if a1 = 0 then (some (false, 0, 0, 0, 20)) else (sawtoothref02_Div.l0 k a1 (Int.tmod a0_1 a1) a0_2 0 a0_0 a0_1 a0_2 a0_0 (IntKind.u64.wrap (Int.tdiv a0_1 a1)) 0)
theorem sawtoothref02_Div.mono_l : ∀ k, (∀ y0 y1 y2 y3 y4 y5 y6 y7 y8 y9, LeO (sawtoothref02_Div.l0 k y0 y1 y2 y3 y4 y5 y6 y7 y8 y9) (sawtoothref02_Div.l0 (k + 1) y0 y1 y2 y3 y4 y5 y6 y7 y8 y9)) ∧ (∀ y0 y1 y2 y3 y4 y5, LeO (sawtoothref02_Div.j1 k y0 y1 y2 y3 y4 y5) (sawtoothref02_Div.j1 (k + 1) y0 y1 y2 y3 y4 y5))
 | 0 => ⟨fun _ _ _ _ _ _ _ _ _ _ r h => by simp [sawtoothref02_Div.l0] at h, fun _ _ _ _ _ _ r h => by simp [sawtoothref02_Div.j1] at h⟩
 | k + 1 => by
  obtain ⟨ih0, ih1⟩ := sawtoothref02_Div.mono_l k; refine ⟨?_, ?_⟩
  ·intro y0 y1 y2 y3 y4 y5 y6 y7 y8 y9
   unfold sawtoothref02_Div.l0
   repeat' first
   | (with_reducible exact ih0 _ _ _ _ _ _ _ _ _ _)
   | (with_reducible exact ih1 _ _ _ _ _ _)
   | (with_reducible exact LeO.refl _)
   | (with_reducible exact LeO.none _)
   | (with_reducible refine LeO.ite ?_ ?_)
   | (with_reducible refine LeO.bind ?_ (fun _ => ?_))
   | exact ih0 _ _ _ _ _ _ _ _ _ _
   | exact ih1 _ _ _ _ _ _
   | exact LeO.none _
   | refine LeO.ite ?_ ?_
   | refine LeO.bind ?_ (fun _ => ?_)
  ·intro y0 y1 y2 y3 y4 y5
   unfold sawtoothref02_Div.j1
   repeat' first
   | (with_reducible exact ih0 _ _ _ _ _ _ _ _ _ _)
   | (with_reducible exact ih1 _ _ _ _ _ _)
   | (with_reducible exact LeO.refl _)
   | (with_reducible exact LeO.none _)
   | (with_reducible refine LeO.ite ?_ ?_)
   | (with_reducible refine LeO.bind ?_ (fun _ => ?_))
   | exact ih0 _ _ _ _ _ _ _ _ _ _
   | exact ih1 _ _ _ _ _ _
   | exact LeO.none _
   | refine LeO.ite ?_ ?_
   | refine LeO.bind ?_ (fun _ => ?_)
theorem sawtoothref02_Div.mono : ∀ a0 a1 a2 a3 k, LeO (sawtoothref02_Div.f k a0 a1 a2 a3) (sawtoothref02_Div.f (k + 1) a0 a1 a2 a3) := by
 intro a0 a1 a2 a3 k; obtain ⟨ih0, ih1⟩ := sawtoothref02_Div.mono_l k
 unfold sawtoothref02_Div.f
 repeat' first
   | (with_reducible exact ih0 _ _ _ _ _ _ _ _ _ _)
   | (with_reducible exact ih1 _ _ _ _ _ _)
   | (with_reducible exact LeO.refl _)
   | (with_reducible exact LeO.none _)
   | (with_reducible refine LeO.ite ?_ ?_)
   | (with_reducible refine LeO.bind ?_ (fun _ => ?_))
   | exact ih0 _ _ _ _ _ _ _ _ _ _
   | exact ih1 _ _ _ _ _ _
   | exact LeO.none _
   | refine LeO.ite ?_ ?_
   | refine LeO.bind ?_ (fun _ => ?_)
def sawtoothref02_Div.T5 : Bool × List (List Nat × List Nat) := (true, [([], []), ([0], [0]), ([], []), ([2], [2]), ([], []), ([3, 4], [3, 4]), ([1, 5], [1, 5]), ([], []), ([7, 6, 0, 1, 2, 3, 4, 5, 6, 7], [6, 7])])
def sawtoothref02_Div.B5 : List Nat := [0, 1, 0, 4, 0, 28, 63, 0, 255]
theorem sawtoothref02_Div.tab5 : rtab .any (opsOf Try.f10 5) = sawtoothref02_Div.T5 := by kernel_rfl
theorem sawtoothref02_Div.bits5 : waitsOk sawtoothref02_Div.T5.2 sawtoothref02_Div.B5 = true := by kernel_rfl
def sawtoothref02_Div.T20 : Bool × List (List Nat × List Nat) := (true, [([], []), ([], []), ([0, 1, 1], [0, 1]), ([2], [2]), ([3], [3]), ([3], [3]), ([], []), ([6, 4, 2, 0, 1, 2, 3, 4, 6], [4, 6]), ([5, 7, 0, 1, 2, 3, 4, 5, 6, 7], [5])])
def sawtoothref02_Div.B20 : List Nat := [0, 0, 3, 7, 15, 15, 0, 95, 255]
theorem sawtoothref02_Div.tab20 : rtab .any (opsOf Try.f10 20) = sawtoothref02_Div.T20 := by kernel_rfl
theorem sawtoothref02_Div.bits20 : waitsOk sawtoothref02_Div.T20.2 sawtoothref02_Div.B20 = true := by kernel_rfl
set_option maxHeartbeats 8000000 in
set_option maxRecDepth 100000 in
theorem sawtoothref02_Div.calls (k : Nat) (a0_0 : Bool) (a0_1 : Int) (a0_2 : Int) (a1 : Int) (r1 : Bool) (r2 : Int) (r3 : Int) (r4 : Int) (r5 : Int) (w : World) (h : sawtoothref02_Div.f k a0_0 a0_1 a0_2 a1 = some (r1, r2, r3, r4, r5)) :
  Calls Try.prog 10 #[.agg #[.bool a0_0, .int .u64 a0_1, .int .u64 a0_2], .int .u64 a1] w fun e w' => e = .returned (.tuple #[.agg #[.bool r1, .int .u64 r2, .int .u64 r3], .int .u64 r4, .int .i64 r5]) ∧ Below w.heap.size w w' := by
 have hu24 := Try.underlying24; have HB := Aside0.mk (Below.refl w.heap.size w); have H : (if a1 = 0 then (some (false, 0, 0, 0, 20)) else (sawtoothref02_Div.l0 k a1 (Int.tmod a0_1 a1) a0_2 0 a0_0 a0_1 a0_2 a0_0 (IntKind.u64.wrap (Int.tdiv a0_1 a1)) 0)) = some (r1, r2, r3, r4, r5) := h; clear h
 by_cases c3 : a1 = 0
 ·rw [if_pos c3] at H
  have c3b0 : (a1 == 0) = true := beq_iff_eq.mpr c3; have c3b1 : (a1 != 0) = false := bne_eq_false_iff_eq.mpr c3; clear c3; simp only [Option.some.injEq, Prod.mk.injEq] at H; obtain ⟨rfl, rfl, rfl, rfl, rfl⟩ := H
  go_enter Try.func10, Try.ntmps10
  go_wp2_with (first | ((with_reducible refine gate_dst (N := 2) rfl ?_); refine box_event ?hg (N := 2) ?hd (cs := #[.bool a0_0, .int .u64 a0_1, .int .u64 a0_2]) (t := 24) ?hr ?_; (case hd => rfl); (case hg => rfl); (case hr => first | (go_simp; done) | (go_simp; rfl)); intro gb362 hg w4 hbox hb; have BK362 := Aside0.mk (hbox); obtain ⟨GW362, nHB⟩ := geA hg hb; have GE362 := GW362; replace HB := nHB; clear nHB; clear hb hbox hg) | ((with_reducible refine gate_dst (N := 4) rfl ?_); refine box_event ?hg (N := 4) ?hd (cs := #[.bool false, .int .u64 0, .int .u64 0]) (t := 24) ?hr ?_; (case hd => rfl); (case hg => rfl); (case hr => first | (go_simp; done) | (go_simp; rfl)); intro gb363 hg w5 hbox hb; have BK363 := Aside0.mk (hbox); obtain ⟨GW363, nHB⟩ := geA hg hb; have GE363 := GW363; obtain ⟨NB362_363, NB363_362, nBK⟩ := nbA BK362 hg hb; replace BK362 := nBK; clear nBK; replace HB := nHB; clear nHB; clear hb hbox hg; have hnb6 := NB363_362.out; have hnc6 := NB362_363.out; have hcz7_0 := czZ BK363 0 (.bool false); have hcz7_1 := czZ BK363 1 (.int .u64 0); have hcz7_2 := czZ BK363 2 (.int .u64 0); have hfz7_0 := blk_frozen BK363.out 0; have hfz7_1 := blk_frozen BK363.out 1; have hfz7_2 := blk_frozen BK363.out 2))
  refine bodyPost_ret (results_ctt rfl _ _ gb363 24 #[.bool false, .int .u64 0, .int .u64 0] (0, 0) _ rfl (by (with_reducible repeat first | apply blk_drewN | apply blk_drew | apply blk_alloc); refine blk_put (cs := #[.bool false, .int .u64 0, .int .u64 0]) ?_ 2 _ rfl; (with_reducible repeat first | apply blk_drewN | apply blk_drew | apply blk_alloc); refine blk_put (cs := #[.bool false, .int .u64 0, .int .u64 0]) ?_ 1 _ rfl; (with_reducible repeat first | apply blk_drewN | apply blk_drew | apply blk_alloc); refine blk_put (cs := #[.bool false, .int .u64 0, .int .u64 0]) ?_ 0 _ rfl; (with_reducible repeat first | apply blk_drewN | apply blk_drew | apply blk_alloc); exact BK363.out) Try.underlying24 rfl (by kernel_rfl)) rfl ?_; exact ⟨by first | rfl | (simp [errW_none, errW_some] <;> rfl) | (simp [*, errW_none, errW_some] <;> rfl), by repeat (first | (with_reducible first | exact HB.out | apply below_alloc | apply pw_below_drewN | apply below_drew1 | refine below_set ?_ (Aside0.out (by assumption))) | exact HB.out)⟩
 ·rw [if_neg c3] at H
  have c3b0 : (a1 == 0) = false := beq_eq_false_iff_ne.mpr c3; have c3b1 : (a1 != 0) = true := bne_iff_ne.mpr c3; have H' := Aside0.mk H; clear H
  go_enter Try.func10, Try.ntmps10
  try go_wp2_with (first | ((with_reducible refine gate_dst (N := 2) rfl ?_); refine box_event ?hg (N := 2) ?hd (cs := #[.bool a0_0, .int .u64 a0_1, .int .u64 a0_2]) (t := 24) ?hr ?_; (case hd => rfl); (case hg => rfl); (case hr => first | (go_simp; done) | (go_simp; rfl)); intro gb362 hg w8 hbox hb; have BK362 := Aside0.mk (hbox); obtain ⟨GW362, nHB⟩ := geA hg hb; have GE362 := GW362; replace HB := nHB; clear nHB; clear hb hbox hg) | ((with_reducible refine gate_dst (N := 4) rfl ?_); refine box_event ?hg (N := 4) ?hd (cs := #[.bool false, .int .u64 0, .int .u64 0]) (t := 24) ?hr ?_; (case hd => rfl); (case hg => rfl); (case hr => first | (go_simp; done) | (go_simp; rfl)); intro gb363 hg w9 hbox hb; have BK363 := Aside0.mk (hbox); obtain ⟨GW363, nHB⟩ := geA hg hb; have GE363 := GW363; obtain ⟨NB362_363, NB363_362, nBK⟩ := nbA BK362 hg hb; replace BK362 := nBK; clear nBK; replace HB := nHB; clear nHB; clear hb hbox hg; have hnb10 := NB362_363.out; have hnc10 := NB363_362.out; have hcz11_0 := czZ BK362 0 (.bool a0_0); have hcz11_1 := czZ BK362 1 (.int .u64 a0_1); have hcz11_2 := czZ BK362 2 (.int .u64 a0_2); have hfz11_0 := blk_frozen BK362.out 0; have hfz11_1 := blk_frozen BK362.out 1; have hfz11_2 := blk_frozen BK362.out 2))
  replace BK362 := Aside0.mk (blk_drew BK362.out); replace BK363 := Aside0.mk (blk_drew BK363.out); replace HB := Aside0.mk (below_drew1 HB.out); refine start_ (n := 9) (S := fun w' => w'.cell? ⟨gb362, 0, none⟩ = some (.bool a0_0) ∧ w'.cell? ⟨gb362, 1, none⟩ = some (.int .u64 a0_1) ∧ w'.cell? ⟨gb362, 2, none⟩ = some (.int .u64 a0_2)) (ds := []) #[N,N,N,N,N,N,N,N,N] (by kernel_rfl) rfl rfl ⟨(blk_cell BK362.out 0).trans rfl, (blk_cell BK362.out 1).trans rfl, (blk_cell BK362.out 2).trans rfl⟩ (fun hHeld => ?_); refine with_tabW sawtoothref02_Div.tab5 sawtoothref02_Div.bits5 (fun HT_ HW_ => ?_)
  generalize w9.drew = w12 at BK362 BK363 HB hHeld ⊢
  refine pureA_ (i := 0) (N := some 23) #[Y,N,N,N,N,N,N,N,N] rfl rfl (any_of HT_.out (by kernel_rfl)) ?_
  refine pureA_ (i := 2) (N := some 25) #[Y,N,Y,N,N,N,N,N,N] rfl rfl (any_of HT_.out (by kernel_rfl)) ?_
  refine pureA_ (i := 4) (N := some 27) #[Y,N,Y,N,Y,N,N,N,N] rfl rfl (any_of HT_.out (by kernel_rfl)) ?_
  refine take_ (i := 1) (N := some 24) (v := ?_) (a' := ?_) #[Y,Y,Y,N,Y,N,N,N,N] rfl rfl (take_ofW HT_.out HW_.out (by kernel_rfl)) (fun _ _ _ h => h) (Or.inl ⟨by rfl, ?_⟩) hHeld ?_ ?_; rotate_left
  ·rintro w' ⟨s0, s1, s2⟩; go_simp
   with_reducible rfl
  rotate_left
  ·simp only [Act.put, sA, sB, sC, i64_w, i32_w]
   rfl
  refine take_ (i := 3) (N := some 26) (v := ?_) (a' := ?_) #[Y,Y,Y,Y,Y,N,N,N,N] rfl rfl (take_ofW HT_.out HW_.out (by kernel_rfl)) (fun _ _ _ h => h) (Or.inl ⟨by rfl, ?_⟩) hHeld ?_ ?_; rotate_left
  ·rintro w' ⟨s0, s1, s2⟩; go_simp
   with_reducible rfl
  rotate_left
  ·simp only [Act.put, sA, sB, sC, i64_w, i32_w]
   rfl
  refine pureA_ (i := 5) (N := some 28) #[Y,Y,Y,Y,Y,Y,N,N,N] rfl rfl (any_of HT_.out (by kernel_rfl)) ?_
  refine pureA_ (i := 6) (N := some 29) #[Y,Y,Y,Y,Y,Y,Y,N,N] rfl rfl (any_of HT_.out (by kernel_rfl)) ?_
  refine one_ (i := 7) (N := some 9) #[Y,Y,Y,Y,Y,Y,Y,Y,N] rfl rfl (one_of HT_.out (by kernel_rfl)) (by decide) (fun K hK => ?_); refine box_step ?hg (N := 9) ?hd (cs := #[.bool false, .int .u64 0, .int .u64 0]) (t := 24) ?hr ?_; (case hd => rfl); (case hg => rfl); (case hr => first | (go_simp; done) | (go_simp; rfl)); intro gb364 hg w13 hbox hb; have BK364 := Aside0.mk (hbox); have GW364 := szZ HB hg; have GE364 := szZ HB hg; have NB362_364 := nlZ BK362 hg; have NB364_362 := ngZ BK362 hg; have NB363_364 := nlZ BK363 hg; have NB364_363 := ngZ BK363 hg; replace BK362 := bbZ BK362 hb; replace BK363 := bbZ BK363 hb; replace HB := Aside0.mk (below_step HB.out hb); clear hb hbox hg; refine hK.out _ _ ⟨(blk_cell BK362.out 0).trans rfl, (blk_cell BK362.out 1).trans rfl, (blk_cell BK362.out 2).trans rfl⟩ (fun hHeld => ?_); clear hK K; refine normA_ (some 9) ?_
  refine one_ (i := 8) (N := none) #[Y,Y,Y,Y,Y,Y,Y,Y,Y] rfl rfl (one_of HT_.out (by kernel_rfl)) (by decide) (fun K hK => ?_); have hs14 := czZ BK364 0 (.bool false); have hfs14 := blk_frozen BK364.out 0; have hns14_0 := NB362_364.out; have hns14_1 := NB363_364.out; have hms14_0 := NB364_362.out; have hms14_1 := NB364_363.out; have hs15 := czZ BK364 1 (.int .u64 0); have hfs15 := blk_frozen BK364.out 1; have hns15_0 := NB362_364.out; have hns15_1 := NB363_364.out; have hms15_0 := NB364_362.out; have hms15_1 := NB364_363.out; have hs16 := czZ BK364 2 (.int .u64 0); have hfs16 := blk_frozen BK364.out 2; have hns16_0 := NB362_364.out; have hns16_1 := NB363_364.out; have hms16_0 := NB364_362.out; have hms16_1 := NB364_363.out; refine skip_ (w1 := ?_) (by rfl) rfl ?_ ?_; rotate_left
  ·go_simp
   rfl
  refine hK.out _ _ ⟨((cell_far (p := ⟨gb364, _, none⟩) NB362_364.out _).trans (((cell_far (p := ⟨gb364, _, none⟩) NB362_364.out _).trans (((cell_far (p := ⟨gb364, _, none⟩) NB362_364.out _).trans (hHeld.1)))))), ((cell_far (p := ⟨gb364, _, none⟩) NB362_364.out _).trans (((cell_far (p := ⟨gb364, _, none⟩) NB362_364.out _).trans (((cell_far (p := ⟨gb364, _, none⟩) NB362_364.out _).trans (hHeld.2.1)))))), ((cell_far (p := ⟨gb364, _, none⟩) NB362_364.out _).trans (((cell_far (p := ⟨gb364, _, none⟩) NB362_364.out _).trans (((cell_far (p := ⟨gb364, _, none⟩) NB362_364.out _).trans (hHeld.2.2))))))⟩ (fun hHeld => ?_); clear hK K; refine done_ (done_of HT_.out (by kernel_rfl)) ?_
  try go_wp2
  go_loopg [7, 8, 10] k (fun kq v7 v8 v10 w' => ∃ (x7_1 : Int) (x8_1 : Int) (x10_1 : Int) (x365002_1 : Int), v7 = .int .u64 x7_1 ∧ v8 = .int .u64 x8_1 ∧ v10 = .int .i64 x10_1 ∧ Aside0 (sawtoothref02_Div.l0 kq a1 x7_1 x8_1 x10_1 a0_0 a0_1 a0_2 a0_0 (IntKind.u64.wrap (Int.tdiv a0_1 a1)) x365002_1 = some (r1, r2, r3, r4, r5)) ∧ Aside0 (kq ≤ k) ∧ Aside0 (w'.heap[gb362]? = some (.cells #[.bool a0_0, .int .u64 a0_1, .int .u64 a0_2] 24 (0, 0))) ∧ Aside0 (w'.heap[gb363]? = some (.cells #[.bool false, .int .u64 0, .int .u64 0] 24 (0, 0))) ∧ Aside0 (w'.heap[gb364]? = some (.cells #[.bool a0_0, .int .u64 (IntKind.u64.wrap (Int.tdiv a0_1 a1)), .int .u64 x365002_1] 24 (0, 0))) ∧ Aside0 (Below w.heap.size w w'))
  case atStart => exact ⟨(Int.tmod a0_1 a1), (a0_2), (0), (0), (by first | rfl | (simp; done) | (simp [*]; done)), (by first | rfl | (simp; done) | (simp [*]; done)), (by first | rfl | (simp; done) | (simp [*]; done)), H', ⟨Nat.le_refl _⟩, ⟨by (with_reducible repeat first | apply blk_drewN | apply blk_drew | apply blk_alloc); refine blk_far ?_ NB362_364.out _; (with_reducible repeat first | apply blk_drewN | apply blk_drew | apply blk_alloc); refine blk_far ?_ NB362_364.out _; (with_reducible repeat first | apply blk_drewN | apply blk_drew | apply blk_alloc); refine blk_far ?_ NB362_364.out _; (with_reducible repeat first | apply blk_drewN | apply blk_drew | apply blk_alloc); exact BK362.out⟩, ⟨by (with_reducible repeat first | apply blk_drewN | apply blk_drew | apply blk_alloc); refine blk_far ?_ NB363_364.out _; (with_reducible repeat first | apply blk_drewN | apply blk_drew | apply blk_alloc); refine blk_far ?_ NB363_364.out _; (with_reducible repeat first | apply blk_drewN | apply blk_drew | apply blk_alloc); refine blk_far ?_ NB363_364.out _; (with_reducible repeat first | apply blk_drewN | apply blk_drew | apply blk_alloc); exact BK363.out⟩, ⟨by (with_reducible repeat first | apply blk_drewN | apply blk_drew | apply blk_alloc); refine blk_put (cs := #[.bool a0_0, .int .u64 (IntKind.u64.wrap (Int.tdiv a0_1 a1)), .int .u64 0]) ?_ 2 _ rfl; (with_reducible repeat first | apply blk_drewN | apply blk_drew | apply blk_alloc); refine blk_put (cs := #[.bool a0_0, .int .u64 0, .int .u64 0]) ?_ 1 _ rfl; (with_reducible repeat first | apply blk_drewN | apply blk_drew | apply blk_alloc); refine blk_put (cs := #[.bool false, .int .u64 0, .int .u64 0]) ?_ 0 _ rfl; (with_reducible repeat first | apply blk_drewN | apply blk_drew | apply blk_alloc); exact BK364.out⟩, ⟨by repeat (first | (with_reducible first | exact HB.out | apply below_alloc | apply pw_below_drewN | apply below_drew1 | refine below_set ?_ (Aside0.out (by assumption))) | exact HB.out)⟩⟩
  case round =>
   clear H'
   try clear c1
   try clear p2
   try clear c3
   try clear c3b0
   try clear c3b1
   try clear c6
   try clear c10
   try clear hcz11_0
   try clear hcz11_1
   try clear hcz11_2
   try clear hcz7_0
   try clear hcz7_1
   try clear hcz7_2
   try clear hfz11_0
   try clear hfz11_1
   try clear hfz11_2
   try clear hfz7_0
   try clear hfz7_1
   try clear hfz7_2
   obtain ⟨x7_1, x8_1, x10_1, x365002_1, rfl, rfl, rfl, HA, HK1, BK362, BK363, BK364, HB⟩ := hrel
   cases gk with
   | zero => exact absurd HA.out (by simp [sawtoothref02_Div.l0])
   | succ k1 =>
    have H := HA.out; clear HA; simp only [sawtoothref02_Div.l0] at H
    by_cases c17 : x10_1 < 64
    ·rw [if_pos c17] at H
     have c17b0 : decide (x10_1 < 64) = true := decide_eq_true c17; clear c17
     by_cases c18 : x7_1 ≥ 9223372036854775808
     ·rw [if_pos c18] at H
      have c18b0 : decide (9223372036854775808 ≤ x7_1) = true := decide_eq_true c18; clear c18; have H' := Aside0.mk H; clear H; have hnb19 := NB364_362.out; have hnc19 := NB362_364.out; have hnb20 := NB364_363.out; have hnc20 := NB363_364.out; have hcz21_0 : wr.cell? ⟨gb364, 0, none⟩ = some (.bool a0_0) := (blk_cell BK364.out 0).trans rfl; have hcz21_1 : wr.cell? ⟨gb364, 1, none⟩ = some (.int .u64 (IntKind.u64.wrap (Int.tdiv a0_1 a1))) := (blk_cell BK364.out 1).trans rfl; have hcz21_2 : wr.cell? ⟨gb364, 2, none⟩ = some (.int .u64 x365002_1) := (blk_cell BK364.out 2).trans rfl; have hfz21_0 := blk_frozen BK364.out 0; have hfz21_1 := blk_frozen BK364.out 1; have hfz21_2 := blk_frozen BK364.out 2
      go_wp2
      go_roundg k1
      case measure => have := HK1.out; omega
      case rel => exact ⟨(IntKind.u64.wrap ((IntKind.u64.wrap ((IntKind.u64.wrap (2 * x7_1)) + (IntKind.u64.wrap (Int.tdiv x8_1 9223372036854775808)))) - a1)), (IntKind.u64.wrap (2 * x8_1)), (wrap64 (x10_1 + 1)), (IntKind.u64.wrap ((IntKind.u64.wrap (2 * x365002_1)) + 1)), (by first | rfl | (simp; done) | (simp [*]; done)), (by first | rfl | (simp; done) | (simp [*]; done)), (by first | rfl | (simp; done) | (simp [*]; done)), H', ⟨by have := HK1.out; omega⟩, ⟨by (with_reducible repeat first | apply blk_drewN | apply blk_drew | apply blk_alloc); refine blk_far ?_ NB362_364.out _; (with_reducible repeat first | apply blk_drewN | apply blk_drew | apply blk_alloc); refine blk_far ?_ NB362_364.out _; (with_reducible repeat first | apply blk_drewN | apply blk_drew | apply blk_alloc); exact BK362.out⟩, ⟨by (with_reducible repeat first | apply blk_drewN | apply blk_drew | apply blk_alloc); refine blk_far ?_ NB363_364.out _; (with_reducible repeat first | apply blk_drewN | apply blk_drew | apply blk_alloc); refine blk_far ?_ NB363_364.out _; (with_reducible repeat first | apply blk_drewN | apply blk_drew | apply blk_alloc); exact BK363.out⟩, ⟨by (with_reducible repeat first | apply blk_drewN | apply blk_drew | apply blk_alloc); refine blk_put (cs := #[.bool a0_0, .int .u64 (IntKind.u64.wrap (Int.tdiv a0_1 a1)), .int .u64 (IntKind.u64.wrap (2 * x365002_1))]) ?_ 2 _ rfl; (with_reducible repeat first | apply blk_drewN | apply blk_drew | apply blk_alloc); refine blk_put (cs := #[.bool a0_0, .int .u64 (IntKind.u64.wrap (Int.tdiv a0_1 a1)), .int .u64 x365002_1]) ?_ 2 _ rfl; (with_reducible repeat first | apply blk_drewN | apply blk_drew | apply blk_alloc); exact BK364.out⟩, ⟨by repeat (first | (with_reducible first | exact HB.out | apply below_alloc | apply pw_below_drewN | apply below_drew1 | refine below_set ?_ (Aside0.out (by assumption))) | exact HB.out)⟩⟩
     ·rw [if_neg c18] at H
      have c18b0 : decide (9223372036854775808 ≤ x7_1) = false := decide_eq_false c18; clear c18
      by_cases c22 : (IntKind.u64.wrap ((IntKind.u64.wrap (2 * x7_1)) + (IntKind.u64.wrap (Int.tdiv x8_1 9223372036854775808)))) ≥ a1
      ·rw [if_pos c22] at H
       have c22b0 : decide (a1 ≤ (IntKind.u64.wrap ((IntKind.u64.wrap (2 * x7_1)) + (IntKind.u64.wrap (Int.tdiv x8_1 9223372036854775808))))) = true := decide_eq_true c22; clear c22; have H' := Aside0.mk H; clear H; have hnb23 := NB364_362.out; have hnc23 := NB362_364.out; have hnb24 := NB364_363.out; have hnc24 := NB363_364.out; have hcz25_0 : wr.cell? ⟨gb364, 0, none⟩ = some (.bool a0_0) := (blk_cell BK364.out 0).trans rfl; have hcz25_1 : wr.cell? ⟨gb364, 1, none⟩ = some (.int .u64 (IntKind.u64.wrap (Int.tdiv a0_1 a1))) := (blk_cell BK364.out 1).trans rfl; have hcz25_2 : wr.cell? ⟨gb364, 2, none⟩ = some (.int .u64 x365002_1) := (blk_cell BK364.out 2).trans rfl; have hfz25_0 := blk_frozen BK364.out 0; have hfz25_1 := blk_frozen BK364.out 1; have hfz25_2 := blk_frozen BK364.out 2
       go_wp2
       go_roundg k1
       case measure => have := HK1.out; omega
       case rel => exact ⟨(IntKind.u64.wrap ((IntKind.u64.wrap ((IntKind.u64.wrap (2 * x7_1)) + (IntKind.u64.wrap (Int.tdiv x8_1 9223372036854775808)))) - a1)), (IntKind.u64.wrap (2 * x8_1)), (wrap64 (x10_1 + 1)), (IntKind.u64.wrap ((IntKind.u64.wrap (2 * x365002_1)) + 1)), (by first | rfl | (simp; done) | (simp [*]; done)), (by first | rfl | (simp; done) | (simp [*]; done)), (by first | rfl | (simp; done) | (simp [*]; done)), H', ⟨by have := HK1.out; omega⟩, ⟨by (with_reducible repeat first | apply blk_drewN | apply blk_drew | apply blk_alloc); refine blk_far ?_ NB362_364.out _; (with_reducible repeat first | apply blk_drewN | apply blk_drew | apply blk_alloc); refine blk_far ?_ NB362_364.out _; (with_reducible repeat first | apply blk_drewN | apply blk_drew | apply blk_alloc); exact BK362.out⟩, ⟨by (with_reducible repeat first | apply blk_drewN | apply blk_drew | apply blk_alloc); refine blk_far ?_ NB363_364.out _; (with_reducible repeat first | apply blk_drewN | apply blk_drew | apply blk_alloc); refine blk_far ?_ NB363_364.out _; (with_reducible repeat first | apply blk_drewN | apply blk_drew | apply blk_alloc); exact BK363.out⟩, ⟨by (with_reducible repeat first | apply blk_drewN | apply blk_drew | apply blk_alloc); refine blk_put (cs := #[.bool a0_0, .int .u64 (IntKind.u64.wrap (Int.tdiv a0_1 a1)), .int .u64 (IntKind.u64.wrap (2 * x365002_1))]) ?_ 2 _ rfl; (with_reducible repeat first | apply blk_drewN | apply blk_drew | apply blk_alloc); refine blk_put (cs := #[.bool a0_0, .int .u64 (IntKind.u64.wrap (Int.tdiv a0_1 a1)), .int .u64 x365002_1]) ?_ 2 _ rfl; (with_reducible repeat first | apply blk_drewN | apply blk_drew | apply blk_alloc); exact BK364.out⟩, ⟨by repeat (first | (with_reducible first | exact HB.out | apply below_alloc | apply pw_below_drewN | apply below_drew1 | refine below_set ?_ (Aside0.out (by assumption))) | exact HB.out)⟩⟩
      ·rw [if_neg c22] at H
       have c22b0 : decide (a1 ≤ (IntKind.u64.wrap ((IntKind.u64.wrap (2 * x7_1)) + (IntKind.u64.wrap (Int.tdiv x8_1 9223372036854775808))))) = false := decide_eq_false c22; clear c22; have H' := Aside0.mk H; clear H; have hnb26 := NB364_362.out; have hnc26 := NB362_364.out; have hnb27 := NB364_363.out; have hnc27 := NB363_364.out; have hcz28_0 : wr.cell? ⟨gb364, 0, none⟩ = some (.bool a0_0) := (blk_cell BK364.out 0).trans rfl; have hcz28_1 : wr.cell? ⟨gb364, 1, none⟩ = some (.int .u64 (IntKind.u64.wrap (Int.tdiv a0_1 a1))) := (blk_cell BK364.out 1).trans rfl; have hcz28_2 : wr.cell? ⟨gb364, 2, none⟩ = some (.int .u64 x365002_1) := (blk_cell BK364.out 2).trans rfl; have hfz28_0 := blk_frozen BK364.out 0; have hfz28_1 := blk_frozen BK364.out 1; have hfz28_2 := blk_frozen BK364.out 2
       go_wp2
       go_roundg k1
       case measure => have := HK1.out; omega
       case rel => exact ⟨(IntKind.u64.wrap ((IntKind.u64.wrap (2 * x7_1)) + (IntKind.u64.wrap (Int.tdiv x8_1 9223372036854775808)))), (IntKind.u64.wrap (2 * x8_1)), (wrap64 (x10_1 + 1)), (IntKind.u64.wrap (2 * x365002_1)), (by first | rfl | (simp; done) | (simp [*]; done)), (by first | rfl | (simp; done) | (simp [*]; done)), (by first | rfl | (simp; done) | (simp [*]; done)), H', ⟨by have := HK1.out; omega⟩, ⟨by (with_reducible repeat first | apply blk_drewN | apply blk_drew | apply blk_alloc); refine blk_far ?_ NB362_364.out _; (with_reducible repeat first | apply blk_drewN | apply blk_drew | apply blk_alloc); exact BK362.out⟩, ⟨by (with_reducible repeat first | apply blk_drewN | apply blk_drew | apply blk_alloc); refine blk_far ?_ NB363_364.out _; (with_reducible repeat first | apply blk_drewN | apply blk_drew | apply blk_alloc); exact BK363.out⟩, ⟨by (with_reducible repeat first | apply blk_drewN | apply blk_drew | apply blk_alloc); refine blk_put (cs := #[.bool a0_0, .int .u64 (IntKind.u64.wrap (Int.tdiv a0_1 a1)), .int .u64 x365002_1]) ?_ 2 _ rfl; (with_reducible repeat first | apply blk_drewN | apply blk_drew | apply blk_alloc); exact BK364.out⟩, ⟨by repeat (first | (with_reducible first | exact HB.out | apply below_alloc | apply pw_below_drewN | apply below_drew1 | refine below_set ?_ (Aside0.out (by assumption))) | exact HB.out)⟩⟩
    ·rw [if_neg c17] at H
     have c17b0 : decide (x10_1 < 64) = false := decide_eq_false c17; clear c17; replace H := Option.bind_eq_some_iff.mp H; obtain ⟨⟨t365, t366, t367, t368⟩, A290, H⟩ := H; (try dsimp only at H); have A29 := Aside0.mk A290; clear A290; replace H := Option.bind_eq_some_iff.mp H; obtain ⟨⟨t369, t370, t371⟩, A300, H⟩ := H; replace H : (if a0_0 = true then (sawtoothref02_Div.j1 k1 a1 x7_1 (x7_1 == 0) t369 t370 t371) else (sawtoothref02_Div.j1 k1 a1 x7_1 true t369 t370 t371)) = some (r1, r2, r3, r4, r5) := H; have A30 := Aside0.mk A300; clear A300; have HC31 := Aside0.mk H; clear H
     try go_wp2
     replace BK362 := Aside0.mk (blk_drew BK362.out); replace BK363 := Aside0.mk (blk_drew BK363.out); replace BK364 := Aside0.mk (blk_drew BK364.out); replace HB := Aside0.mk (below_drew1 HB.out); refine start_ (n := 6) (S := fun w' => w'.cell? ⟨gb364, 0, none⟩ = some (.bool a0_0) ∧ w'.cell? ⟨gb364, 1, none⟩ = some (.int .u64 (IntKind.u64.wrap (Int.tdiv a0_1 a1))) ∧ w'.cell? ⟨gb364, 2, none⟩ = some (.int .u64 x365002_1)) (ds := [5]) #[N,N,N,N,N,N] (by kernel_rfl) rfl rfl ⟨(blk_cell BK364.out 0).trans rfl, (blk_cell BK364.out 1).trans rfl, (blk_cell BK364.out 2).trans rfl⟩ (fun hHeld => ?_)
     generalize wr.drew = w32 at BK362 BK363 BK364 HB hHeld ⊢
     refine pureA_ (i := 2) (N := some 62) #[N,N,Y,N,N,N] rfl rfl (by kernel_rfl) ?_
     refine take_ (i := 0) (N := some 60) (v := ?_) (a' := ?_) #[Y,N,Y,N,N,N] rfl rfl (by kernel_rfl) (fun _ _ _ h => h) (Or.inl ⟨by rfl, ?_⟩) hHeld ?_ ?_; rotate_left
     ·rintro w' ⟨s0, s1, s2⟩; go_simp
      with_reducible rfl
     rotate_left
     ·simp only [Act.put, sA, sB, sC, i64_w, i32_w]
      rfl
     refine take_ (i := 3) (N := some 63) (v := ?_) (a' := ?_) #[Y,N,Y,Y,N,N] rfl rfl (by kernel_rfl) (fun _ _ _ h => h) (Or.inl ⟨by rfl, ?_⟩) hHeld ?_ ?_; rotate_left
     ·rintro w' ⟨s0, s1, s2⟩; go_simp
      with_reducible rfl
     rotate_left
     ·simp only [Act.put, sA, sB, sC, i64_w, i32_w]
      rfl
     refine one_ (i := 1) (N := some 61) #[Y,Y,Y,Y,N,N] rfl rfl (by kernel_rfl) (by decide) (fun K hK => ?_); refine goesA_ Try.func26 rfl #[.agg #[.bool a0_0, .int .u64 (IntKind.u64.wrap (Int.tdiv a0_1 a1)), .int .u64 x365002_1]] (by rfl) rfl rfl ?_
     with_reducible refine (sawtoothref02_digits.calls a0_0 (IntKind.u64.wrap (Int.tdiv a0_1 a1)) x365002_1 t365 t366 t367 t368 _ A29.out).mono ?_
     rintro e w33 ⟨rfl, hb⟩; refine ⟨_, rfl, ?_⟩; replace BK362 := bbZ BK362 hb; replace BK363 := bbZ BK363 hb; replace BK364 := bbZ BK364 hb; replace HB := Aside0.mk (below_step HB.out hb); clear hb; refine hK.out _ _ ⟨(blk_cell BK364.out 0).trans rfl, (blk_cell BK364.out 1).trans rfl, (blk_cell BK364.out 2).trans rfl⟩ (fun hHeld => ?_); clear hK K; refine normA_ (some 61) ?_
     refine one_ (i := 4) (N := some 64) #[Y,Y,Y,Y,Y,N] rfl rfl (by kernel_rfl) (by decide) (fun K hK => ?_); refine goesA_ Try.func28 rfl #[.agg #[.int .u64 t365, .int .u64 t366, .int .u64 t367, .int .u64 t368], .bool a0_0] (by rfl) rfl rfl ?_
     with_reducible refine (sawtoothref02_wholeS.calls t365 t366 t367 t368 a0_0 t369 t370 t371 _ A30.out).mono ?_
     rintro e w34 ⟨rfl, hb⟩; refine ⟨_, rfl, ?_⟩; replace BK362 := bbZ BK362 hb; replace BK363 := bbZ BK363 hb; replace BK364 := bbZ BK364 hb; replace HB := Aside0.mk (below_step HB.out hb); clear hb; refine hK.out _ _ ⟨(blk_cell BK364.out 0).trans rfl, (blk_cell BK364.out 1).trans rfl, (blk_cell BK364.out 2).trans rfl⟩ (fun hHeld => ?_); clear hK K; refine normA_ (some 64) ?_
     refine last_ (i := 5) (N := none) #[Y,Y,Y,Y,Y,Y] rfl rfl (by kernel_rfl) (by decide) (fun K hK => ?_); have hs35 := czZ BK364 0 (.bool a0_0); have hfs35 := blk_frozen BK364.out 0; have hns35_0 := NB362_364.out; have hns35_1 := NB363_364.out; have hms35_0 := NB364_362.out; have hms35_1 := NB364_363.out; have hs36 : w34.cell? ⟨gb364, 1, none⟩ = some (.int .u64 (IntKind.u64.wrap (Int.tdiv a0_1 a1))) := (blk_cell BK364.out 1).trans rfl; have hfs36 := blk_frozen BK364.out 1; have hns36_0 := NB362_364.out; have hns36_1 := NB363_364.out; have hms36_0 := NB364_362.out; have hms36_1 := NB364_363.out; have hs37 := czZ BK364 2 (.int .u64 x365002_1); have hfs37 := blk_frozen BK364.out 2; have hns37_0 := NB362_364.out; have hns37_1 := NB363_364.out; have hms37_0 := NB364_362.out; have hms37_1 := NB364_363.out; refine skip_ (w1 := ?_) (by rfl) rfl ?_ ?_; rotate_left
     ·go_simp
      rfl
     refine hK.out _ _ ?_; clear hK K; refine done_ (by kernel_rfl) ?_
     go_upto_region 17 with (fail)
     go_cut [71] (fun v71 wc => ∃ (kq : Nat) (x71_30 : Bool), v71 = .bool x71_30 ∧ Aside0 (sawtoothref02_Div.j1 kq a1 x7_1 x71_30 t369 t370 t371 = some (r1, r2, r3, r4, r5)) ∧ Aside0 (kq ≤ k1) ∧ Aside0 (wc.heap[gb362]? = some (.cells #[.bool a0_0, .int .u64 a0_1, .int .u64 a0_2] 24 (0, 0))) ∧ Aside0 (wc.heap[gb363]? = some (.cells #[.bool false, .int .u64 0, .int .u64 0] 24 (0, 0))) ∧ Aside0 (wc.heap[gb364]? = some (.cells #[.bool t369, .int .u64 t370, .int .u64 t371] 24 (0, 0))) ∧ Aside0 (Below w.heap.size w wc))
     case first =>
      have H := HC31.out; clear HC31
      by_cases c38 : a0_0 = true
      ·subst c38
       have H1 : (sawtoothref02_Div.j1 k1 a1 x7_1 (x7_1 == 0) t369 t370 t371) = some (r1, r2, r3, r4, r5) := by rw [if_pos rfl] at H; exact H
       clear H; have H := H1; clear H1; have H' := Aside0.mk H; clear H; have hnb39 := NB362_363.out; have hnc39 := NB363_362.out; have hnb40 := NB362_364.out; have hnc40 := NB364_362.out; have hcz41_0 := czZ BK362 0 (.bool true); have hcz41_1 := czZ BK362 1 (.int .u64 a0_1); have hcz41_2 := czZ BK362 2 (.int .u64 a0_2); have hfz41_0 := blk_frozen BK362.out 0; have hfz41_1 := blk_frozen BK362.out 1; have hfz41_2 := blk_frozen BK362.out 2
       go_wp2
       go_meet
       case rel => exact ⟨_, ((x7_1 == 0)), (by first | rfl | (simp; done) | (simp [*]; done)), H', ⟨by have := HK1.out; first | omega | exact Nat.le_refl _⟩, ⟨by (with_reducible repeat first | apply blk_drewN | apply blk_drew | apply blk_alloc); refine blk_far ?_ NB362_364.out _; (with_reducible repeat first | apply blk_drewN | apply blk_drew | apply blk_alloc); refine blk_far ?_ NB362_364.out _; (with_reducible repeat first | apply blk_drewN | apply blk_drew | apply blk_alloc); refine blk_far ?_ NB362_364.out _; (with_reducible repeat first | apply blk_drewN | apply blk_drew | apply blk_alloc); exact BK362.out⟩, ⟨by (with_reducible repeat first | apply blk_drewN | apply blk_drew | apply blk_alloc); refine blk_far ?_ NB363_364.out _; (with_reducible repeat first | apply blk_drewN | apply blk_drew | apply blk_alloc); refine blk_far ?_ NB363_364.out _; (with_reducible repeat first | apply blk_drewN | apply blk_drew | apply blk_alloc); refine blk_far ?_ NB363_364.out _; (with_reducible repeat first | apply blk_drewN | apply blk_drew | apply blk_alloc); exact BK363.out⟩, ⟨by (with_reducible repeat first | apply blk_drewN | apply blk_drew | apply blk_alloc); refine blk_put (cs := #[.bool t369, .int .u64 t370, .int .u64 x365002_1]) ?_ 2 _ rfl; (with_reducible repeat first | apply blk_drewN | apply blk_drew | apply blk_alloc); refine blk_put (cs := #[.bool t369, .int .u64 (IntKind.u64.wrap (Int.tdiv a0_1 a1)), .int .u64 x365002_1]) ?_ 1 _ rfl; (with_reducible repeat first | apply blk_drewN | apply blk_drew | apply blk_alloc); refine blk_put (cs := #[.bool true, .int .u64 (IntKind.u64.wrap (Int.tdiv a0_1 a1)), .int .u64 x365002_1]) ?_ 0 _ rfl; (with_reducible repeat first | apply blk_drewN | apply blk_drew | apply blk_alloc); exact BK364.out⟩, ⟨by repeat (first | (with_reducible first | exact HB.out | apply below_alloc | apply pw_below_drewN | apply below_drew1 | refine below_set ?_ (Aside0.out (by assumption))) | exact HB.out)⟩⟩
      ·replace c38 := Bool.eq_false_iff.mpr c38
       subst c38
       have H1 : (sawtoothref02_Div.j1 k1 a1 x7_1 true t369 t370 t371) = some (r1, r2, r3, r4, r5) := by rw [if_neg (show ¬ (false = true) by decide)] at H; exact H
       clear H; have H := H1; clear H1; have H' := Aside0.mk H; clear H; have hnb42 := NB362_363.out; have hnc42 := NB363_362.out; have hnb43 := NB362_364.out; have hnc43 := NB364_362.out; have hcz44_0 := czZ BK362 0 (.bool false); have hcz44_1 := czZ BK362 1 (.int .u64 a0_1); have hcz44_2 := czZ BK362 2 (.int .u64 a0_2); have hfz44_0 := blk_frozen BK362.out 0; have hfz44_1 := blk_frozen BK362.out 1; have hfz44_2 := blk_frozen BK362.out 2
       go_wp2
       go_meet
       case rel => exact ⟨_, (true), (by first | rfl | (simp; done) | (simp [*]; done)), H', ⟨by have := HK1.out; first | omega | exact Nat.le_refl _⟩, ⟨by (with_reducible repeat first | apply blk_drewN | apply blk_drew | apply blk_alloc); refine blk_far ?_ NB362_364.out _; (with_reducible repeat first | apply blk_drewN | apply blk_drew | apply blk_alloc); refine blk_far ?_ NB362_364.out _; (with_reducible repeat first | apply blk_drewN | apply blk_drew | apply blk_alloc); refine blk_far ?_ NB362_364.out _; (with_reducible repeat first | apply blk_drewN | apply blk_drew | apply blk_alloc); exact BK362.out⟩, ⟨by (with_reducible repeat first | apply blk_drewN | apply blk_drew | apply blk_alloc); refine blk_far ?_ NB363_364.out _; (with_reducible repeat first | apply blk_drewN | apply blk_drew | apply blk_alloc); refine blk_far ?_ NB363_364.out _; (with_reducible repeat first | apply blk_drewN | apply blk_drew | apply blk_alloc); refine blk_far ?_ NB363_364.out _; (with_reducible repeat first | apply blk_drewN | apply blk_drew | apply blk_alloc); exact BK363.out⟩, ⟨by (with_reducible repeat first | apply blk_drewN | apply blk_drew | apply blk_alloc); refine blk_put (cs := #[.bool t369, .int .u64 t370, .int .u64 x365002_1]) ?_ 2 _ rfl; (with_reducible repeat first | apply blk_drewN | apply blk_drew | apply blk_alloc); refine blk_put (cs := #[.bool t369, .int .u64 (IntKind.u64.wrap (Int.tdiv a0_1 a1)), .int .u64 x365002_1]) ?_ 1 _ rfl; (with_reducible repeat first | apply blk_drewN | apply blk_drew | apply blk_alloc); refine blk_put (cs := #[.bool false, .int .u64 (IntKind.u64.wrap (Int.tdiv a0_1 a1)), .int .u64 x365002_1]) ?_ 0 _ rfl; (with_reducible repeat first | apply blk_drewN | apply blk_drew | apply blk_alloc); exact BK364.out⟩, ⟨by repeat (first | (with_reducible first | exact HB.out | apply below_alloc | apply pw_below_drewN | apply below_drew1 | refine below_set ?_ (Aside0.out (by assumption))) | exact HB.out)⟩⟩
     case rest =>
      clear HC31
      try clear c1
      try clear c2
      try clear p2
      try clear c3
      try clear c3b0
      try clear c3b1
      try clear c4
      try clear c6
      try clear p6
      try clear c10
      try clear c17
      try clear c17b0
      try clear c18
      try clear c18b0
      try clear c19
      try clear c20
      try clear c22
      try clear c22b0
      try clear c23
      try clear c24
      try clear c26
      try clear c27
      try clear c28
      try clear c38
      try clear c39
      try clear c40
      try clear c42
      try clear c43
      try clear hcz11_0
      try clear hcz11_1
      try clear hcz11_2
      try clear hcz21_0
      try clear hcz21_1
      try clear hcz21_2
      try clear hcz25_0
      try clear hcz25_1
      try clear hcz25_2
      try clear hcz28_0
      try clear hcz28_1
      try clear hcz28_2
      try clear hcz41_0
      try clear hcz41_1
      try clear hcz41_2
      try clear hcz44_0
      try clear hcz44_1
      try clear hcz44_2
      try clear hcz7_0
      try clear hcz7_1
      try clear hcz7_2
      try clear hfz11_0
      try clear hfz11_1
      try clear hfz11_2
      try clear hfz21_0
      try clear hfz21_1
      try clear hfz21_2
      try clear hfz25_0
      try clear hfz25_1
      try clear hfz25_2
      try clear hfz28_0
      try clear hfz28_1
      try clear hfz28_2
      try clear hfz41_0
      try clear hfz41_1
      try clear hfz41_2
      try clear hfz44_0
      try clear hfz44_1
      try clear hfz44_2
      try clear hfz7_0
      try clear hfz7_1
      try clear hfz7_2
      try clear p2
      obtain ⟨kq, x71_30, rfl, HA, HJ30, BK362, BK363, BK364, HB⟩ := hcut
      cases kq with
      | zero => exact absurd HA.out (by simp [sawtoothref02_Div.j1])
      | succ kj30 =>
       have H := HA.out; clear HA; simp only [sawtoothref02_Div.j1] at H
       by_cases c45 : x71_30 = true
       ·subst c45
        have H1 : (some (t369, t370, t371, x7_1, 0)) = some (r1, r2, r3, r4, r5) := by rw [if_pos rfl] at H; exact H
        clear H; have H := H1; clear H1; simp only [Option.some.injEq, Prod.mk.injEq] at H; obtain ⟨rfl, rfl, rfl, rfl, rfl⟩ := H; have hnb46 := NB364_362.out; have hnc46 := NB362_364.out; have hnb47 := NB364_363.out; have hnc47 := NB363_364.out; have hcz48_0 : wc.cell? ⟨gb364, 0, none⟩ = some (.bool t369) := (blk_cell BK364.out 0).trans rfl; have hcz48_1 : wc.cell? ⟨gb364, 1, none⟩ = some (.int .u64 t370) := (blk_cell BK364.out 1).trans rfl; have hcz48_2 : wc.cell? ⟨gb364, 2, none⟩ = some (.int .u64 t371) := (blk_cell BK364.out 2).trans rfl; have hfz48_0 := blk_frozen BK364.out 0; have hfz48_1 := blk_frozen BK364.out 1; have hfz48_2 := blk_frozen BK364.out 2; have hnb49 := NB363_362.out; have hnc49 := NB362_363.out; have hcz50_0 : wc.cell? ⟨gb363, 0, none⟩ = some (.bool false) := (blk_cell BK363.out 0).trans rfl; have hcz50_1 : wc.cell? ⟨gb363, 1, none⟩ = some (.int .u64 0) := (blk_cell BK363.out 1).trans rfl; have hcz50_2 : wc.cell? ⟨gb363, 2, none⟩ = some (.int .u64 0) := (blk_cell BK363.out 2).trans rfl; have hfz50_0 := blk_frozen BK363.out 0; have hfz50_1 := blk_frozen BK363.out 1; have hfz50_2 := blk_frozen BK363.out 2
        go_wp2
        refine bodyPost_ret (results_ctt rfl _ _ gb363 24 #[.bool t369, .int .u64 t370, .int .u64 t371] (0, 0) _ rfl (by (with_reducible repeat first | apply blk_drewN | apply blk_drew | apply blk_alloc); refine blk_put (cs := #[.bool t369, .int .u64 t370, .int .u64 0]) ?_ 2 _ rfl; (with_reducible repeat first | apply blk_drewN | apply blk_drew | apply blk_alloc); refine blk_put (cs := #[.bool t369, .int .u64 0, .int .u64 0]) ?_ 1 _ rfl; (with_reducible repeat first | apply blk_drewN | apply blk_drew | apply blk_alloc); refine blk_put (cs := #[.bool false, .int .u64 0, .int .u64 0]) ?_ 0 _ rfl; (with_reducible repeat first | apply blk_drewN | apply blk_drew | apply blk_alloc); exact BK363.out) Try.underlying24 rfl (by kernel_rfl)) rfl ?_; exact ⟨by first | rfl | (simp [errW_none, errW_some] <;> rfl) | (simp [*, errW_none, errW_some] <;> rfl), by repeat (first | (with_reducible first | exact HB.out | apply below_alloc | apply pw_below_drewN | apply below_drew1 | refine below_set ?_ (Aside0.out (by assumption))) | exact HB.out)⟩
       ·replace c45 := Bool.eq_false_iff.mpr c45
        subst c45
        have H1 : ((sawtoothref02_OfS.f (-1)).bind fun bt372 => ((sawtoothref02_AddS.f true t370 t371 bt372.1 bt372.2.1 bt372.2.2).bind fun bt375 => (if bt375.2.2.2 = 0 then (some (bt375.1, bt375.2.1, bt375.2.2.1, IntKind.u64.wrap (a1 - x7_1), 0)) else (some (false, 0, 0, 0, bt375.2.2.2))))) = some (r1, r2, r3, r4, r5) := by rw [if_neg (show ¬ (false = true) by decide)] at H; exact H
        clear H; have H := H1; clear H1; replace H := Option.bind_eq_some_iff.mp H; obtain ⟨⟨t372, t373, t374⟩, A510, H⟩ := H; (try dsimp only at H); have A51 := Aside0.mk A510; clear A510; replace H := Option.bind_eq_some_iff.mp H; obtain ⟨⟨t375, t376, t377, t378⟩, A520, H⟩ := H; replace H : (if t378 = 0 then (some (t375, t376, t377, IntKind.u64.wrap (a1 - x7_1), 0)) else (some (false, 0, 0, 0, t378))) = some (r1, r2, r3, r4, r5) := H; have A52 := Aside0.mk A520; clear A520
        by_cases c53 : t378 = 0
        ·rw [if_pos c53] at H
         have c53b0 : (t378 == 0) = true := beq_iff_eq.mpr c53; have c53b1 : (t378 != 0) = false := bne_eq_false_iff_eq.mpr c53; clear c53; simp only [Option.some.injEq, Prod.mk.injEq] at H; obtain ⟨rfl, rfl, rfl, rfl, rfl⟩ := H; have hnb54 := NB364_362.out; have hnc54 := NB362_364.out; have hnb55 := NB364_363.out; have hnc55 := NB363_364.out; have hcz56_0 : wc.cell? ⟨gb364, 0, none⟩ = some (.bool t369) := (blk_cell BK364.out 0).trans rfl; have hcz56_1 : wc.cell? ⟨gb364, 1, none⟩ = some (.int .u64 t370) := (blk_cell BK364.out 1).trans rfl; have hcz56_2 : wc.cell? ⟨gb364, 2, none⟩ = some (.int .u64 t371) := (blk_cell BK364.out 2).trans rfl; have hfz56_0 := blk_frozen BK364.out 0; have hfz56_1 := blk_frozen BK364.out 1; have hfz56_2 := blk_frozen BK364.out 2
         try go_wp2
         have n0_ : Aside0 ((wc.setCell ⟨gb364, 0, none⟩ (.bool true)).heap[gb362]? = some (.cells #[.bool a0_0, .int .u64 a0_1, .int .u64 a0_2] 24 (0, 0))) := ⟨by (with_reducible repeat first | apply blk_drewN | apply blk_drew | apply blk_alloc); refine blk_far ?_ NB362_364.out _; (with_reducible repeat first | apply blk_drewN | apply blk_drew | apply blk_alloc); exact BK362.out⟩
         have n1_ : Aside0 ((wc.setCell ⟨gb364, 0, none⟩ (.bool true)).heap[gb363]? = some (.cells #[.bool false, .int .u64 0, .int .u64 0] 24 (0, 0))) := ⟨by (with_reducible repeat first | apply blk_drewN | apply blk_drew | apply blk_alloc); refine blk_far ?_ NB363_364.out _; (with_reducible repeat first | apply blk_drewN | apply blk_drew | apply blk_alloc); exact BK363.out⟩
         have n2_ : Aside0 ((wc.setCell ⟨gb364, 0, none⟩ (.bool true)).heap[gb364]? = some (.cells #[.bool true, .int .u64 t370, .int .u64 t371] 24 (0, 0))) := ⟨by (with_reducible repeat first | apply blk_drewN | apply blk_drew | apply blk_alloc); refine blk_put (cs := #[.bool t369, .int .u64 t370, .int .u64 t371]) ?_ 0 _ rfl; (with_reducible repeat first | apply blk_drewN | apply blk_drew | apply blk_alloc); exact BK364.out⟩
         have n3_ : Aside0 (Below w.heap.size w (wc.setCell ⟨gb364, 0, none⟩ (.bool true))) := ⟨by repeat (first | (with_reducible first | exact HB.out | apply below_alloc | apply pw_below_drewN | apply below_drew1 | refine below_set ?_ (Aside0.out (by assumption))) | exact HB.out)⟩
         (try clear BK362); (try clear BK363); (try clear BK364); (try clear HB)
         generalize (wc.setCell ⟨gb364, 0, none⟩ (.bool true)) = w57 at n0_ n1_ n2_ n3_ ⊢
         have BK362 := n0_; have BK363 := n1_; have BK364 := n2_; have HB := n3_; clear n0_ n1_ n2_ n3_; replace BK362 := Aside0.mk (blk_drew BK362.out); replace BK363 := Aside0.mk (blk_drew BK363.out); replace BK364 := Aside0.mk (blk_drew BK364.out); replace HB := Aside0.mk (below_drew1 HB.out); refine start_ (n := 9) (S := fun w' => w'.cell? ⟨gb364, 0, none⟩ = some (.bool true) ∧ w'.cell? ⟨gb364, 1, none⟩ = some (.int .u64 t370) ∧ w'.cell? ⟨gb364, 2, none⟩ = some (.int .u64 t371)) (ds := []) #[N,N,N,N,N,N,N,N,N] (by kernel_rfl) rfl rfl ⟨(blk_cell BK364.out 0).trans rfl, (blk_cell BK364.out 1).trans rfl, (blk_cell BK364.out 2).trans rfl⟩ (fun hHeld => ?_); refine with_tabW sawtoothref02_Div.tab20 sawtoothref02_Div.bits20 (fun HT_ HW_ => ?_)
         generalize w57.drew = w58 at BK362 BK363 BK364 HB hHeld ⊢
         refine take_ (i := 0) (N := some 76) (v := ?_) (a' := ?_) #[Y,N,N,N,N,N,N,N,N] rfl rfl (take_ofW HT_.out HW_.out (by kernel_rfl)) (fun _ _ _ h => h) (Or.inl ⟨by rfl, ?_⟩) hHeld ?_ ?_; rotate_left
         ·rintro w' ⟨s0, s1, s2⟩; go_simp
          with_reducible rfl
         rotate_left
         ·simp only [Act.put, sA, sB, sC, i64_w, i32_w]
          rfl
         refine join_ (σ := Nat) 2 #[Y,Y,Y,Y,Y,Y,Y,N,N] (fun s_ => [(77, .agg #[.bool t372, .int .u64 t373, .int .u64 t374]), (78, .tuple #[.agg #[.bool t375, .int .u64 t376, .int .u64 t377], .int .i64 t378]), (12, .pointer (some ⟨s_, 0, none⟩)), (75, .tuple #[.agg #[.bool t375, .int .u64 t376, .int .u64 t377], .int .i64 t378]), (79, .agg #[.bool t375, .int .u64 t376, .int .u64 t377]), (80, .int .i64 t378)]) (fun s_ w' => (w'.cell? ⟨gb364, 0, none⟩ = some (.bool true) ∧ w'.cell? ⟨gb364, 1, none⟩ = some (.int .u64 t370) ∧ w'.cell? ⟨gb364, 2, none⟩ = some (.int .u64 t371)) ∧ (w'.heap[gb362]? = some (.cells #[.bool a0_0, .int .u64 a0_1, .int .u64 a0_2] 24 (0, 0))) ∧ (w'.heap[gb363]? = some (.cells #[.bool false, .int .u64 0, .int .u64 0] 24 (0, 0))) ∧ (w'.heap[gb364]? = some (.cells #[.bool true, .int .u64 t370, .int .u64 t371] 24 (0, 0))) ∧ (w'.heap[s_]? = some (.cells #[.bool false, .int .u64 0, .int .u64 0] 24 (0, 0))) ∧ (w.heap.size ≤ s_) ∧ (w.heap.size ≤ s_) ∧ (gb362 ≠ s_) ∧ (s_ ≠ gb362) ∧ (gb363 ≠ s_) ∧ (s_ ≠ gb363) ∧ (gb364 ≠ s_) ∧ (s_ ≠ gb364) ∧ (Below w.heap.size w w')) ?_ ?_; rotate_left
         ·intro hCont; refine two_ (i := 1) (j := 6) (Ni := some 77) (Nj := some 12) #[Y,Y,N,N,N,N,N,N,N] #[Y,N,N,N,N,N,Y,N,N] rfl rfl rfl rfl (two_of HT_.out (by kernel_rfl)) (by decide) (by decide) (fun K hK => ?_) (fun K hK => ?_)
          ·skip
           refine goesA_ Try.func12 rfl #[.int .i64 (-1)] (by rfl) rfl rfl ?_
           with_reducible refine (sawtoothref02_OfS.calls (-1) t372 t373 t374 _ A51.out).mono ?_
           rintro e w59 ⟨rfl, hb⟩; refine ⟨_, rfl, ?_⟩; replace BK362 := bbZ BK362 hb; replace BK363 := bbZ BK363 hb; replace BK364 := bbZ BK364 hb; replace HB := Aside0.mk (below_step HB.out hb); clear hb; refine hK.out _ _ ⟨(blk_cell BK364.out 0).trans rfl, (blk_cell BK364.out 1).trans rfl, (blk_cell BK364.out 2).trans rfl⟩ (fun hHeld => ?_); clear hK K; refine normA_ (some 77) ?_
           refine two_ (i := 2) (j := 6) (Ni := some 78) (Nj := some 12) #[Y,Y,Y,N,N,N,N,N,N] #[Y,Y,N,N,N,N,Y,N,N] rfl rfl rfl rfl (two_of HT_.out (by kernel_rfl)) (by decide) (by decide) (fun K hK => ?_) (fun K hK => ?_)
           ·skip
            refine goesA_ Try.func6 rfl #[.agg #[.bool true, .int .u64 t370, .int .u64 t371], .agg #[.bool t372, .int .u64 t373, .int .u64 t374]] (by rfl) rfl rfl ?_
            with_reducible refine (sawtoothref02_AddS.calls true t370 t371 t372 t373 t374 t375 t376 t377 t378 _ A52.out).mono ?_
            rintro e w60 ⟨rfl, hb⟩; refine ⟨_, rfl, ?_⟩; replace BK362 := bbZ BK362 hb; replace BK363 := bbZ BK363 hb; replace BK364 := bbZ BK364 hb; replace HB := Aside0.mk (below_step HB.out hb); clear hb; refine hK.out _ _ ⟨(blk_cell BK364.out 0).trans rfl, (blk_cell BK364.out 1).trans rfl, (blk_cell BK364.out 2).trans rfl⟩ (fun hHeld => ?_); clear hK K; refine normA_ (some 78) ?_
            refine pureA_ (i := 3) (N := some 75) #[Y,Y,Y,Y,N,N,N,N,N] rfl rfl (any_of HT_.out (by kernel_rfl)) ?_
            refine pureA_ (i := 4) (N := some 79) #[Y,Y,Y,Y,Y,N,N,N,N] rfl rfl (any_of HT_.out (by kernel_rfl)) ?_
            refine pureA_ (i := 5) (N := some 80) #[Y,Y,Y,Y,Y,Y,N,N,N] rfl rfl (any_of HT_.out (by kernel_rfl)) ?_
            refine one_ (i := 6) (N := some 12) #[Y,Y,Y,Y,Y,Y,Y,N,N] rfl rfl (one_of HT_.out (by kernel_rfl)) (by decide) (fun K hK => ?_); refine box_step ?hg (N := 12) ?hd (cs := #[.bool false, .int .u64 0, .int .u64 0]) (t := 24) ?hr ?_; (case hd => rfl); (case hg => rfl); (case hr => first | (go_simp; done) | (go_simp; rfl)); intro gb379 hg w61 hbox hb; have BK379 := Aside0.mk (hbox); have GW379 := szZ HB hg; have GE379 := szZ HB hg; have NB362_379 := nlZ BK362 hg; have NB379_362 := ngZ BK362 hg; have NB363_379 := nlZ BK363 hg; have NB379_363 := ngZ BK363 hg; have NB364_379 := nlZ BK364 hg; have NB379_364 := ngZ BK364 hg; replace BK362 := bbZ BK362 hb; replace BK363 := bbZ BK363 hb; replace BK364 := bbZ BK364 hb; replace HB := Aside0.mk (below_step HB.out hb); clear hb hbox hg; refine hK.out _ _ ⟨(blk_cell BK364.out 0).trans rfl, (blk_cell BK364.out 1).trans rfl, (blk_cell BK364.out 2).trans rfl⟩ (fun hHeld => ?_); clear hK K; refine normA_ (some 12) ?_
            exact norm_ (by simp only [putAll, Act.put, sA, sB, sC]) (hCont (gb379) _ ⟨hHeld, BK362.out, BK363.out, BK364.out, BK379.out, GW379.out, GE379.out, NB362_379.out, NB379_362.out, NB363_379.out, NB379_363.out, NB364_379.out, NB379_364.out, (by repeat (first | (with_reducible first | exact HB.out | apply below_alloc | apply pw_below_drewN | apply below_drew1 | refine below_set ?_ (Aside0.out (by assumption))) | exact HB.out))⟩)
           ·skip
            refine box_step ?hg (N := 12) ?hd (cs := #[.bool false, .int .u64 0, .int .u64 0]) (t := 24) ?hr ?_; (case hd => rfl); (case hg => rfl); (case hr => first | (go_simp; done) | (go_simp; rfl)); intro gb379 hg w60 hbox hb; have BK379 := Aside0.mk (hbox); have GW379 := szZ HB hg; have GE379 := szZ HB hg; have NB362_379 := nlZ BK362 hg; have NB379_362 := ngZ BK362 hg; have NB363_379 := nlZ BK363 hg; have NB379_363 := ngZ BK363 hg; have NB364_379 := nlZ BK364 hg; have NB379_364 := ngZ BK364 hg; replace BK362 := bbZ BK362 hb; replace BK363 := bbZ BK363 hb; replace BK364 := bbZ BK364 hb; replace HB := Aside0.mk (below_step HB.out hb); clear hb hbox hg; refine hK.out _ _ ⟨(blk_cell BK364.out 0).trans rfl, (blk_cell BK364.out 1).trans rfl, (blk_cell BK364.out 2).trans rfl⟩ (fun hHeld => ?_); clear hK K; refine normA_ (some 12) ?_
            refine one_ (i := 2) (N := some 78) #[Y,Y,Y,N,N,N,Y,N,N] rfl rfl (one_of HT_.out (by kernel_rfl)) (by decide) (fun K hK => ?_); refine goesA_ Try.func6 rfl #[.agg #[.bool true, .int .u64 t370, .int .u64 t371], .agg #[.bool t372, .int .u64 t373, .int .u64 t374]] (by rfl) rfl rfl ?_
            with_reducible refine (sawtoothref02_AddS.calls true t370 t371 t372 t373 t374 t375 t376 t377 t378 _ A52.out).mono ?_
            rintro e w61 ⟨rfl, hb⟩; refine ⟨_, rfl, ?_⟩; replace BK362 := bbZ BK362 hb; replace BK363 := bbZ BK363 hb; replace BK364 := bbZ BK364 hb; replace BK379 := bbZ BK379 hb; replace HB := Aside0.mk (below_step HB.out hb); clear hb; refine hK.out _ _ ⟨(blk_cell BK364.out 0).trans rfl, (blk_cell BK364.out 1).trans rfl, (blk_cell BK364.out 2).trans rfl⟩ (fun hHeld => ?_); clear hK K; refine normA_ (some 78) ?_
            refine pureA_ (i := 3) (N := some 75) #[Y,Y,Y,Y,N,N,Y,N,N] rfl rfl (any_of HT_.out (by kernel_rfl)) ?_
            refine pureA_ (i := 4) (N := some 79) #[Y,Y,Y,Y,Y,N,Y,N,N] rfl rfl (any_of HT_.out (by kernel_rfl)) ?_
            refine pureA_ (i := 5) (N := some 80) #[Y,Y,Y,Y,Y,Y,Y,N,N] rfl rfl (any_of HT_.out (by kernel_rfl)) ?_
            exact norm_ (by simp only [putAll, Act.put, sA, sB, sC]) (hCont (gb379) _ ⟨hHeld, BK362.out, BK363.out, BK364.out, BK379.out, GW379.out, GE379.out, NB362_379.out, NB379_362.out, NB363_379.out, NB379_363.out, NB364_379.out, NB379_364.out, (by repeat (first | (with_reducible first | exact HB.out | apply below_alloc | apply pw_below_drewN | apply below_drew1 | refine below_set ?_ (Aside0.out (by assumption))) | exact HB.out))⟩)
          ·skip
           refine box_step ?hg (N := 12) ?hd (cs := #[.bool false, .int .u64 0, .int .u64 0]) (t := 24) ?hr ?_; (case hd => rfl); (case hg => rfl); (case hr => first | (go_simp; done) | (go_simp; rfl)); intro gb379 hg w59 hbox hb; have BK379 := Aside0.mk (hbox); have GW379 := szZ HB hg; have GE379 := szZ HB hg; have NB362_379 := nlZ BK362 hg; have NB379_362 := ngZ BK362 hg; have NB363_379 := nlZ BK363 hg; have NB379_363 := ngZ BK363 hg; have NB364_379 := nlZ BK364 hg; have NB379_364 := ngZ BK364 hg; replace BK362 := bbZ BK362 hb; replace BK363 := bbZ BK363 hb; replace BK364 := bbZ BK364 hb; replace HB := Aside0.mk (below_step HB.out hb); clear hb hbox hg; refine hK.out _ _ ⟨(blk_cell BK364.out 0).trans rfl, (blk_cell BK364.out 1).trans rfl, (blk_cell BK364.out 2).trans rfl⟩ (fun hHeld => ?_); clear hK K; refine normA_ (some 12) ?_
           refine one_ (i := 1) (N := some 77) #[Y,Y,N,N,N,N,Y,N,N] rfl rfl (one_of HT_.out (by kernel_rfl)) (by decide) (fun K hK => ?_); refine goesA_ Try.func12 rfl #[.int .i64 (-1)] (by rfl) rfl rfl ?_
           with_reducible refine (sawtoothref02_OfS.calls (-1) t372 t373 t374 _ A51.out).mono ?_
           rintro e w60 ⟨rfl, hb⟩; refine ⟨_, rfl, ?_⟩; replace BK362 := bbZ BK362 hb; replace BK363 := bbZ BK363 hb; replace BK364 := bbZ BK364 hb; replace BK379 := bbZ BK379 hb; replace HB := Aside0.mk (below_step HB.out hb); clear hb; refine hK.out _ _ ⟨(blk_cell BK364.out 0).trans rfl, (blk_cell BK364.out 1).trans rfl, (blk_cell BK364.out 2).trans rfl⟩ (fun hHeld => ?_); clear hK K; refine normA_ (some 77) ?_
           refine one_ (i := 2) (N := some 78) #[Y,Y,Y,N,N,N,Y,N,N] rfl rfl (one_of HT_.out (by kernel_rfl)) (by decide) (fun K hK => ?_); refine goesA_ Try.func6 rfl #[.agg #[.bool true, .int .u64 t370, .int .u64 t371], .agg #[.bool t372, .int .u64 t373, .int .u64 t374]] (by rfl) rfl rfl ?_
           with_reducible refine (sawtoothref02_AddS.calls true t370 t371 t372 t373 t374 t375 t376 t377 t378 _ A52.out).mono ?_
           rintro e w61 ⟨rfl, hb⟩; refine ⟨_, rfl, ?_⟩; replace BK362 := bbZ BK362 hb; replace BK363 := bbZ BK363 hb; replace BK364 := bbZ BK364 hb; replace BK379 := bbZ BK379 hb; replace HB := Aside0.mk (below_step HB.out hb); clear hb; refine hK.out _ _ ⟨(blk_cell BK364.out 0).trans rfl, (blk_cell BK364.out 1).trans rfl, (blk_cell BK364.out 2).trans rfl⟩ (fun hHeld => ?_); clear hK K; refine normA_ (some 78) ?_
           refine pureA_ (i := 3) (N := some 75) #[Y,Y,Y,Y,N,N,Y,N,N] rfl rfl (any_of HT_.out (by kernel_rfl)) ?_
           refine pureA_ (i := 4) (N := some 79) #[Y,Y,Y,Y,Y,N,Y,N,N] rfl rfl (any_of HT_.out (by kernel_rfl)) ?_
           refine pureA_ (i := 5) (N := some 80) #[Y,Y,Y,Y,Y,Y,Y,N,N] rfl rfl (any_of HT_.out (by kernel_rfl)) ?_
           exact norm_ (by simp only [putAll, Act.put, sA, sB, sC]) (hCont (gb379) _ ⟨hHeld, BK362.out, BK363.out, BK364.out, BK379.out, GW379.out, GE379.out, NB362_379.out, NB379_362.out, NB363_379.out, NB379_363.out, NB364_379.out, NB379_364.out, (by repeat (first | (with_reducible first | exact HB.out | apply below_alloc | apply pw_below_drewN | apply below_drew1 | refine below_set ?_ (Aside0.out (by assumption))) | exact HB.out))⟩)
         rintro gb379 w62 ⟨hS_, h0_, h1_, h2_, h3_, h4_, h5_, h6_, h7_, h8_, h9_, h10_, h11_, h12_⟩; have BK379 := Aside0.mk h3_; have GW379 := Aside0.mk h4_; have GE379 := Aside0.mk h5_; have NB362_379 := Aside0.mk h6_; have NB379_362 := Aside0.mk h7_; have NB363_379 := Aside0.mk h8_; have NB379_363 := Aside0.mk h9_; have NB364_379 := Aside0.mk h10_; have NB379_364 := Aside0.mk h11_; replace BK362 := Aside0.mk h0_; replace BK363 := Aside0.mk h1_; replace BK364 := Aside0.mk h2_; replace HB := Aside0.mk h12_; clear h0_ h1_ h2_ h3_ h4_ h5_ h6_ h7_ h8_ h9_ h10_ h11_ h12_; have hHeld : w62.cell? ⟨gb364, 0, none⟩ = some (.bool true) ∧ w62.cell? ⟨gb364, 1, none⟩ = some (.int .u64 t370) ∧ w62.cell? ⟨gb364, 2, none⟩ = some (.int .u64 t371) := hS_; refine norm_ (a' := ?_) ?_ ?_; rotate_left
         ·simp only [putAll, Act.put, sA, sB, sC]
          rfl
         refine one_ (i := 7) (N := none) #[Y,Y,Y,Y,Y,Y,Y,Y,N] rfl rfl (one_of HT_.out (by kernel_rfl)) (by decide) (fun K hK => ?_); have hs63 := czZ BK379 0 (.bool false); have hfs63 := blk_frozen BK379.out 0; have hns63_0 := NB362_379.out; have hns63_1 := NB363_379.out; have hns63_2 := NB364_379.out; have hms63_0 := NB379_362.out; have hms63_1 := NB379_363.out; have hms63_2 := NB379_364.out; have hs64 := czZ BK379 1 (.int .u64 0); have hfs64 := blk_frozen BK379.out 1; have hns64_0 := NB362_379.out; have hns64_1 := NB363_379.out; have hns64_2 := NB364_379.out; have hms64_0 := NB379_362.out; have hms64_1 := NB379_363.out; have hms64_2 := NB379_364.out; have hs65 := czZ BK379 2 (.int .u64 0); have hfs65 := blk_frozen BK379.out 2; have hns65_0 := NB362_379.out; have hns65_1 := NB363_379.out; have hns65_2 := NB364_379.out; have hms65_0 := NB379_362.out; have hms65_1 := NB379_363.out; have hms65_2 := NB379_364.out; refine skip_ (w1 := ?_) (by rfl) rfl ?_ ?_; rotate_left
         ·go_simp
          rfl
         refine hK.out _ _ ⟨((cell_far (p := ⟨gb379, _, none⟩) NB364_379.out _).trans (((cell_far (p := ⟨gb379, _, none⟩) NB364_379.out _).trans (((cell_far (p := ⟨gb379, _, none⟩) NB364_379.out _).trans (hHeld.1)))))), ((cell_far (p := ⟨gb379, _, none⟩) NB364_379.out _).trans (((cell_far (p := ⟨gb379, _, none⟩) NB364_379.out _).trans (((cell_far (p := ⟨gb379, _, none⟩) NB364_379.out _).trans (hHeld.2.1)))))), ((cell_far (p := ⟨gb379, _, none⟩) NB364_379.out _).trans (((cell_far (p := ⟨gb379, _, none⟩) NB364_379.out _).trans (((cell_far (p := ⟨gb379, _, none⟩) NB364_379.out _).trans (hHeld.2.2))))))⟩ (fun hHeld => ?_); clear hK K; refine pureA_ (i := 8) (N := some 13) #[Y,Y,Y,Y,Y,Y,Y,Y,Y] rfl rfl (any_of HT_.out (by kernel_rfl)) ?_
         refine done_ (done_of HT_.out (by kernel_rfl)) ?_; have hnb66 := NB379_362.out; have hnc66 := NB362_379.out; have hnb67 := NB379_363.out; have hnc67 := NB363_379.out; have hnb68 := NB379_364.out; have hnc68 := NB364_379.out; have hcz69_0 := czZ BK379 0 (.bool false); have hcz69_1 := czZ BK379 1 (.int .u64 0); have hcz69_2 := czZ BK379 2 (.int .u64 0); have hfz69_0 := blk_frozen BK379.out 0; have hfz69_1 := blk_frozen BK379.out 1; have hfz69_2 := blk_frozen BK379.out 2; have hnb70 := NB363_362.out; have hnc70 := NB362_363.out; have hcz71_0 := czZ BK363 0 (.bool false); have hcz71_1 := czZ BK363 1 (.int .u64 0); have hcz71_2 := czZ BK363 2 (.int .u64 0); have hfz71_0 := blk_frozen BK363.out 0; have hfz71_1 := blk_frozen BK363.out 1; have hfz71_2 := blk_frozen BK363.out 2
         try go_wp2
         refine bodyPost_ret (results_ctt rfl _ _ gb363 24 #[.bool t375, .int .u64 t376, .int .u64 t377] (0, 0) _ rfl (by (with_reducible repeat first | apply blk_drewN | apply blk_drew | apply blk_alloc); refine blk_put (cs := #[.bool t375, .int .u64 t376, .int .u64 0]) ?_ 2 _ rfl; (with_reducible repeat first | apply blk_drewN | apply blk_drew | apply blk_alloc); refine blk_put (cs := #[.bool t375, .int .u64 0, .int .u64 0]) ?_ 1 _ rfl; (with_reducible repeat first | apply blk_drewN | apply blk_drew | apply blk_alloc); refine blk_put (cs := #[.bool false, .int .u64 0, .int .u64 0]) ?_ 0 _ rfl; (with_reducible repeat first | apply blk_drewN | apply blk_drew | apply blk_alloc); refine blk_far ?_ NB363_379.out _; (with_reducible repeat first | apply blk_drewN | apply blk_drew | apply blk_alloc); refine blk_far ?_ NB363_379.out _; (with_reducible repeat first | apply blk_drewN | apply blk_drew | apply blk_alloc); refine blk_far ?_ NB363_379.out _; (with_reducible repeat first | apply blk_drewN | apply blk_drew | apply blk_alloc); exact BK363.out) Try.underlying24 rfl (by kernel_rfl)) rfl ?_; exact ⟨by first | rfl | (simp [errW_none, errW_some] <;> rfl) | (simp [*, errW_none, errW_some] <;> rfl), by repeat (first | (with_reducible first | exact HB.out | apply below_alloc | apply pw_below_drewN | apply below_drew1 | refine below_set ?_ (Aside0.out (by assumption))) | exact HB.out)⟩
        ·rw [if_neg c53] at H
         have c53b0 : (t378 == 0) = false := beq_eq_false_iff_ne.mpr c53; have c53b1 : (t378 != 0) = true := bne_iff_ne.mpr c53; simp only [Option.some.injEq, Prod.mk.injEq] at H; obtain ⟨rfl, rfl, rfl, rfl, rfl⟩ := H; have hnb72 := NB364_362.out; have hnc72 := NB362_364.out; have hnb73 := NB364_363.out; have hnc73 := NB363_364.out; have hcz74_0 : wc.cell? ⟨gb364, 0, none⟩ = some (.bool t369) := (blk_cell BK364.out 0).trans rfl; have hcz74_1 : wc.cell? ⟨gb364, 1, none⟩ = some (.int .u64 t370) := (blk_cell BK364.out 1).trans rfl; have hcz74_2 : wc.cell? ⟨gb364, 2, none⟩ = some (.int .u64 t371) := (blk_cell BK364.out 2).trans rfl; have hfz74_0 := blk_frozen BK364.out 0; have hfz74_1 := blk_frozen BK364.out 1; have hfz74_2 := blk_frozen BK364.out 2
         try go_wp2
         have n0_ : Aside0 ((wc.setCell ⟨gb364, 0, none⟩ (.bool true)).heap[gb362]? = some (.cells #[.bool a0_0, .int .u64 a0_1, .int .u64 a0_2] 24 (0, 0))) := ⟨by (with_reducible repeat first | apply blk_drewN | apply blk_drew | apply blk_alloc); refine blk_far ?_ NB362_364.out _; (with_reducible repeat first | apply blk_drewN | apply blk_drew | apply blk_alloc); exact BK362.out⟩
         have n1_ : Aside0 ((wc.setCell ⟨gb364, 0, none⟩ (.bool true)).heap[gb363]? = some (.cells #[.bool false, .int .u64 0, .int .u64 0] 24 (0, 0))) := ⟨by (with_reducible repeat first | apply blk_drewN | apply blk_drew | apply blk_alloc); refine blk_far ?_ NB363_364.out _; (with_reducible repeat first | apply blk_drewN | apply blk_drew | apply blk_alloc); exact BK363.out⟩
         have n2_ : Aside0 ((wc.setCell ⟨gb364, 0, none⟩ (.bool true)).heap[gb364]? = some (.cells #[.bool true, .int .u64 t370, .int .u64 t371] 24 (0, 0))) := ⟨by (with_reducible repeat first | apply blk_drewN | apply blk_drew | apply blk_alloc); refine blk_put (cs := #[.bool t369, .int .u64 t370, .int .u64 t371]) ?_ 0 _ rfl; (with_reducible repeat first | apply blk_drewN | apply blk_drew | apply blk_alloc); exact BK364.out⟩
         have n3_ : Aside0 (Below w.heap.size w (wc.setCell ⟨gb364, 0, none⟩ (.bool true))) := ⟨by repeat (first | (with_reducible first | exact HB.out | apply below_alloc | apply pw_below_drewN | apply below_drew1 | refine below_set ?_ (Aside0.out (by assumption))) | exact HB.out)⟩
         (try clear BK362); (try clear BK363); (try clear BK364); (try clear HB)
         generalize (wc.setCell ⟨gb364, 0, none⟩ (.bool true)) = w75 at n0_ n1_ n2_ n3_ ⊢
         have BK362 := n0_; have BK363 := n1_; have BK364 := n2_; have HB := n3_; clear n0_ n1_ n2_ n3_; replace BK362 := Aside0.mk (blk_drew BK362.out); replace BK363 := Aside0.mk (blk_drew BK363.out); replace BK364 := Aside0.mk (blk_drew BK364.out); replace HB := Aside0.mk (below_drew1 HB.out); refine start_ (n := 9) (S := fun w' => w'.cell? ⟨gb364, 0, none⟩ = some (.bool true) ∧ w'.cell? ⟨gb364, 1, none⟩ = some (.int .u64 t370) ∧ w'.cell? ⟨gb364, 2, none⟩ = some (.int .u64 t371)) (ds := []) #[N,N,N,N,N,N,N,N,N] (by kernel_rfl) rfl rfl ⟨(blk_cell BK364.out 0).trans rfl, (blk_cell BK364.out 1).trans rfl, (blk_cell BK364.out 2).trans rfl⟩ (fun hHeld => ?_); refine with_tabW sawtoothref02_Div.tab20 sawtoothref02_Div.bits20 (fun HT_ HW_ => ?_)
         generalize w75.drew = w76 at BK362 BK363 BK364 HB hHeld ⊢
         refine take_ (i := 0) (N := some 76) (v := ?_) (a' := ?_) #[Y,N,N,N,N,N,N,N,N] rfl rfl (take_ofW HT_.out HW_.out (by kernel_rfl)) (fun _ _ _ h => h) (Or.inl ⟨by rfl, ?_⟩) hHeld ?_ ?_; rotate_left
         ·rintro w' ⟨s0, s1, s2⟩; go_simp
          with_reducible rfl
         rotate_left
         ·simp only [Act.put, sA, sB, sC, i64_w, i32_w]
          rfl
         refine join_ (σ := Nat) 2 #[Y,Y,Y,Y,Y,Y,Y,N,N] (fun s_ => [(77, .agg #[.bool t372, .int .u64 t373, .int .u64 t374]), (78, .tuple #[.agg #[.bool t375, .int .u64 t376, .int .u64 t377], .int .i64 t378]), (12, .pointer (some ⟨s_, 0, none⟩)), (75, .tuple #[.agg #[.bool t375, .int .u64 t376, .int .u64 t377], .int .i64 t378]), (79, .agg #[.bool t375, .int .u64 t376, .int .u64 t377]), (80, .int .i64 t378)]) (fun s_ w' => (w'.cell? ⟨gb364, 0, none⟩ = some (.bool true) ∧ w'.cell? ⟨gb364, 1, none⟩ = some (.int .u64 t370) ∧ w'.cell? ⟨gb364, 2, none⟩ = some (.int .u64 t371)) ∧ (w'.heap[gb362]? = some (.cells #[.bool a0_0, .int .u64 a0_1, .int .u64 a0_2] 24 (0, 0))) ∧ (w'.heap[gb363]? = some (.cells #[.bool false, .int .u64 0, .int .u64 0] 24 (0, 0))) ∧ (w'.heap[gb364]? = some (.cells #[.bool true, .int .u64 t370, .int .u64 t371] 24 (0, 0))) ∧ (w'.heap[s_]? = some (.cells #[.bool false, .int .u64 0, .int .u64 0] 24 (0, 0))) ∧ (w.heap.size ≤ s_) ∧ (w.heap.size ≤ s_) ∧ (gb362 ≠ s_) ∧ (s_ ≠ gb362) ∧ (gb363 ≠ s_) ∧ (s_ ≠ gb363) ∧ (gb364 ≠ s_) ∧ (s_ ≠ gb364) ∧ (Below w.heap.size w w')) ?_ ?_; rotate_left
         ·intro hCont; refine two_ (i := 1) (j := 6) (Ni := some 77) (Nj := some 12) #[Y,Y,N,N,N,N,N,N,N] #[Y,N,N,N,N,N,Y,N,N] rfl rfl rfl rfl (two_of HT_.out (by kernel_rfl)) (by decide) (by decide) (fun K hK => ?_) (fun K hK => ?_)
          ·skip
           refine goesA_ Try.func12 rfl #[.int .i64 (-1)] (by rfl) rfl rfl ?_
           with_reducible refine (sawtoothref02_OfS.calls (-1) t372 t373 t374 _ A51.out).mono ?_
           rintro e w77 ⟨rfl, hb⟩; refine ⟨_, rfl, ?_⟩; replace BK362 := bbZ BK362 hb; replace BK363 := bbZ BK363 hb; replace BK364 := bbZ BK364 hb; replace HB := Aside0.mk (below_step HB.out hb); clear hb; refine hK.out _ _ ⟨(blk_cell BK364.out 0).trans rfl, (blk_cell BK364.out 1).trans rfl, (blk_cell BK364.out 2).trans rfl⟩ (fun hHeld => ?_); clear hK K; refine normA_ (some 77) ?_
           refine two_ (i := 2) (j := 6) (Ni := some 78) (Nj := some 12) #[Y,Y,Y,N,N,N,N,N,N] #[Y,Y,N,N,N,N,Y,N,N] rfl rfl rfl rfl (two_of HT_.out (by kernel_rfl)) (by decide) (by decide) (fun K hK => ?_) (fun K hK => ?_)
           ·skip
            refine goesA_ Try.func6 rfl #[.agg #[.bool true, .int .u64 t370, .int .u64 t371], .agg #[.bool t372, .int .u64 t373, .int .u64 t374]] (by rfl) rfl rfl ?_
            with_reducible refine (sawtoothref02_AddS.calls true t370 t371 t372 t373 t374 t375 t376 t377 t378 _ A52.out).mono ?_
            rintro e w78 ⟨rfl, hb⟩; refine ⟨_, rfl, ?_⟩; replace BK362 := bbZ BK362 hb; replace BK363 := bbZ BK363 hb; replace BK364 := bbZ BK364 hb; replace HB := Aside0.mk (below_step HB.out hb); clear hb; refine hK.out _ _ ⟨(blk_cell BK364.out 0).trans rfl, (blk_cell BK364.out 1).trans rfl, (blk_cell BK364.out 2).trans rfl⟩ (fun hHeld => ?_); clear hK K; refine normA_ (some 78) ?_
            refine pureA_ (i := 3) (N := some 75) #[Y,Y,Y,Y,N,N,N,N,N] rfl rfl (any_of HT_.out (by kernel_rfl)) ?_
            refine pureA_ (i := 4) (N := some 79) #[Y,Y,Y,Y,Y,N,N,N,N] rfl rfl (any_of HT_.out (by kernel_rfl)) ?_
            refine pureA_ (i := 5) (N := some 80) #[Y,Y,Y,Y,Y,Y,N,N,N] rfl rfl (any_of HT_.out (by kernel_rfl)) ?_
            refine one_ (i := 6) (N := some 12) #[Y,Y,Y,Y,Y,Y,Y,N,N] rfl rfl (one_of HT_.out (by kernel_rfl)) (by decide) (fun K hK => ?_); refine box_step ?hg (N := 12) ?hd (cs := #[.bool false, .int .u64 0, .int .u64 0]) (t := 24) ?hr ?_; (case hd => rfl); (case hg => rfl); (case hr => first | (go_simp; done) | (go_simp; rfl)); intro gb379 hg w79 hbox hb; have BK379 := Aside0.mk (hbox); have GW379 := szZ HB hg; have GE379 := szZ HB hg; have NB362_379 := nlZ BK362 hg; have NB379_362 := ngZ BK362 hg; have NB363_379 := nlZ BK363 hg; have NB379_363 := ngZ BK363 hg; have NB364_379 := nlZ BK364 hg; have NB379_364 := ngZ BK364 hg; replace BK362 := bbZ BK362 hb; replace BK363 := bbZ BK363 hb; replace BK364 := bbZ BK364 hb; replace HB := Aside0.mk (below_step HB.out hb); clear hb hbox hg; refine hK.out _ _ ⟨(blk_cell BK364.out 0).trans rfl, (blk_cell BK364.out 1).trans rfl, (blk_cell BK364.out 2).trans rfl⟩ (fun hHeld => ?_); clear hK K; refine normA_ (some 12) ?_
            exact norm_ (by simp only [putAll, Act.put, sA, sB, sC]) (hCont (gb379) _ ⟨hHeld, BK362.out, BK363.out, BK364.out, BK379.out, GW379.out, GE379.out, NB362_379.out, NB379_362.out, NB363_379.out, NB379_363.out, NB364_379.out, NB379_364.out, (by repeat (first | (with_reducible first | exact HB.out | apply below_alloc | apply pw_below_drewN | apply below_drew1 | refine below_set ?_ (Aside0.out (by assumption))) | exact HB.out))⟩)
           ·skip
            refine box_step ?hg (N := 12) ?hd (cs := #[.bool false, .int .u64 0, .int .u64 0]) (t := 24) ?hr ?_; (case hd => rfl); (case hg => rfl); (case hr => first | (go_simp; done) | (go_simp; rfl)); intro gb379 hg w78 hbox hb; have BK379 := Aside0.mk (hbox); have GW379 := szZ HB hg; have GE379 := szZ HB hg; have NB362_379 := nlZ BK362 hg; have NB379_362 := ngZ BK362 hg; have NB363_379 := nlZ BK363 hg; have NB379_363 := ngZ BK363 hg; have NB364_379 := nlZ BK364 hg; have NB379_364 := ngZ BK364 hg; replace BK362 := bbZ BK362 hb; replace BK363 := bbZ BK363 hb; replace BK364 := bbZ BK364 hb; replace HB := Aside0.mk (below_step HB.out hb); clear hb hbox hg; refine hK.out _ _ ⟨(blk_cell BK364.out 0).trans rfl, (blk_cell BK364.out 1).trans rfl, (blk_cell BK364.out 2).trans rfl⟩ (fun hHeld => ?_); clear hK K; refine normA_ (some 12) ?_
            refine one_ (i := 2) (N := some 78) #[Y,Y,Y,N,N,N,Y,N,N] rfl rfl (one_of HT_.out (by kernel_rfl)) (by decide) (fun K hK => ?_); refine goesA_ Try.func6 rfl #[.agg #[.bool true, .int .u64 t370, .int .u64 t371], .agg #[.bool t372, .int .u64 t373, .int .u64 t374]] (by rfl) rfl rfl ?_
            with_reducible refine (sawtoothref02_AddS.calls true t370 t371 t372 t373 t374 t375 t376 t377 t378 _ A52.out).mono ?_
            rintro e w79 ⟨rfl, hb⟩; refine ⟨_, rfl, ?_⟩; replace BK362 := bbZ BK362 hb; replace BK363 := bbZ BK363 hb; replace BK364 := bbZ BK364 hb; replace BK379 := bbZ BK379 hb; replace HB := Aside0.mk (below_step HB.out hb); clear hb; refine hK.out _ _ ⟨(blk_cell BK364.out 0).trans rfl, (blk_cell BK364.out 1).trans rfl, (blk_cell BK364.out 2).trans rfl⟩ (fun hHeld => ?_); clear hK K; refine normA_ (some 78) ?_
            refine pureA_ (i := 3) (N := some 75) #[Y,Y,Y,Y,N,N,Y,N,N] rfl rfl (any_of HT_.out (by kernel_rfl)) ?_
            refine pureA_ (i := 4) (N := some 79) #[Y,Y,Y,Y,Y,N,Y,N,N] rfl rfl (any_of HT_.out (by kernel_rfl)) ?_
            refine pureA_ (i := 5) (N := some 80) #[Y,Y,Y,Y,Y,Y,Y,N,N] rfl rfl (any_of HT_.out (by kernel_rfl)) ?_
            exact norm_ (by simp only [putAll, Act.put, sA, sB, sC]) (hCont (gb379) _ ⟨hHeld, BK362.out, BK363.out, BK364.out, BK379.out, GW379.out, GE379.out, NB362_379.out, NB379_362.out, NB363_379.out, NB379_363.out, NB364_379.out, NB379_364.out, (by repeat (first | (with_reducible first | exact HB.out | apply below_alloc | apply pw_below_drewN | apply below_drew1 | refine below_set ?_ (Aside0.out (by assumption))) | exact HB.out))⟩)
          ·skip
           refine box_step ?hg (N := 12) ?hd (cs := #[.bool false, .int .u64 0, .int .u64 0]) (t := 24) ?hr ?_; (case hd => rfl); (case hg => rfl); (case hr => first | (go_simp; done) | (go_simp; rfl)); intro gb379 hg w77 hbox hb; have BK379 := Aside0.mk (hbox); have GW379 := szZ HB hg; have GE379 := szZ HB hg; have NB362_379 := nlZ BK362 hg; have NB379_362 := ngZ BK362 hg; have NB363_379 := nlZ BK363 hg; have NB379_363 := ngZ BK363 hg; have NB364_379 := nlZ BK364 hg; have NB379_364 := ngZ BK364 hg; replace BK362 := bbZ BK362 hb; replace BK363 := bbZ BK363 hb; replace BK364 := bbZ BK364 hb; replace HB := Aside0.mk (below_step HB.out hb); clear hb hbox hg; refine hK.out _ _ ⟨(blk_cell BK364.out 0).trans rfl, (blk_cell BK364.out 1).trans rfl, (blk_cell BK364.out 2).trans rfl⟩ (fun hHeld => ?_); clear hK K; refine normA_ (some 12) ?_
           refine one_ (i := 1) (N := some 77) #[Y,Y,N,N,N,N,Y,N,N] rfl rfl (one_of HT_.out (by kernel_rfl)) (by decide) (fun K hK => ?_); refine goesA_ Try.func12 rfl #[.int .i64 (-1)] (by rfl) rfl rfl ?_
           with_reducible refine (sawtoothref02_OfS.calls (-1) t372 t373 t374 _ A51.out).mono ?_
           rintro e w78 ⟨rfl, hb⟩; refine ⟨_, rfl, ?_⟩; replace BK362 := bbZ BK362 hb; replace BK363 := bbZ BK363 hb; replace BK364 := bbZ BK364 hb; replace BK379 := bbZ BK379 hb; replace HB := Aside0.mk (below_step HB.out hb); clear hb; refine hK.out _ _ ⟨(blk_cell BK364.out 0).trans rfl, (blk_cell BK364.out 1).trans rfl, (blk_cell BK364.out 2).trans rfl⟩ (fun hHeld => ?_); clear hK K; refine normA_ (some 77) ?_
           refine one_ (i := 2) (N := some 78) #[Y,Y,Y,N,N,N,Y,N,N] rfl rfl (one_of HT_.out (by kernel_rfl)) (by decide) (fun K hK => ?_); refine goesA_ Try.func6 rfl #[.agg #[.bool true, .int .u64 t370, .int .u64 t371], .agg #[.bool t372, .int .u64 t373, .int .u64 t374]] (by rfl) rfl rfl ?_
           with_reducible refine (sawtoothref02_AddS.calls true t370 t371 t372 t373 t374 t375 t376 t377 t378 _ A52.out).mono ?_
           rintro e w79 ⟨rfl, hb⟩; refine ⟨_, rfl, ?_⟩; replace BK362 := bbZ BK362 hb; replace BK363 := bbZ BK363 hb; replace BK364 := bbZ BK364 hb; replace BK379 := bbZ BK379 hb; replace HB := Aside0.mk (below_step HB.out hb); clear hb; refine hK.out _ _ ⟨(blk_cell BK364.out 0).trans rfl, (blk_cell BK364.out 1).trans rfl, (blk_cell BK364.out 2).trans rfl⟩ (fun hHeld => ?_); clear hK K; refine normA_ (some 78) ?_
           refine pureA_ (i := 3) (N := some 75) #[Y,Y,Y,Y,N,N,Y,N,N] rfl rfl (any_of HT_.out (by kernel_rfl)) ?_
           refine pureA_ (i := 4) (N := some 79) #[Y,Y,Y,Y,Y,N,Y,N,N] rfl rfl (any_of HT_.out (by kernel_rfl)) ?_
           refine pureA_ (i := 5) (N := some 80) #[Y,Y,Y,Y,Y,Y,Y,N,N] rfl rfl (any_of HT_.out (by kernel_rfl)) ?_
           exact norm_ (by simp only [putAll, Act.put, sA, sB, sC]) (hCont (gb379) _ ⟨hHeld, BK362.out, BK363.out, BK364.out, BK379.out, GW379.out, GE379.out, NB362_379.out, NB379_362.out, NB363_379.out, NB379_363.out, NB364_379.out, NB379_364.out, (by repeat (first | (with_reducible first | exact HB.out | apply below_alloc | apply pw_below_drewN | apply below_drew1 | refine below_set ?_ (Aside0.out (by assumption))) | exact HB.out))⟩)
         rintro gb379 w80 ⟨hS_, h0_, h1_, h2_, h3_, h4_, h5_, h6_, h7_, h8_, h9_, h10_, h11_, h12_⟩; have BK379 := Aside0.mk h3_; have GW379 := Aside0.mk h4_; have GE379 := Aside0.mk h5_; have NB362_379 := Aside0.mk h6_; have NB379_362 := Aside0.mk h7_; have NB363_379 := Aside0.mk h8_; have NB379_363 := Aside0.mk h9_; have NB364_379 := Aside0.mk h10_; have NB379_364 := Aside0.mk h11_; replace BK362 := Aside0.mk h0_; replace BK363 := Aside0.mk h1_; replace BK364 := Aside0.mk h2_; replace HB := Aside0.mk h12_; clear h0_ h1_ h2_ h3_ h4_ h5_ h6_ h7_ h8_ h9_ h10_ h11_ h12_; have hHeld : w80.cell? ⟨gb364, 0, none⟩ = some (.bool true) ∧ w80.cell? ⟨gb364, 1, none⟩ = some (.int .u64 t370) ∧ w80.cell? ⟨gb364, 2, none⟩ = some (.int .u64 t371) := hS_; refine norm_ (a' := ?_) ?_ ?_; rotate_left
         ·simp only [putAll, Act.put, sA, sB, sC]
          rfl
         refine one_ (i := 7) (N := none) #[Y,Y,Y,Y,Y,Y,Y,Y,N] rfl rfl (one_of HT_.out (by kernel_rfl)) (by decide) (fun K hK => ?_); have hs81 := czZ BK379 0 (.bool false); have hfs81 := blk_frozen BK379.out 0; have hns81_0 := NB362_379.out; have hns81_1 := NB363_379.out; have hns81_2 := NB364_379.out; have hms81_0 := NB379_362.out; have hms81_1 := NB379_363.out; have hms81_2 := NB379_364.out; have hs82 := czZ BK379 1 (.int .u64 0); have hfs82 := blk_frozen BK379.out 1; have hns82_0 := NB362_379.out; have hns82_1 := NB363_379.out; have hns82_2 := NB364_379.out; have hms82_0 := NB379_362.out; have hms82_1 := NB379_363.out; have hms82_2 := NB379_364.out; have hs83 := czZ BK379 2 (.int .u64 0); have hfs83 := blk_frozen BK379.out 2; have hns83_0 := NB362_379.out; have hns83_1 := NB363_379.out; have hns83_2 := NB364_379.out; have hms83_0 := NB379_362.out; have hms83_1 := NB379_363.out; have hms83_2 := NB379_364.out; refine skip_ (w1 := ?_) (by rfl) rfl ?_ ?_; rotate_left
         ·go_simp
          rfl
         refine hK.out _ _ ⟨((cell_far (p := ⟨gb379, _, none⟩) NB364_379.out _).trans (((cell_far (p := ⟨gb379, _, none⟩) NB364_379.out _).trans (((cell_far (p := ⟨gb379, _, none⟩) NB364_379.out _).trans (hHeld.1)))))), ((cell_far (p := ⟨gb379, _, none⟩) NB364_379.out _).trans (((cell_far (p := ⟨gb379, _, none⟩) NB364_379.out _).trans (((cell_far (p := ⟨gb379, _, none⟩) NB364_379.out _).trans (hHeld.2.1)))))), ((cell_far (p := ⟨gb379, _, none⟩) NB364_379.out _).trans (((cell_far (p := ⟨gb379, _, none⟩) NB364_379.out _).trans (((cell_far (p := ⟨gb379, _, none⟩) NB364_379.out _).trans (hHeld.2.2))))))⟩ (fun hHeld => ?_); clear hK K; refine pureA_ (i := 8) (N := some 13) #[Y,Y,Y,Y,Y,Y,Y,Y,Y] rfl rfl (any_of HT_.out (by kernel_rfl)) ?_
         refine done_ (done_of HT_.out (by kernel_rfl)) ?_; have hnb84 := NB363_362.out; have hnc84 := NB362_363.out; have hnb85 := NB363_379.out; have hnc85 := NB379_363.out; have hcz86_0 := czZ BK363 0 (.bool false); have hcz86_1 := czZ BK363 1 (.int .u64 0); have hcz86_2 := czZ BK363 2 (.int .u64 0); have hfz86_0 := blk_frozen BK363.out 0; have hfz86_1 := blk_frozen BK363.out 1; have hfz86_2 := blk_frozen BK363.out 2
         try go_wp2
         refine bodyPost_ret (results_ctt rfl _ _ gb363 24 #[.bool false, .int .u64 0, .int .u64 0] (0, 0) _ rfl (by (with_reducible repeat first | apply blk_drewN | apply blk_drew | apply blk_alloc); refine blk_put (cs := #[.bool false, .int .u64 0, .int .u64 0]) ?_ 2 _ rfl; (with_reducible repeat first | apply blk_drewN | apply blk_drew | apply blk_alloc); refine blk_put (cs := #[.bool false, .int .u64 0, .int .u64 0]) ?_ 1 _ rfl; (with_reducible repeat first | apply blk_drewN | apply blk_drew | apply blk_alloc); refine blk_put (cs := #[.bool false, .int .u64 0, .int .u64 0]) ?_ 0 _ rfl; (with_reducible repeat first | apply blk_drewN | apply blk_drew | apply blk_alloc); refine blk_far ?_ NB363_379.out _; (with_reducible repeat first | apply blk_drewN | apply blk_drew | apply blk_alloc); refine blk_far ?_ NB363_379.out _; (with_reducible repeat first | apply blk_drewN | apply blk_drew | apply blk_alloc); refine blk_far ?_ NB363_379.out _; (with_reducible repeat first | apply blk_drewN | apply blk_drew | apply blk_alloc); exact BK363.out) Try.underlying24 rfl (by kernel_rfl)) rfl ?_; exact ⟨by first | rfl | (simp [errW_none, errW_some] <;> rfl) | (simp [*, errW_none, errW_some] <;> rfl), by repeat (first | (with_reducible first | exact HB.out | apply below_alloc | apply pw_below_drewN | apply below_drew1 | refine below_set ?_ (Aside0.out (by assumption))) | exact HB.out)⟩

end Go.Proofs.Ytlcobnngpcabpaa.Px
