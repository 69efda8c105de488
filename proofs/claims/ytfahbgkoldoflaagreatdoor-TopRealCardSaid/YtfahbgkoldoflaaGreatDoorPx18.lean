/- Printed by px.py, over the kit's print. Conditions: none beside the theorems' own. -/
import Derived.Test.YtfahbgkoldoflaaGreatDoorPx0
import Derived.Test.YtfahbgkoldoflaaGreatDoorPx4
import Derived.Test.YtfahbgkoldoflaaGreatDoorPx14
import Derived.Test.YtfahbgkoldoflaaGreatDoorPx15
import Derived.Test.YtfahbgkoldoflaaGreatDoorSpec
namespace Go.Proofs.YtfahbgkoldoflaaGreatDoor.Px
open Go.RowKit Go.Proofs.YtfahbgkoldoflaaGreatDoorW.PrintWords Go.Proofs.YtfahbgkoldoflaaGreatDoorW.PrintLast Go.Proofs.YtfahbgkoldoflaaGreatDoorW.PrintMore
attribute [local go_sem] max2_int min2_int max_two min_two max_three min_three max_four min_four
set_option linter.unusedVariables false
set_option linter.unusedSimpArgs false

attribute [local go_sem high] eqA99
/-! ### big_Cmp: function 112 -/
noncomputable def big_Cmp.j0 : Nat → Bool → Bool → Int → Int → Bool → Int → Int → Option (Int)
 | 0, _, _, _, _, _, _, _ => none
 | k + 1, x19, x198000, x198001, x198002, x199000, x199001, x199002 => if x19 = true then (some (-1)) else (if (x198000 != x199000) = true then (some 1) else (if x198000 = true then ((big_of.f x199000 x199001 x199002).bind fun bt209 => ((big_of.f x198000 x198001 x198002).bind fun bt211 => ((big_size_cmpS.f bt209.1 bt209.2 bt211.1 bt211.2).bind fun t213 => (some t213)))) else ((big_of.f x198000 x198001 x198002).bind fun bt214 => ((big_of.f x199000 x199001 x199002).bind fun bt216 => ((big_size_cmpS.f bt214.1 bt214.2 bt216.1 bt216.2).bind fun t218 => (some t218))))))
noncomputable def big_Cmp.f (k : Nat) (a0_0 : Bool) (a0_1 : Int) (a0_2 : Int) (a1_0 : Bool) (a1_1 : Int) (a1_2 : Int) : Option (Int) := (big_of.f a0_0 a0_1 a0_2).bind fun bt199 => ((big_size_with.f bt199.1 bt199.2 a0_0).bind fun bt201 => ((big_of.f a1_0 a1_1 a1_2).bind fun bt204 => ((big_size_with.f bt204.1 bt204.2 a1_0).bind fun bt206 => (if (bt201.1 == bt206.1 && (bt201.2.1 == bt206.2.1 && (bt201.2.2 == bt206.2.2))) = true then (some 0) else (if (bt201.1 != bt206.1) = true then (big_Cmp.j0 k bt201.1 bt201.1 bt201.2.1 bt201.2.2 bt206.1 bt206.2.1 bt206.2.2) else (big_Cmp.j0 k false bt201.1 bt201.2.1 bt201.2.2 bt206.1 bt206.2.1 bt206.2.2))))))
def big_Cmp.T1 : Bool × List (List Nat × List Nat) := (true, [([], []), ([0], [0]), ([], []), ([2], [2]), ([1, 3, 1], [1, 3]), ([], []), ([5, 4], [5]), ([], []), ([7], [7]), ([6, 8, 6], [6, 8]), ([4, 9, 0, 1, 2, 3, 4], [4]), ([9, 10, 0, 1, 2, 3, 4, 5, 6, 7, 8, 9, 10], [9])])
def big_Cmp.B1 : List Nat := [0, 1, 0, 4, 15, 0, 63, 0, 128, 511, 1023, 2047]
theorem big_Cmp.tab1 : rtab .any (opsOf Tryz.f112 1) = big_Cmp.T1 := by kernel_rfl
theorem big_Cmp.bits1 : waitsOk big_Cmp.T1.2 big_Cmp.B1 = true := by kernel_rfl
set_option maxHeartbeats 8000000 in
set_option maxRecDepth 100000 in
theorem big_Cmp.calls (k : Nat) (a0_0 : Bool) (a0_1 : Int) (a0_2 : Int) (a1_0 : Bool) (a1_1 : Int) (a1_2 : Int) (r : Int) (w : World) (h : big_Cmp.f k a0_0 a0_1 a0_2 a1_0 a1_1 a1_2 = some r) :
  Calls Tryz.prog 112 #[.agg #[.bool a0_0, .int .u64 a0_1, .int .u64 a0_2], .agg #[.bool a1_0, .int .u64 a1_1, .int .u64 a1_2]] w fun e w' => e = .returned (.int .i64 r) ∧ Below w.heap.size w w' := by
 have hu99 := Tryz.underlying99; have HB := Aside0.mk (Below.refl w.heap.size w); have H : ((big_of.f a0_0 a0_1 a0_2).bind fun bt199 => ((big_size_with.f bt199.1 bt199.2 a0_0).bind fun bt201 => ((big_of.f a1_0 a1_1 a1_2).bind fun bt204 => ((big_size_with.f bt204.1 bt204.2 a1_0).bind fun bt206 => (if (bt201.1 == bt206.1 && (bt201.2.1 == bt206.2.1 && (bt201.2.2 == bt206.2.2))) = true then (some 0) else (if (bt201.1 != bt206.1) = true then (big_Cmp.j0 k bt201.1 bt201.1 bt201.2.1 bt201.2.2 bt206.1 bt206.2.1 bt206.2.2) else (big_Cmp.j0 k false bt201.1 bt201.2.1 bt201.2.2 bt206.1 bt206.2.1 bt206.2.2))))))) = some r := h; clear h; replace H := Option.bind_eq_some_iff.mp H; obtain ⟨⟨t199, t200⟩, A30, H⟩ := H; (try dsimp only at H); have A3 := Aside0.mk A30; clear A30; replace H := Option.bind_eq_some_iff.mp H; obtain ⟨⟨t201, t202, t203⟩, A40, H⟩ := H; (try dsimp only at H); have A4 := Aside0.mk A40; clear A40; replace H := Option.bind_eq_some_iff.mp H; obtain ⟨⟨t204, t205⟩, A50, H⟩ := H; (try dsimp only at H); have A5 := Aside0.mk A50; clear A50; replace H := Option.bind_eq_some_iff.mp H; obtain ⟨⟨t206, t207, t208⟩, A60, H⟩ := H; (try dsimp only at H); have A6 := Aside0.mk A60; clear A60
 go_enter Tryz.func112, Tryz.ntmps112
 try go_wp2_with (first | ((with_reducible refine gate_dst (N := 2) rfl ?_); refine box_event ?hg (N := 2) ?hd (cs := #[.bool a0_0, .int .u64 a0_1, .int .u64 a0_2]) (t := 99) ?hr ?_; (case hd => rfl); (case hg => rfl); (case hr => first | (go_simp; done) | (go_simp; rfl)); intro gb197 hg w8 hbox hb; have BK197 := Aside0.mk (hbox); obtain ⟨GW197, nHB⟩ := geA hg hb; have GE197 := GW197; replace HB := nHB; clear nHB; clear hb hbox hg) | ((with_reducible refine gate_dst (N := 3) rfl ?_); refine box_event ?hg (N := 3) ?hd (cs := #[.bool a1_0, .int .u64 a1_1, .int .u64 a1_2]) (t := 99) ?hr ?_; (case hd => rfl); (case hg => rfl); (case hr => first | (go_simp; done) | (go_simp; rfl)); intro gb198 hg w9 hbox hb; have BK198 := Aside0.mk (hbox); obtain ⟨GW198, nHB⟩ := geA hg hb; have GE198 := GW198; obtain ⟨NB197_198, NB198_197, nBK⟩ := nbA BK197 hg hb; replace BK197 := nBK; clear nBK; replace HB := nHB; clear nHB; clear hb hbox hg))
 replace BK197 := Aside0.mk (blk_drew BK197.out); replace BK198 := Aside0.mk (blk_drew BK198.out); replace HB := Aside0.mk (below_drew1 HB.out); refine start_ (n := 12) (S := fun w' => w'.cell? ⟨gb197, 0, none⟩ = some (.bool a0_0) ∧ w'.cell? ⟨gb197, 1, none⟩ = some (.int .u64 a0_1) ∧ w'.cell? ⟨gb197, 2, none⟩ = some (.int .u64 a0_2) ∧ w'.cell? ⟨gb198, 0, none⟩ = some (.bool a1_0) ∧ w'.cell? ⟨gb198, 1, none⟩ = some (.int .u64 a1_1) ∧ w'.cell? ⟨gb198, 2, none⟩ = some (.int .u64 a1_2)) (ds := [10, 11]) #[N,N,N,N,N,N,N,N,N,N,N,N] (by kernel_rfl) rfl rfl ⟨(blk_cell BK197.out 0).trans rfl, (blk_cell BK197.out 1).trans rfl, (blk_cell BK197.out 2).trans rfl, (blk_cell BK198.out 0).trans rfl, (blk_cell BK198.out 1).trans rfl, (blk_cell BK198.out 2).trans rfl⟩ (fun hHeld => ?_); refine with_tabW big_Cmp.tab1 big_Cmp.bits1 (fun HT_ HW_ => ?_)
 generalize w9.drew = w10 at BK197 BK198 HB hHeld ⊢
 refine pureA_ (i := 2) (N := some 7) #[N,N,Y,N,N,N,N,N,N,N,N,N] rfl rfl (any_of HT_.out (by kernel_rfl)) ?_
 refine pureA_ (i := 7) (N := some 12) #[N,N,Y,N,N,N,N,Y,N,N,N,N] rfl rfl (any_of HT_.out (by kernel_rfl)) ?_
 refine take_ (i := 0) (N := some 5) (v := ?_) (a' := ?_) #[Y,N,Y,N,N,N,N,Y,N,N,N,N] rfl rfl (take_ofW HT_.out HW_.out (by kernel_rfl)) (fun _ _ _ h => h) (Or.inl ⟨by rfl, ?_⟩) hHeld ?_ ?_; rotate_left
 ·rintro w' ⟨s0, s1, s2, s3, s4, s5⟩; go_simp
  with_reducible rfl
 rotate_left
 ·simp only [Act.put, sA, sB, sC, i64_w, i32_w]
  rfl
 refine take_ (i := 3) (N := some 8) (v := ?_) (a' := ?_) #[Y,N,Y,Y,N,N,N,Y,N,N,N,N] rfl rfl (take_ofW HT_.out HW_.out (by kernel_rfl)) (fun _ _ _ h => h) (Or.inl ⟨by rfl, ?_⟩) hHeld ?_ ?_; rotate_left
 ·rintro w' ⟨s0, s1, s2, s3, s4, s5⟩; go_simp
  with_reducible rfl
 rotate_left
 ·simp only [Act.put, sA, sB, sC, i64_w, i32_w]
  rfl
 refine take_ (i := 5) (N := some 10) (v := ?_) (a' := ?_) #[Y,N,Y,Y,N,Y,N,Y,N,N,N,N] rfl rfl (take_ofW HT_.out HW_.out (by kernel_rfl)) (fun _ _ _ h => h) (Or.inl ⟨by rfl, ?_⟩) hHeld ?_ ?_; rotate_left
 ·rintro w' ⟨s0, s1, s2, s3, s4, s5⟩; go_simp
  with_reducible rfl
 rotate_left
 ·simp only [Act.put, sA, sB, sC, i64_w, i32_w]
  rfl
 refine take_ (i := 8) (N := some 13) (v := ?_) (a' := ?_) #[Y,N,Y,Y,N,Y,N,Y,Y,N,N,N] rfl rfl (take_ofW HT_.out HW_.out (by kernel_rfl)) (fun _ _ _ h => h) (Or.inl ⟨by rfl, ?_⟩) hHeld ?_ ?_; rotate_left
 ·rintro w' ⟨s0, s1, s2, s3, s4, s5⟩; go_simp
  with_reducible rfl
 rotate_left
 ·simp only [Act.put, sA, sB, sC, i64_w, i32_w]
  rfl
 refine one_ (i := 1) (N := some 6) #[Y,Y,Y,Y,N,Y,N,Y,Y,N,N,N] rfl rfl (one_of HT_.out (by kernel_rfl)) (by decide) (fun K hK => ?_); refine goesA_ Tryz.func148 rfl #[.agg #[.bool a0_0, .int .u64 a0_1, .int .u64 a0_2]] (by rfl) rfl rfl ?_
 with_reducible refine (big_of.calls a0_0 a0_1 a0_2 t199 t200 _ A3.out).mono ?_
 rintro e w11 ⟨rfl, hb⟩; refine ⟨_, rfl, ?_⟩; replace BK197 := bbZ BK197 hb; replace BK198 := bbZ BK198 hb; replace HB := Aside0.mk (below_step HB.out hb); clear hb; refine hK.out _ _ ⟨(blk_cell BK197.out 0).trans rfl, (blk_cell BK197.out 1).trans rfl, (blk_cell BK197.out 2).trans rfl, (blk_cell BK198.out 0).trans rfl, (blk_cell BK198.out 1).trans rfl, (blk_cell BK198.out 2).trans rfl⟩ (fun hHeld => ?_); clear hK K; refine normA_ (some 6) ?_
 refine one_ (i := 4) (N := some 9) #[Y,Y,Y,Y,Y,Y,N,Y,Y,N,N,N] rfl rfl (one_of HT_.out (by kernel_rfl)) (by decide) (fun K hK => ?_); refine goesA_ Tryz.func103 rfl #[.agg #[.int .u64 t199, .int .u64 t200], .bool a0_0] (by rfl) rfl rfl ?_
 with_reducible refine (big_size_with.calls t199 t200 a0_0 t201 t202 t203 _ A4.out).mono ?_
 rintro e w12 ⟨rfl, hb⟩; refine ⟨_, rfl, ?_⟩; replace BK197 := bbZ BK197 hb; replace BK198 := bbZ BK198 hb; replace HB := Aside0.mk (below_step HB.out hb); clear hb; refine hK.out _ _ ⟨(blk_cell BK197.out 0).trans rfl, (blk_cell BK197.out 1).trans rfl, (blk_cell BK197.out 2).trans rfl, (blk_cell BK198.out 0).trans rfl, (blk_cell BK198.out 1).trans rfl, (blk_cell BK198.out 2).trans rfl⟩ (fun hHeld => ?_); clear hK K; refine normA_ (some 9) ?_
 refine one_ (i := 6) (N := some 11) #[Y,Y,Y,Y,Y,Y,Y,Y,Y,N,N,N] rfl rfl (one_of HT_.out (by kernel_rfl)) (by decide) (fun K hK => ?_); refine goesA_ Tryz.func148 rfl #[.agg #[.bool a1_0, .int .u64 a1_1, .int .u64 a1_2]] (by rfl) rfl rfl ?_
 with_reducible refine (big_of.calls a1_0 a1_1 a1_2 t204 t205 _ A5.out).mono ?_
 rintro e w13 ⟨rfl, hb⟩; refine ⟨_, rfl, ?_⟩; replace BK197 := bbZ BK197 hb; replace BK198 := bbZ BK198 hb; replace HB := Aside0.mk (below_step HB.out hb); clear hb; refine hK.out _ _ ⟨(blk_cell BK197.out 0).trans rfl, (blk_cell BK197.out 1).trans rfl, (blk_cell BK197.out 2).trans rfl, (blk_cell BK198.out 0).trans rfl, (blk_cell BK198.out 1).trans rfl, (blk_cell BK198.out 2).trans rfl⟩ (fun hHeld => ?_); clear hK K; refine normA_ (some 11) ?_
 refine one_ (i := 9) (N := some 14) #[Y,Y,Y,Y,Y,Y,Y,Y,Y,Y,N,N] rfl rfl (one_of HT_.out (by kernel_rfl)) (by decide) (fun K hK => ?_); refine goesA_ Tryz.func103 rfl #[.agg #[.int .u64 t204, .int .u64 t205], .bool a1_0] (by rfl) rfl rfl ?_
 with_reducible refine (big_size_with.calls t204 t205 a1_0 t206 t207 t208 _ A6.out).mono ?_
 rintro e w14 ⟨rfl, hb⟩; refine ⟨_, rfl, ?_⟩; replace BK197 := bbZ BK197 hb; replace BK198 := bbZ BK198 hb; replace HB := Aside0.mk (below_step HB.out hb); clear hb; refine hK.out _ _ ⟨(blk_cell BK197.out 0).trans rfl, (blk_cell BK197.out 1).trans rfl, (blk_cell BK197.out 2).trans rfl, (blk_cell BK198.out 0).trans rfl, (blk_cell BK198.out 1).trans rfl, (blk_cell BK198.out 2).trans rfl⟩ (fun hHeld => ?_); clear hK K; refine normA_ (some 14) ?_
 refine last_ (i := 10) (N := none) #[Y,Y,Y,Y,Y,Y,Y,Y,Y,Y,Y,N] rfl rfl (one_of HT_.out (by kernel_rfl)) (by decide) (fun K hK => ?_); have hs15 := czZ BK197 0 (.bool a0_0); have hfs15 := blk_frozen BK197.out 0; have hns15_1 := NB198_197.out; have hms15_1 := NB197_198.out; have hs16 := czZ BK197 1 (.int .u64 a0_1); have hfs16 := blk_frozen BK197.out 1; have hns16_1 := NB198_197.out; have hms16_1 := NB197_198.out; have hs17 := czZ BK197 2 (.int .u64 a0_2); have hfs17 := blk_frozen BK197.out 2; have hns17_1 := NB198_197.out; have hms17_1 := NB197_198.out; refine skip_ (w1 := ?_) (by rfl) rfl ?_ ?_; rotate_left
 ·go_simp
  rfl
 refine hK.out _ _ ?_; clear hK K; refine last_ (i := 11) (N := none) #[Y,Y,Y,Y,Y,Y,Y,Y,Y,Y,Y,Y] rfl rfl (one_of HT_.out (by kernel_rfl)) (by decide) (fun K hK => ?_); have hs18 := czZ BK198 0 (.bool a1_0); have hfs18 := blk_frozen BK198.out 0; have hns18_0 := NB197_198.out; have hms18_0 := NB198_197.out; have hs19 := czZ BK198 1 (.int .u64 a1_1); have hfs19 := blk_frozen BK198.out 1; have hns19_0 := NB197_198.out; have hms19_0 := NB198_197.out; have hs20 := czZ BK198 2 (.int .u64 a1_2); have hfs20 := blk_frozen BK198.out 2; have hns20_0 := NB197_198.out; have hms20_0 := NB198_197.out; refine skip_ (w1 := ?_) (by rfl) rfl ?_ ?_; rotate_left
 ·go_simp
  rfl
 refine hK.out _ _ ?_; clear hK K; refine done_ (done_of HT_.out (by kernel_rfl)) ?_; have hnb21 := NB197_198.out; have hnc21 := NB198_197.out; have hcz22_0 := czZ BK197 0 (.bool a0_0); have hcz22_1 := czZ BK197 1 (.int .u64 a0_1); have hcz22_2 := czZ BK197 2 (.int .u64 a0_2); have hfz22_0 := blk_frozen BK197.out 0; have hfz22_1 := blk_frozen BK197.out 1; have hfz22_2 := blk_frozen BK197.out 2; have hcz23_0 := czZ BK198 0 (.bool a1_0); have hcz23_1 := czZ BK198 1 (.int .u64 a1_1); have hcz23_2 := czZ BK198 2 (.int .u64 a1_2); have hfz23_0 := blk_frozen BK198.out 0; have hfz23_1 := blk_frozen BK198.out 1; have hfz23_2 := blk_frozen BK198.out 2
 by_cases c7 : (t201 == t206 && (t202 == t207 && (t203 == t208))) = true
 ·rw [if_pos c7] at H
  have c7b0 : (t201 == t206 && (t202 == t207 && (t203 == t208))) = true := c7
  (try (have c7b1 : decide (t201 = t206 && (t202 == t207 && (t203 == t208))) = true := by simpa using c7))
  (try (have c7b2 : (t201 == t206 && (t202 == t207 && (t203 == t208))) = true := by simpa using c7))
  clear c7; obtain rfl := Option.some.inj H
  try go_wp2
  go_ret
  exact ⟨by first | rfl | (simp [errW_none, errW_some] <;> rfl) | (simp [*, errW_none, errW_some] <;> rfl), by repeat (first | (with_reducible first | exact HB.out | apply below_alloc | apply pw_below_drewN | apply below_drew1 | refine below_set ?_ (Aside0.out (by assumption))) | exact HB.out)⟩
 ·rw [if_neg c7] at H
  have c7b0 : (t201 == t206 && (t202 == t207 && (t203 == t208))) = false := by simpa using c7
  (try (have c7b1 : decide (t201 = t206 && (t202 == t207 && (t203 == t208))) = false := by simpa using c7))
  (try (have c7b2 : (t201 == t206 && (t202 == t207 && (t203 == t208))) = false := by simpa using c7))
  (try (have c7b3 : ¬ (t201 = t206 && (t202 == t207 && (t203 == t208))) := by simpa using c7))
  clear c7; have HC24 := Aside0.mk H; clear H
  go_upto_region 4 with (fail)
  go_cut [19] (fun v19 wc => ∃ (kq : Nat) (x19_23 : Bool), v19 = .bool x19_23 ∧ Aside0 (big_Cmp.j0 kq x19_23 t201 t202 t203 t206 t207 t208 = some r) ∧ Aside0 (kq ≤ k) ∧ Aside0 (wc.heap[gb197]? = some (.cells #[.bool t201, .int .u64 t202, .int .u64 t203] 99 (0, 0))) ∧ Aside0 (wc.heap[gb198]? = some (.cells #[.bool t206, .int .u64 t207, .int .u64 t208] 99 (0, 0))) ∧ Aside0 (Below w.heap.size w wc))
  case first =>
   have H := HC24.out; clear HC24
   by_cases c41 : (t201 != t206) = true
   ·rw [if_pos c41] at H
    have c41b0 : (t201 != t206) = true := c41
    (try (have c41b1 : decide (t201 = t206) = false := by simpa using c41))
    (try (have c41b2 : (t201 == t206) = false := by simpa using c41))
    (try (have c41b3 : ¬ (t201 = t206) := by simpa using c41))
    clear c41
    (first | rw [c41b0] | (simp only [i64_w, i32_w]; rw [c41b0]) | skip)
    have H' := Aside0.mk H; clear H; have hnb42 := NB197_198.out; have hnc42 := NB198_197.out; have hcz43_0 := czZ BK197 0 (.bool a0_0); have hcz43_1 := czZ BK197 1 (.int .u64 a0_1); have hcz43_2 := czZ BK197 2 (.int .u64 a0_2); have hfz43_0 := blk_frozen BK197.out 0; have hfz43_1 := blk_frozen BK197.out 1; have hfz43_2 := blk_frozen BK197.out 2; have hcz44_0 := czZ BK198 0 (.bool a1_0); have hcz44_1 := czZ BK198 1 (.int .u64 a1_1); have hcz44_2 := czZ BK198 2 (.int .u64 a1_2); have hfz44_0 := blk_frozen BK198.out 0; have hfz44_1 := blk_frozen BK198.out 1; have hfz44_2 := blk_frozen BK198.out 2
    go_wp2
    go_meet
    case rel => exact ⟨_, (t201), (by first | rfl | (simp; done) | (simp [*]; done)), H', ⟨by first | omega | exact Nat.le_refl _⟩, ⟨by (with_reducible repeat first | apply blk_drewN | apply blk_drew | apply blk_alloc); refine blk_far ?_ NB197_198.out _; (with_reducible repeat first | apply blk_drewN | apply blk_drew | apply blk_alloc); refine blk_far ?_ NB197_198.out _; (with_reducible repeat first | apply blk_drewN | apply blk_drew | apply blk_alloc); refine blk_far ?_ NB197_198.out _; (with_reducible repeat first | apply blk_drewN | apply blk_drew | apply blk_alloc); refine blk_put (cs := #[.bool t201, .int .u64 t202, .int .u64 a0_2]) ?_ 2 _ rfl; (with_reducible repeat first | apply blk_drewN | apply blk_drew | apply blk_alloc); refine blk_put (cs := #[.bool t201, .int .u64 a0_1, .int .u64 a0_2]) ?_ 1 _ rfl; (with_reducible repeat first | apply blk_drewN | apply blk_drew | apply blk_alloc); refine blk_put (cs := #[.bool a0_0, .int .u64 a0_1, .int .u64 a0_2]) ?_ 0 _ rfl; (with_reducible repeat first | apply blk_drewN | apply blk_drew | apply blk_alloc); exact BK197.out⟩, ⟨by (with_reducible repeat first | apply blk_drewN | apply blk_drew | apply blk_alloc); refine blk_put (cs := #[.bool t206, .int .u64 t207, .int .u64 a1_2]) ?_ 2 _ rfl; (with_reducible repeat first | apply blk_drewN | apply blk_drew | apply blk_alloc); refine blk_put (cs := #[.bool t206, .int .u64 a1_1, .int .u64 a1_2]) ?_ 1 _ rfl; (with_reducible repeat first | apply blk_drewN | apply blk_drew | apply blk_alloc); refine blk_put (cs := #[.bool a1_0, .int .u64 a1_1, .int .u64 a1_2]) ?_ 0 _ rfl; (with_reducible repeat first | apply blk_drewN | apply blk_drew | apply blk_alloc); refine blk_far ?_ NB198_197.out _; (with_reducible repeat first | apply blk_drewN | apply blk_drew | apply blk_alloc); refine blk_far ?_ NB198_197.out _; (with_reducible repeat first | apply blk_drewN | apply blk_drew | apply blk_alloc); refine blk_far ?_ NB198_197.out _; (with_reducible repeat first | apply blk_drewN | apply blk_drew | apply blk_alloc); exact BK198.out⟩, ⟨by repeat (first | (with_reducible first | exact HB.out | apply below_alloc | apply pw_below_drewN | apply below_drew1 | refine below_set ?_ (Aside0.out (by assumption))) | exact HB.out)⟩⟩
   ·rw [if_neg c41] at H
    have c41b0 : (t201 != t206) = false := by simpa using c41
    (try (have c41b1 : decide (t201 = t206) = true := by simpa using c41))
    (try (have c41b2 : (t201 == t206) = true := by simpa using c41))
    clear c41
    (first | rw [c41b0] | (simp only [i64_w, i32_w]; rw [c41b0]) | skip)
    have H' := Aside0.mk H; clear H; have hnb45 := NB197_198.out; have hnc45 := NB198_197.out; have hcz46_0 := czZ BK197 0 (.bool a0_0); have hcz46_1 := czZ BK197 1 (.int .u64 a0_1); have hcz46_2 := czZ BK197 2 (.int .u64 a0_2); have hfz46_0 := blk_frozen BK197.out 0; have hfz46_1 := blk_frozen BK197.out 1; have hfz46_2 := blk_frozen BK197.out 2; have hcz47_0 := czZ BK198 0 (.bool a1_0); have hcz47_1 := czZ BK198 1 (.int .u64 a1_1); have hcz47_2 := czZ BK198 2 (.int .u64 a1_2); have hfz47_0 := blk_frozen BK198.out 0; have hfz47_1 := blk_frozen BK198.out 1; have hfz47_2 := blk_frozen BK198.out 2
    go_wp2
    go_meet
    case rel => exact ⟨_, (false), (by first | rfl | (simp; done) | (simp [*]; done)), H', ⟨by first | omega | exact Nat.le_refl _⟩, ⟨by (with_reducible repeat first | apply blk_drewN | apply blk_drew | apply blk_alloc); refine blk_far ?_ NB197_198.out _; (with_reducible repeat first | apply blk_drewN | apply blk_drew | apply blk_alloc); refine blk_far ?_ NB197_198.out _; (with_reducible repeat first | apply blk_drewN | apply blk_drew | apply blk_alloc); refine blk_far ?_ NB197_198.out _; (with_reducible repeat first | apply blk_drewN | apply blk_drew | apply blk_alloc); refine blk_put (cs := #[.bool t201, .int .u64 t202, .int .u64 a0_2]) ?_ 2 _ rfl; (with_reducible repeat first | apply blk_drewN | apply blk_drew | apply blk_alloc); refine blk_put (cs := #[.bool t201, .int .u64 a0_1, .int .u64 a0_2]) ?_ 1 _ rfl; (with_reducible repeat first | apply blk_drewN | apply blk_drew | apply blk_alloc); refine blk_put (cs := #[.bool a0_0, .int .u64 a0_1, .int .u64 a0_2]) ?_ 0 _ rfl; (with_reducible repeat first | apply blk_drewN | apply blk_drew | apply blk_alloc); exact BK197.out⟩, ⟨by (with_reducible repeat first | apply blk_drewN | apply blk_drew | apply blk_alloc); refine blk_put (cs := #[.bool t206, .int .u64 t207, .int .u64 a1_2]) ?_ 2 _ rfl; (with_reducible repeat first | apply blk_drewN | apply blk_drew | apply blk_alloc); refine blk_put (cs := #[.bool t206, .int .u64 a1_1, .int .u64 a1_2]) ?_ 1 _ rfl; (with_reducible repeat first | apply blk_drewN | apply blk_drew | apply blk_alloc); refine blk_put (cs := #[.bool a1_0, .int .u64 a1_1, .int .u64 a1_2]) ?_ 0 _ rfl; (with_reducible repeat first | apply blk_drewN | apply blk_drew | apply blk_alloc); refine blk_far ?_ NB198_197.out _; (with_reducible repeat first | apply blk_drewN | apply blk_drew | apply blk_alloc); refine blk_far ?_ NB198_197.out _; (with_reducible repeat first | apply blk_drewN | apply blk_drew | apply blk_alloc); refine blk_far ?_ NB198_197.out _; (with_reducible repeat first | apply blk_drewN | apply blk_drew | apply blk_alloc); exact BK198.out⟩, ⟨by repeat (first | (with_reducible first | exact HB.out | apply below_alloc | apply pw_below_drewN | apply below_drew1 | refine below_set ?_ (Aside0.out (by assumption))) | exact HB.out)⟩⟩
  case rest =>
   clear HC24
   try clear c1
   try clear c2
   try clear p2
   try clear c3
   try clear c4
   try clear c7
   try clear c7b0
   try clear c7b1
   try clear c7b2
   try clear c10
   try clear c11
   try clear c14
   try clear c21
   try clear c38
   try clear c41
   try clear c41b0
   try clear c41b1
   try clear c41b2
   try clear c42
   try clear c45
   try clear hcz22_0
   try clear hcz22_1
   try clear hcz22_2
   try clear hcz23_0
   try clear hcz23_1
   try clear hcz23_2
   try clear hcz22_0
   try clear hcz22_1
   try clear hcz22_2
   try clear hcz23_0
   try clear hcz23_1
   try clear hcz23_2
   try clear hcz43_0
   try clear hcz43_1
   try clear hcz43_2
   try clear hcz44_0
   try clear hcz44_1
   try clear hcz44_2
   try clear hcz46_0
   try clear hcz46_1
   try clear hcz46_2
   try clear hcz47_0
   try clear hcz47_1
   try clear hcz47_2
   try clear hfz22_0
   try clear hfz22_1
   try clear hfz22_2
   try clear hfz23_0
   try clear hfz23_1
   try clear hfz23_2
   try clear hfz22_0
   try clear hfz22_1
   try clear hfz22_2
   try clear hfz23_0
   try clear hfz23_1
   try clear hfz23_2
   try clear hfz43_0
   try clear hfz43_1
   try clear hfz43_2
   try clear hfz44_0
   try clear hfz44_1
   try clear hfz44_2
   try clear hfz46_0
   try clear hfz46_1
   try clear hfz46_2
   try clear hfz47_0
   try clear hfz47_1
   try clear hfz47_2
   obtain ⟨kq, x19_23, rfl, HA, HJ23, BK197, BK198, HB⟩ := hcut
   cases kq with
   | zero => exact absurd HA.out (by simp [big_Cmp.j0])
   | succ kj23 =>
    have H := HA.out; clear HA; simp only [big_Cmp.j0] at H
    by_cases c48 : x19_23 = true
    ·subst c48
     have H1 : (some (-1)) = some r := by rw [if_pos rfl] at H; exact H
     clear H; have H := H1; clear H1; obtain rfl := Option.some.inj H
     go_wp2
     go_ret
     exact ⟨by first | rfl | (simp [errW_none, errW_some] <;> rfl) | (simp [*, errW_none, errW_some] <;> rfl), by repeat (first | (with_reducible first | exact HB.out | apply below_alloc | apply pw_below_drewN | apply below_drew1 | refine below_set ?_ (Aside0.out (by assumption))) | exact HB.out)⟩
    ·replace c48 := Bool.eq_false_iff.mpr c48
     subst c48
     have H1 : (if (t201 != t206) = true then (some 1) else (if t201 = true then ((big_of.f t206 t207 t208).bind fun bt209 => ((big_of.f t201 t202 t203).bind fun bt211 => ((big_size_cmpS.f bt209.1 bt209.2 bt211.1 bt211.2).bind fun t213 => (some t213)))) else ((big_of.f t201 t202 t203).bind fun bt214 => ((big_of.f t206 t207 t208).bind fun bt216 => ((big_size_cmpS.f bt214.1 bt214.2 bt216.1 bt216.2).bind fun t218 => (some t218)))))) = some r := by rw [if_neg (show ¬ (false = true) by decide)] at H; exact H
     clear H; have H := H1; clear H1
     by_cases c49 : (t201 != t206) = true
     ·rw [if_pos c49] at H
      have c49b0 : (t201 != t206) = true := c49
      (try (have c49b1 : decide (t201 = t206) = false := by simpa using c49))
      (try (have c49b2 : (t201 == t206) = false := by simpa using c49))
      (try (have c49b3 : ¬ (t201 = t206) := by simpa using c49))
      clear c49; obtain rfl := Option.some.inj H; have hnb50 := NB197_198.out; have hnc50 := NB198_197.out; have hcz51_0 : wc.cell? ⟨gb197, 0, none⟩ = some (.bool t201) := (blk_cell BK197.out 0).trans rfl; have hcz51_1 : wc.cell? ⟨gb197, 1, none⟩ = some (.int .u64 t202) := (blk_cell BK197.out 1).trans rfl; have hcz51_2 : wc.cell? ⟨gb197, 2, none⟩ = some (.int .u64 t203) := (blk_cell BK197.out 2).trans rfl; have hfz51_0 := blk_frozen BK197.out 0; have hfz51_1 := blk_frozen BK197.out 1; have hfz51_2 := blk_frozen BK197.out 2; have hcz52_0 : wc.cell? ⟨gb198, 0, none⟩ = some (.bool t206) := (blk_cell BK198.out 0).trans rfl; have hcz52_1 : wc.cell? ⟨gb198, 1, none⟩ = some (.int .u64 t207) := (blk_cell BK198.out 1).trans rfl; have hcz52_2 : wc.cell? ⟨gb198, 2, none⟩ = some (.int .u64 t208) := (blk_cell BK198.out 2).trans rfl; have hfz52_0 := blk_frozen BK198.out 0; have hfz52_1 := blk_frozen BK198.out 1; have hfz52_2 := blk_frozen BK198.out 2
      go_wp2
      go_ret
      exact ⟨by first | rfl | (simp [errW_none, errW_some] <;> rfl) | (simp [*, errW_none, errW_some] <;> rfl), by repeat (first | (with_reducible first | exact HB.out | apply below_alloc | apply pw_below_drewN | apply below_drew1 | refine below_set ?_ (Aside0.out (by assumption))) | exact HB.out)⟩
     ·rw [if_neg c49] at H
      have c49b0 : (t201 != t206) = false := by simpa using c49
      (try (have c49b1 : decide (t201 = t206) = true := by simpa using c49))
      (try (have c49b2 : (t201 == t206) = true := by simpa using c49))
      clear c49
      by_cases c53 : t201 = true
      ·subst c53
       have H1 : ((big_of.f t206 t207 t208).bind fun bt209 => ((big_of.f true t202 t203).bind fun bt211 => ((big_size_cmpS.f bt209.1 bt209.2 bt211.1 bt211.2).bind fun t213 => (some t213)))) = some r := by rw [if_pos rfl] at H; exact H
       clear H; have H := H1; clear H1; replace H := Option.bind_eq_some_iff.mp H; obtain ⟨⟨t209, t210⟩, A540, H⟩ := H; replace H : ((big_of.f true t202 t203).bind fun bt211 => ((big_size_cmpS.f t209 t210 bt211.1 bt211.2).bind fun t213 => (some t213))) = some r := H; have A54 := Aside0.mk A540; clear A540; replace H := Option.bind_eq_some_iff.mp H; obtain ⟨⟨t211, t212⟩, A550, H⟩ := H; replace H : ((big_size_cmpS.f t209 t210 t211 t212).bind fun t213 => (some t213)) = some r := H; have A55 := Aside0.mk A550; clear A550; replace H := Option.bind_eq_some_iff.mp H; obtain ⟨t213, A560, H⟩ := H; replace H : (some t213) = some r := H; have A56 := Aside0.mk A560; clear A560; obtain rfl := Option.some.inj H; have hnb57 := NB197_198.out; have hnc57 := NB198_197.out; have hcz58_0 : wc.cell? ⟨gb197, 0, none⟩ = some (.bool true) := (blk_cell BK197.out 0).trans rfl; have hcz58_1 : wc.cell? ⟨gb197, 1, none⟩ = some (.int .u64 t202) := (blk_cell BK197.out 1).trans rfl; have hcz58_2 : wc.cell? ⟨gb197, 2, none⟩ = some (.int .u64 t203) := (blk_cell BK197.out 2).trans rfl; have hfz58_0 := blk_frozen BK197.out 0; have hfz58_1 := blk_frozen BK197.out 1; have hfz58_2 := blk_frozen BK197.out 2; have hcz59_0 : wc.cell? ⟨gb198, 0, none⟩ = some (.bool t206) := (blk_cell BK198.out 0).trans rfl; have hcz59_1 : wc.cell? ⟨gb198, 1, none⟩ = some (.int .u64 t207) := (blk_cell BK198.out 1).trans rfl; have hcz59_2 : wc.cell? ⟨gb198, 2, none⟩ = some (.int .u64 t208) := (blk_cell BK198.out 2).trans rfl; have hfz59_0 := blk_frozen BK198.out 0; have hfz59_1 := blk_frozen BK198.out 1; have hfz59_2 := blk_frozen BK198.out 2
       try go_wp2
       replace BK197 := Aside0.mk (blk_drew BK197.out); replace BK198 := Aside0.mk (blk_drew BK198.out); replace HB := Aside0.mk (below_drew1 HB.out); refine start_ (n := 6) (S := fun w' => w'.cell? ⟨gb198, 0, none⟩ = some (.bool t206) ∧ w'.cell? ⟨gb198, 1, none⟩ = some (.int .u64 t207) ∧ w'.cell? ⟨gb198, 2, none⟩ = some (.int .u64 t208) ∧ w'.cell? ⟨gb197, 0, none⟩ = some (.bool true) ∧ w'.cell? ⟨gb197, 1, none⟩ = some (.int .u64 t202) ∧ w'.cell? ⟨gb197, 2, none⟩ = some (.int .u64 t203)) (ds := []) #[N,N,N,N,N,N] (by kernel_rfl) rfl rfl ⟨(blk_cell BK198.out 0).trans rfl, (blk_cell BK198.out 1).trans rfl, (blk_cell BK198.out 2).trans rfl, (blk_cell BK197.out 0).trans rfl, (blk_cell BK197.out 1).trans rfl, (blk_cell BK197.out 2).trans rfl⟩ (fun hHeld => ?_)
       generalize wc.drew = w60 at BK197 BK198 HB hHeld ⊢
       refine take_ (i := 0) (N := some 38) (v := ?_) (a' := ?_) #[Y,N,N,N,N,N] rfl rfl (by kernel_rfl) (fun _ _ _ h => h) (Or.inl ⟨by rfl, ?_⟩) hHeld ?_ ?_; rotate_left
       ·rintro w' ⟨s0, s1, s2, s3, s4, s5⟩; go_simp
        with_reducible rfl
       rotate_left
       ·simp only [Act.put, sA, sB, sC, i64_w, i32_w]
        rfl
       refine take_ (i := 2) (N := some 40) (v := ?_) (a' := ?_) #[Y,N,Y,N,N,N] rfl rfl (by kernel_rfl) (fun _ _ _ h => h) (Or.inl ⟨by rfl, ?_⟩) hHeld ?_ ?_; rotate_left
       ·rintro w' ⟨s0, s1, s2, s3, s4, s5⟩; go_simp
        with_reducible rfl
       rotate_left
       ·simp only [Act.put, sA, sB, sC, i64_w, i32_w]
        rfl
       refine one_ (i := 1) (N := some 39) #[Y,Y,Y,N,N,N] rfl rfl (by kernel_rfl) (by decide) (fun K hK => ?_); refine goesA_ Tryz.func148 rfl #[.agg #[.bool t206, .int .u64 t207, .int .u64 t208]] (by rfl) rfl rfl ?_
       with_reducible refine (big_of.calls t206 t207 t208 t209 t210 _ A54.out).mono ?_
       rintro e w61 ⟨rfl, hb⟩; refine ⟨_, rfl, ?_⟩; replace BK197 := bbZ BK197 hb; replace BK198 := bbZ BK198 hb; replace HB := Aside0.mk (below_step HB.out hb); clear hb; refine hK.out _ _ ⟨(blk_cell BK198.out 0).trans rfl, (blk_cell BK198.out 1).trans rfl, (blk_cell BK198.out 2).trans rfl, (blk_cell BK197.out 0).trans rfl, (blk_cell BK197.out 1).trans rfl, (blk_cell BK197.out 2).trans rfl⟩ (fun hHeld => ?_); clear hK K; refine normA_ (some 39) ?_
       refine one_ (i := 3) (N := some 41) #[Y,Y,Y,Y,N,N] rfl rfl (by kernel_rfl) (by decide) (fun K hK => ?_); refine goesA_ Tryz.func148 rfl #[.agg #[.bool true, .int .u64 t202, .int .u64 t203]] (by rfl) rfl rfl ?_
       with_reducible refine (big_of.calls true t202 t203 t211 t212 _ A55.out).mono ?_
       rintro e w62 ⟨rfl, hb⟩; refine ⟨_, rfl, ?_⟩; replace BK197 := bbZ BK197 hb; replace BK198 := bbZ BK198 hb; replace HB := Aside0.mk (below_step HB.out hb); clear hb; refine hK.out _ _ ⟨(blk_cell BK198.out 0).trans rfl, (blk_cell BK198.out 1).trans rfl, (blk_cell BK198.out 2).trans rfl, (blk_cell BK197.out 0).trans rfl, (blk_cell BK197.out 1).trans rfl, (blk_cell BK197.out 2).trans rfl⟩ (fun hHeld => ?_); clear hK K; refine normA_ (some 41) ?_
       refine one_ (i := 4) (N := some 42) #[Y,Y,Y,Y,Y,N] rfl rfl (by kernel_rfl) (by decide) (fun K hK => ?_); refine goesA_ Tryz.func149 rfl #[.agg #[.int .u64 t209, .int .u64 t210], .agg #[.int .u64 t211, .int .u64 t212]] (by rfl) rfl rfl ?_
       with_reducible refine (big_size_cmpS.calls t209 t210 t211 t212 t213 _ A56.out).mono ?_
       rintro e w63 ⟨rfl, hb⟩; refine ⟨_, rfl, ?_⟩; replace BK197 := bbZ BK197 hb; replace BK198 := bbZ BK198 hb; replace HB := Aside0.mk (below_step HB.out hb); clear hb; refine hK.out _ _ ⟨(blk_cell BK198.out 0).trans rfl, (blk_cell BK198.out 1).trans rfl, (blk_cell BK198.out 2).trans rfl, (blk_cell BK197.out 0).trans rfl, (blk_cell BK197.out 1).trans rfl, (blk_cell BK197.out 2).trans rfl⟩ (fun hHeld => ?_); clear hK K; refine normA_ (some 42) ?_
       refine pureA_ (i := 5) (N := some 4) #[Y,Y,Y,Y,Y,Y] rfl rfl (by kernel_rfl) ?_
       refine done_ (by kernel_rfl) ?_
       try go_wp2
       go_ret
       exact ⟨by first | rfl | (simp [errW_none, errW_some] <;> rfl) | (simp [*, errW_none, errW_some] <;> rfl), by repeat (first | (with_reducible first | exact HB.out | apply below_alloc | apply pw_below_drewN | apply below_drew1 | refine below_set ?_ (Aside0.out (by assumption))) | exact HB.out)⟩
      ·replace c53 := Bool.eq_false_iff.mpr c53
       subst c53
       have H1 : ((big_of.f false t202 t203).bind fun bt214 => ((big_of.f t206 t207 t208).bind fun bt216 => ((big_size_cmpS.f bt214.1 bt214.2 bt216.1 bt216.2).bind fun t218 => (some t218)))) = some r := by rw [if_neg (show ¬ (false = true) by decide)] at H; exact H
       clear H; have H := H1; clear H1; replace H := Option.bind_eq_some_iff.mp H; obtain ⟨⟨t214, t215⟩, A640, H⟩ := H; replace H : ((big_of.f t206 t207 t208).bind fun bt216 => ((big_size_cmpS.f t214 t215 bt216.1 bt216.2).bind fun t218 => (some t218))) = some r := H; have A64 := Aside0.mk A640; clear A640; replace H := Option.bind_eq_some_iff.mp H; obtain ⟨⟨t216, t217⟩, A650, H⟩ := H; replace H : ((big_size_cmpS.f t214 t215 t216 t217).bind fun t218 => (some t218)) = some r := H; have A65 := Aside0.mk A650; clear A650; replace H := Option.bind_eq_some_iff.mp H; obtain ⟨t218, A660, H⟩ := H; replace H : (some t218) = some r := H; have A66 := Aside0.mk A660; clear A660; obtain rfl := Option.some.inj H; have hnb67 := NB197_198.out; have hnc67 := NB198_197.out; have hcz68_0 : wc.cell? ⟨gb197, 0, none⟩ = some (.bool false) := (blk_cell BK197.out 0).trans rfl; have hcz68_1 : wc.cell? ⟨gb197, 1, none⟩ = some (.int .u64 t202) := (blk_cell BK197.out 1).trans rfl; have hcz68_2 : wc.cell? ⟨gb197, 2, none⟩ = some (.int .u64 t203) := (blk_cell BK197.out 2).trans rfl; have hfz68_0 := blk_frozen BK197.out 0; have hfz68_1 := blk_frozen BK197.out 1; have hfz68_2 := blk_frozen BK197.out 2; have hcz69_0 : wc.cell? ⟨gb198, 0, none⟩ = some (.bool t206) := (blk_cell BK198.out 0).trans rfl; have hcz69_1 : wc.cell? ⟨gb198, 1, none⟩ = some (.int .u64 t207) := (blk_cell BK198.out 1).trans rfl; have hcz69_2 : wc.cell? ⟨gb198, 2, none⟩ = some (.int .u64 t208) := (blk_cell BK198.out 2).trans rfl; have hfz69_0 := blk_frozen BK198.out 0; have hfz69_1 := blk_frozen BK198.out 1; have hfz69_2 := blk_frozen BK198.out 2
       try go_wp2
       replace BK197 := Aside0.mk (blk_drew BK197.out); replace BK198 := Aside0.mk (blk_drew BK198.out); replace HB := Aside0.mk (below_drew1 HB.out); refine start_ (n := 6) (S := fun w' => w'.cell? ⟨gb197, 0, none⟩ = some (.bool false) ∧ w'.cell? ⟨gb197, 1, none⟩ = some (.int .u64 t202) ∧ w'.cell? ⟨gb197, 2, none⟩ = some (.int .u64 t203) ∧ w'.cell? ⟨gb198, 0, none⟩ = some (.bool t206) ∧ w'.cell? ⟨gb198, 1, none⟩ = some (.int .u64 t207) ∧ w'.cell? ⟨gb198, 2, none⟩ = some (.int .u64 t208)) (ds := []) #[N,N,N,N,N,N] (by kernel_rfl) rfl rfl ⟨(blk_cell BK197.out 0).trans rfl, (blk_cell BK197.out 1).trans rfl, (blk_cell BK197.out 2).trans rfl, (blk_cell BK198.out 0).trans rfl, (blk_cell BK198.out 1).trans rfl, (blk_cell BK198.out 2).trans rfl⟩ (fun hHeld => ?_)
       generalize wc.drew = w70 at BK197 BK198 HB hHeld ⊢
       refine take_ (i := 0) (N := some 43) (v := ?_) (a' := ?_) #[Y,N,N,N,N,N] rfl rfl (by kernel_rfl) (fun _ _ _ h => h) (Or.inl ⟨by rfl, ?_⟩) hHeld ?_ ?_; rotate_left
       ·rintro w' ⟨s0, s1, s2, s3, s4, s5⟩; go_simp
        with_reducible rfl
       rotate_left
       ·simp only [Act.put, sA, sB, sC, i64_w, i32_w]
        rfl
       refine take_ (i := 2) (N := some 45) (v := ?_) (a' := ?_) #[Y,N,Y,N,N,N] rfl rfl (by kernel_rfl) (fun _ _ _ h => h) (Or.inl ⟨by rfl, ?_⟩) hHeld ?_ ?_; rotate_left
       ·rintro w' ⟨s0, s1, s2, s3, s4, s5⟩; go_simp
        with_reducible rfl
       rotate_left
       ·simp only [Act.put, sA, sB, sC, i64_w, i32_w]
        rfl
       refine one_ (i := 1) (N := some 44) #[Y,Y,Y,N,N,N] rfl rfl (by kernel_rfl) (by decide) (fun K hK => ?_); refine goesA_ Tryz.func148 rfl #[.agg #[.bool false, .int .u64 t202, .int .u64 t203]] (by rfl) rfl rfl ?_
       with_reducible refine (big_of.calls false t202 t203 t214 t215 _ A64.out).mono ?_
       rintro e w71 ⟨rfl, hb⟩; refine ⟨_, rfl, ?_⟩; replace BK197 := bbZ BK197 hb; replace BK198 := bbZ BK198 hb; replace HB := Aside0.mk (below_step HB.out hb); clear hb; refine hK.out _ _ ⟨(blk_cell BK197.out 0).trans rfl, (blk_cell BK197.out 1).trans rfl, (blk_cell BK197.out 2).trans rfl, (blk_cell BK198.out 0).trans rfl, (blk_cell BK198.out 1).trans rfl, (blk_cell BK198.out 2).trans rfl⟩ (fun hHeld => ?_); clear hK K; refine normA_ (some 44) ?_
       refine one_ (i := 3) (N := some 46) #[Y,Y,Y,Y,N,N] rfl rfl (by kernel_rfl) (by decide) (fun K hK => ?_); refine goesA_ Tryz.func148 rfl #[.agg #[.bool t206, .int .u64 t207, .int .u64 t208]] (by rfl) rfl rfl ?_
       with_reducible refine (big_of.calls t206 t207 t208 t216 t217 _ A65.out).mono ?_
       rintro e w72 ⟨rfl, hb⟩; refine ⟨_, rfl, ?_⟩; replace BK197 := bbZ BK197 hb; replace BK198 := bbZ BK198 hb; replace HB := Aside0.mk (below_step HB.out hb); clear hb; refine hK.out _ _ ⟨(blk_cell BK197.out 0).trans rfl, (blk_cell BK197.out 1).trans rfl, (blk_cell BK197.out 2).trans rfl, (blk_cell BK198.out 0).trans rfl, (blk_cell BK198.out 1).trans rfl, (blk_cell BK198.out 2).trans rfl⟩ (fun hHeld => ?_); clear hK K; refine normA_ (some 46) ?_
       refine one_ (i := 4) (N := some 47) #[Y,Y,Y,Y,Y,N] rfl rfl (by kernel_rfl) (by decide) (fun K hK => ?_); refine goesA_ Tryz.func149 rfl #[.agg #[.int .u64 t214, .int .u64 t215], .agg #[.int .u64 t216, .int .u64 t217]] (by rfl) rfl rfl ?_
       with_reducible refine (big_size_cmpS.calls t214 t215 t216 t217 t218 _ A66.out).mono ?_
       rintro e w73 ⟨rfl, hb⟩; refine ⟨_, rfl, ?_⟩; replace BK197 := bbZ BK197 hb; replace BK198 := bbZ BK198 hb; replace HB := Aside0.mk (below_step HB.out hb); clear hb; refine hK.out _ _ ⟨(blk_cell BK197.out 0).trans rfl, (blk_cell BK197.out 1).trans rfl, (blk_cell BK197.out 2).trans rfl, (blk_cell BK198.out 0).trans rfl, (blk_cell BK198.out 1).trans rfl, (blk_cell BK198.out 2).trans rfl⟩ (fun hHeld => ?_); clear hK K; refine normA_ (some 47) ?_
       refine pureA_ (i := 5) (N := some 4) #[Y,Y,Y,Y,Y,Y] rfl rfl (by kernel_rfl) ?_
       refine done_ (by kernel_rfl) ?_
       try go_wp2
       go_ret
       exact ⟨by first | rfl | (simp [errW_none, errW_some] <;> rfl) | (simp [*, errW_none, errW_some] <;> rfl), by repeat (first | (with_reducible first | exact HB.out | apply below_alloc | apply pw_below_drewN | apply below_drew1 | refine below_set ?_ (Aside0.out (by assumption))) | exact HB.out)⟩

/-! ### big_CmpS: which number is greater: pure, behind function 112 -/
noncomputable def big_CmpS.f (n : Bool) (h l : Int) (m : Bool) (i k : Int) : Option Int := Sp.need (Sp.U h ∧ Sp.U l ∧ Sp.U i ∧ Sp.U k) (some (Sp.cmpI (Sp.val n h l) (Sp.val m i k)))
section BigCmp
open Go.Proofs.YtfahbgkoldoflaaGreatDoor.Sp
theorem size_cmp_enc {v w : Int} (h1 : B v) (h2 : B w) : big_size_cmpS.f (encH v) (encL v) (encH w) (encL w) = some (cmpI v.natAbs w.natAbs) := by
 unfold big_size_cmpS.f
 have a := encH_U h1; have b := encH_U h2; have c := @encL_U v; have d := @encL_U w
 rw [need_pos (by omega)]
 have e1 : encH v * 18446744073709551616 + encL v = v.natAbs := by unfold encH encL; omega
 have e2 : encH w * 18446744073709551616 + encL w = w.natAbs := by unfold encH encL; omega
 rw [e1, e2]
set_option maxRecDepth 100000 in
theorem big_Cmp.eq {v w : Int} (h1 : B v) (h2 : B w) (hd : v ≠ w) (x : Bool) (hx : x = if encN v = encN w then false else encN v) :
  big_Cmp.j0 1 x (encN v) (encH v) (encL v) (encN w) (encH w) (encL w) = some (cmpI v w) := by
 simp only [big_Cmp.j0, big_of.f, Option.bind_some]
 rw [size_cmp_enc h1 h2, size_cmp_enc h2 h1]
 simp only [Option.bind_some]
 unfold cmpI
 by_cases a : v < 0 <;> by_cases b : w < 0
 ·have ea := encN_neg a; have eb := encN_neg b
  rw [ea, eb] at hx ⊢; subst hx
  simp only [if_true, Bool.false_eq_true, if_false, bne_self_eq_false]
  congr 1; (repeat' split) <;> omega
 ·have ea := encN_neg a; have eb := encN_pos (v := w) (by omega)
  rw [ea, eb] at hx ⊢; subst hx
  simp; omega
 ·have ea := encN_pos (v := v) (by omega); have eb := encN_neg b
  rw [ea, eb] at hx ⊢; subst hx
  simp; omega
 ·have ea := encN_pos (v := v) (by omega); have eb := encN_pos (v := w) (by omega)
  rw [ea, eb] at hx ⊢; subst hx
  simp only [if_true, Bool.false_eq_true, if_false, bne_self_eq_false]
  congr 1; (repeat' split) <;> omega
theorem big_Cmp.main {n m : Bool} {h l i k : Int} (h1 : U h) (h2 : U l) (h3 : U i) (h4 : U k) : big_Cmp.f 1 n h l m i k = some (cmpI (val n h l) (val m i k)) := by
 unfold big_Cmp.f big_of.f
 simp only [Option.bind_some]
 rw [big_with.eq h1 h2, big_with.eq h3 h4]
 simp only [Option.bind_some]; have b1 := val_B (n := n) h1 h2; have b2 := val_B (n := m) h3 h4
 generalize val n h l = v at *
 generalize val m i k = w at *
 by_cases hd : v = w
 ·subst hd; simp [cmpI]
 ·have hne : (encN v == encN w && (encH v == encH w && (encL v == encL w))) ≠ true := by
   intro h; simp at h; exact hd (enc_inj h.1 h.2.1 h.2.2)
  rw [if_neg hne]
  by_cases hs : encN v = encN w
  ·rw [if_neg (by simp [hs])]
   exact big_Cmp.eq b1 b2 hd false (by rw [if_pos hs])
  ·rw [if_pos (by simpa using hs)]
   exact big_Cmp.eq b1 b2 hd _ (by rw [if_neg hs])
end BigCmp
theorem big_CmpS.eq {n m : Bool} {h l i k : Int} (h1 : Sp.U h) (h2 : Sp.U l) (h3 : Sp.U i) (h4 : Sp.U k) : big_CmpS.f n h l m i k = some (Sp.cmpI (Sp.val n h l) (Sp.val m i k)) := Sp.need_pos ⟨h1, h2, h3, h4⟩
theorem big_CmpS.enc {v w : Int} (h1 : Sp.B v) (h2 : Sp.B w) : big_CmpS.f (Sp.encN v) (Sp.encH v) (Sp.encL v) (Sp.encN w) (Sp.encH w) (Sp.encL w) = some (Sp.cmpI v w) := by
 rw [big_CmpS.eq (Sp.encH_U h1) Sp.encL_U (Sp.encH_U h2) Sp.encL_U, Sp.val_enc, Sp.val_enc]
theorem big_CmpS.el {m : Bool} {v i k : Int} (h1 : Sp.B v) (h2 : Sp.U i) (h3 : Sp.U k) : big_CmpS.f (Sp.encN v) (Sp.encH v) (Sp.encL v) m i k = some (Sp.cmpI v (Sp.val m i k)) := by
 rw [big_CmpS.eq (Sp.encH_U h1) Sp.encL_U h2 h3, Sp.val_enc]
theorem big_CmpS.le {n : Bool} {h l w : Int} (h1 : Sp.U h) (h2 : Sp.U l) (h3 : Sp.B w) : big_CmpS.f n h l (Sp.encN w) (Sp.encH w) (Sp.encL w) = some (Sp.cmpI (Sp.val n h l) w) := by
 rw [big_CmpS.eq h1 h2 (Sp.encH_U h3) Sp.encL_U, Sp.val_enc]
theorem big_CmpS.calls (a0_0 : Bool) (a0_1 a0_2 : Int) (a1_0 : Bool) (a1_1 a1_2 r : Int) (w : World) (h : big_CmpS.f a0_0 a0_1 a0_2 a1_0 a1_1 a1_2 = some r) :
  Calls Tryz.prog 112 #[.agg #[.bool a0_0, .int .u64 a0_1, .int .u64 a0_2], .agg #[.bool a1_0, .int .u64 a1_1, .int .u64 a1_2]] w fun e w' => e = .returned (.int .i64 r) ∧ Below w.heap.size w w' := by
 obtain ⟨hc, h⟩ := Sp.need_some h; obtain ⟨h1, h2, h3, h4⟩ := hc; exact big_Cmp.calls 1 _ _ _ _ _ _ r w (by rw [big_Cmp.main h1 h2 h3 h4]; exact h)

end Go.Proofs.YtfahbgkoldoflaaGreatDoor.Px
