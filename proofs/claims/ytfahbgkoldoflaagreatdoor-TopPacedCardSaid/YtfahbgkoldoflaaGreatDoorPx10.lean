/- Printed by px.py, over the kit's print. Conditions: none beside the theorems' own. -/
import Derived.WalkMore
import Derived.Test.YtfahbgkoldoflaaGreatDoorPx0
import Derived.Test.YtfahbgkoldoflaaGreatDoorPx4
import Derived.Test.YtfahbgkoldoflaaGreatDoorPx6
import Derived.Test.YtfahbgkoldoflaaGreatDoorPx7
import Derived.Test.YtfahbgkoldoflaaGreatDoorPx9
import Derived.Test.YtfahbgkoldoflaaGreatDoorSpec
namespace Go.Proofs.YtfahbgkoldoflaaGreatDoor.Px
open Go.RowKit Go.Proofs.YtfahbgkoldoflaaGreatDoorW.PrintWords Go.Proofs.YtfahbgkoldoflaaGreatDoorW.PrintLast Go.Proofs.YtfahbgkoldoflaaGreatDoorW.PrintMore
attribute [local go_sem] max2_int min2_int max_two min_two max_three min_three max_four min_four
set_option linter.unusedVariables false
set_option linter.unusedSimpArgs false

attribute [local go_sem high] eqA99
/-! ### big_Cmp: function 112 -/
noncomputable def big_Cmp.j0 : Nat → Bool → Bool → Int → Int → Bool → Int → Int → Option (Int)
 | 0, _, _, _, _, _, _, _ => none
 | k + 1, x19, x203000, x203001, x203002, x204000, x204001, x204002 => if x19 = true then (some (-1)) else (if (x203000 != x204000) = true then (some 1) else (if x203000 = true then ((big_of.f x204000 x204001 x204002).bind fun bt214 => ((big_of.f x203000 x203001 x203002).bind fun bt216 => ((big_size_cmpS.f bt214.1 bt214.2 bt216.1 bt216.2).bind fun t218 => (some t218)))) else ((big_of.f x203000 x203001 x203002).bind fun bt219 => ((big_of.f x204000 x204001 x204002).bind fun bt221 => ((big_size_cmpS.f bt219.1 bt219.2 bt221.1 bt221.2).bind fun t223 => (some t223))))))
noncomputable def big_Cmp.f (k : Nat) (a0_0 : Bool) (a0_1 : Int) (a0_2 : Int) (a1_0 : Bool) (a1_1 : Int) (a1_2 : Int) : Option (Int) := (big_of.f a0_0 a0_1 a0_2).bind fun bt204 => ((big_size_with.f bt204.1 bt204.2 a0_0).bind fun bt206 => ((big_of.f a1_0 a1_1 a1_2).bind fun bt209 => ((big_size_with.f bt209.1 bt209.2 a1_0).bind fun bt211 => (if (bt206.1 == bt211.1 && (bt206.2.1 == bt211.2.1 && (bt206.2.2 == bt211.2.2))) = true then (some 0) else (if (bt206.1 != bt211.1) = true then (big_Cmp.j0 k bt206.1 bt206.1 bt206.2.1 bt206.2.2 bt211.1 bt211.2.1 bt211.2.2) else (big_Cmp.j0 k false bt206.1 bt206.2.1 bt206.2.2 bt211.1 bt211.2.1 bt211.2.2))))))
def big_Cmp.T1 : Bool × List (List Nat × List Nat) := (true, [([], []), ([0], [0]), ([], []), ([2], [2]), ([1, 3, 1], [1, 3]), ([], []), ([5, 4], [5]), ([], []), ([7], [7]), ([6, 8, 6], [6, 8]), ([4, 9, 0, 1, 2, 3, 4], [4]), ([9, 10, 0, 1, 2, 3, 4, 5, 6, 7, 8, 9, 10], [9])])
def big_Cmp.B1 : List Nat := [0, 1, 0, 4, 15, 0, 63, 0, 128, 511, 1023, 2047]
theorem big_Cmp.tab1 : rtab .any (opsOf Tryz.f112 1) = big_Cmp.T1 := by kernel_rfl
theorem big_Cmp.bits1 : waitsOk big_Cmp.T1.2 big_Cmp.B1 = true := by kernel_rfl
set_option maxHeartbeats 8000000 in
set_option maxRecDepth 100000 in
theorem big_Cmp.calls (k : Nat) (a0_0 : Bool) (a0_1 : Int) (a0_2 : Int) (a1_0 : Bool) (a1_1 : Int) (a1_2 : Int) (r : Int) (w : World) (h : big_Cmp.f k a0_0 a0_1 a0_2 a1_0 a1_1 a1_2 = some r) :
  Calls Tryz.prog 112 #[.agg #[.bool a0_0, .int .u64 a0_1, .int .u64 a0_2], .agg #[.bool a1_0, .int .u64 a1_1, .int .u64 a1_2]] w fun e w' => e = .returned (.int .i64 r) ∧ Below w.heap.size w w' := by
 have hu99 := Tryz.underlying99; have HB := Aside0.mk (Below.refl w.heap.size w); have H : ((big_of.f a0_0 a0_1 a0_2).bind fun bt204 => ((big_size_with.f bt204.1 bt204.2 a0_0).bind fun bt206 => ((big_of.f a1_0 a1_1 a1_2).bind fun bt209 => ((big_size_with.f bt209.1 bt209.2 a1_0).bind fun bt211 => (if (bt206.1 == bt211.1 && (bt206.2.1 == bt211.2.1 && (bt206.2.2 == bt211.2.2))) = true then (some 0) else (if (bt206.1 != bt211.1) = true then (big_Cmp.j0 k bt206.1 bt206.1 bt206.2.1 bt206.2.2 bt211.1 bt211.2.1 bt211.2.2) else (big_Cmp.j0 k false bt206.1 bt206.2.1 bt206.2.2 bt211.1 bt211.2.1 bt211.2.2))))))) = some r := h; clear h; replace H := Option.bind_eq_some_iff.mp H; obtain ⟨⟨t204, t205⟩, A30, H⟩ := H; (try dsimp only at H); have A3 := Aside0.mk A30; clear A30; replace H := Option.bind_eq_some_iff.mp H; obtain ⟨⟨t206, t207, t208⟩, A40, H⟩ := H; (try dsimp only at H); have A4 := Aside0.mk A40; clear A40; replace H := Option.bind_eq_some_iff.mp H; obtain ⟨⟨t209, t210⟩, A50, H⟩ := H; (try dsimp only at H); have A5 := Aside0.mk A50; clear A50; replace H := Option.bind_eq_some_iff.mp H; obtain ⟨⟨t211, t212, t213⟩, A60, H⟩ := H; (try dsimp only at H); have A6 := Aside0.mk A60; clear A60
 go_enter Tryz.func112, Tryz.ntmps112
 try go_wp2_with (first | ((with_reducible refine gate_dst (N := 2) rfl ?_); refine box_event ?hg (N := 2) ?hd (cs := #[.bool a0_0, .int .u64 a0_1, .int .u64 a0_2]) (t := 99) ?hr ?_; (case hd => rfl); (case hg => rfl); (case hr => first | (go_simp; done) | (go_simp; rfl)); intro gb202 hg w8 hbox hb; have BK202 := Aside0.mk (hbox); obtain ⟨GW202, nHB⟩ := geA hg hb; have GE202 := GW202; replace HB := nHB; clear nHB; clear hb hbox hg) | ((with_reducible refine gate_dst (N := 3) rfl ?_); refine box_event ?hg (N := 3) ?hd (cs := #[.bool a1_0, .int .u64 a1_1, .int .u64 a1_2]) (t := 99) ?hr ?_; (case hd => rfl); (case hg => rfl); (case hr => first | (go_simp; done) | (go_simp; rfl)); intro gb203 hg w9 hbox hb; have BK203 := Aside0.mk (hbox); obtain ⟨GW203, nHB⟩ := geA hg hb; have GE203 := GW203; obtain ⟨NB202_203, NB203_202, nBK⟩ := nbA BK202 hg hb; replace BK202 := nBK; clear nBK; replace HB := nHB; clear nHB; clear hb hbox hg))
 replace BK202 := Aside0.mk (blk_drew BK202.out); replace BK203 := Aside0.mk (blk_drew BK203.out); replace HB := Aside0.mk (below_drew1 HB.out); refine start_ (n := 12) (S := fun w' => w'.cell? ⟨gb202, 0, none⟩ = some (.bool a0_0) ∧ w'.cell? ⟨gb202, 1, none⟩ = some (.int .u64 a0_1) ∧ w'.cell? ⟨gb202, 2, none⟩ = some (.int .u64 a0_2) ∧ w'.cell? ⟨gb203, 0, none⟩ = some (.bool a1_0) ∧ w'.cell? ⟨gb203, 1, none⟩ = some (.int .u64 a1_1) ∧ w'.cell? ⟨gb203, 2, none⟩ = some (.int .u64 a1_2)) (ds := [10, 11]) #[N,N,N,N,N,N,N,N,N,N,N,N] (by kernel_rfl) rfl rfl ⟨(blk_cell BK202.out 0).trans rfl, (blk_cell BK202.out 1).trans rfl, (blk_cell BK202.out 2).trans rfl, (blk_cell BK203.out 0).trans rfl, (blk_cell BK203.out 1).trans rfl, (blk_cell BK203.out 2).trans rfl⟩ (fun hHeld => ?_); refine with_tabW big_Cmp.tab1 big_Cmp.bits1 (fun HT_ HW_ => ?_)
 generalize w9.drew = w10 at BK202 BK203 HB hHeld ⊢
 refine pureA_ (i := 2) (N := some 7) #[N,N,Y,N,N,N,N,N,N,N,N,N] rfl rfl (any_of HT_.out (by kernel_rfl)) ?_
 refine pureA_ (i := 7) (N := some 12) #[N,N,Y,N,N,N,N,Y,N,N,N,N] rfl rfl (any_of HT_.out (by kernel_rfl)) ?_
 refine take_ (i := 0) (N := some 5) (v := ?_) (a' := ?_) #[Y,N,Y,N,N,N,N,Y,N,N,N,N] rfl rfl (take_ofW HT_.out HW_.out (by kernel_rfl)) (fun _ _ _ h => h) (Or.inl ⟨by rfl, ?_⟩) hHeld ?_ ?_; rotate_left
 ·rintro w' ⟨s0, s1, s2, s3, s4, s5⟩; go_simp
  with_reducible rfl
 rotate_left
 ·simp only [Act.put, sA, sB, sC, i64_w, i32_w]
  rfl
 refine take_ (i := 3) (N := some 8) (v := ?_) (a' := ?_) #[Y,N,Y,Y,N,N,N,Y,N,N,N,N] rfl rfl (take_ofW HT_.out HW_.out (by kernel_rfl)) (fun _ _ _ h => h) (Or.inl ⟨by rfl, ?_⟩) hHeld ?_ ?_; rotate_left
 ·rintro w' ⟨s0, s1, s2, s3, s4, s5⟩; go_simp
  with_reducible rfl
 rotate_left
 ·simp only [Act.put, sA, sB, sC, i64_w, i32_w]
  rfl
 refine take_ (i := 5) (N := some 10) (v := ?_) (a' := ?_) #[Y,N,Y,Y,N,Y,N,Y,N,N,N,N] rfl rfl (take_ofW HT_.out HW_.out (by kernel_rfl)) (fun _ _ _ h => h) (Or.inl ⟨by rfl, ?_⟩) hHeld ?_ ?_; rotate_left
 ·rintro w' ⟨s0, s1, s2, s3, s4, s5⟩; go_simp
  with_reducible rfl
 rotate_left
 ·simp only [Act.put, sA, sB, sC, i64_w, i32_w]
  rfl
 refine take_ (i := 8) (N := some 13) (v := ?_) (a' := ?_) #[Y,N,Y,Y,N,Y,N,Y,Y,N,N,N] rfl rfl (take_ofW HT_.out HW_.out (by kernel_rfl)) (fun _ _ _ h => h) (Or.inl ⟨by rfl, ?_⟩) hHeld ?_ ?_; rotate_left
 ·rintro w' ⟨s0, s1, s2, s3, s4, s5⟩; go_simp
  with_reducible rfl
 rotate_left
 ·simp only [Act.put, sA, sB, sC, i64_w, i32_w]
  rfl
 refine one_ (i := 1) (N := some 6) #[Y,Y,Y,Y,N,Y,N,Y,Y,N,N,N] rfl rfl (one_of HT_.out (by kernel_rfl)) (by decide) (fun K hK => ?_); refine goesA_ Tryz.func148 rfl #[.agg #[.bool a0_0, .int .u64 a0_1, .int .u64 a0_2]] (by rfl) rfl rfl ?_
 with_reducible refine (big_of.calls a0_0 a0_1 a0_2 t204 t205 _ A3.out).mono ?_
 rintro e w11 ⟨rfl, hb⟩; refine ⟨_, rfl, ?_⟩; replace BK202 := bbZ BK202 hb; replace BK203 := bbZ BK203 hb; replace HB := Aside0.mk (below_step HB.out hb); clear hb; refine hK.out _ _ ⟨(blk_cell BK202.out 0).trans rfl, (blk_cell BK202.out 1).trans rfl, (blk_cell BK202.out 2).trans rfl, (blk_cell BK203.out 0).trans rfl, (blk_cell BK203.out 1).trans rfl, (blk_cell BK203.out 2).trans rfl⟩ (fun hHeld => ?_); clear hK K; refine normA_ (some 6) ?_
 refine one_ (i := 4) (N := some 9) #[Y,Y,Y,Y,Y,Y,N,Y,Y,N,N,N] rfl rfl (one_of HT_.out (by kernel_rfl)) (by decide) (fun K hK => ?_); refine goesA_ Tryz.func103 rfl #[.agg #[.int .u64 t204, .int .u64 t205], .bool a0_0] (by rfl) rfl rfl ?_
 with_reducible refine (big_size_with.calls t204 t205 a0_0 t206 t207 t208 _ A4.out).mono ?_
 rintro e w12 ⟨rfl, hb⟩; refine ⟨_, rfl, ?_⟩; replace BK202 := bbZ BK202 hb; replace BK203 := bbZ BK203 hb; replace HB := Aside0.mk (below_step HB.out hb); clear hb; refine hK.out _ _ ⟨(blk_cell BK202.out 0).trans rfl, (blk_cell BK202.out 1).trans rfl, (blk_cell BK202.out 2).trans rfl, (blk_cell BK203.out 0).trans rfl, (blk_cell BK203.out 1).trans rfl, (blk_cell BK203.out 2).trans rfl⟩ (fun hHeld => ?_); clear hK K; refine normA_ (some 9) ?_
 refine one_ (i := 6) (N := some 11) #[Y,Y,Y,Y,Y,Y,Y,Y,Y,N,N,N] rfl rfl (one_of HT_.out (by kernel_rfl)) (by decide) (fun K hK => ?_); refine goesA_ Tryz.func148 rfl #[.agg #[.bool a1_0, .int .u64 a1_1, .int .u64 a1_2]] (by rfl) rfl rfl ?_
 with_reducible refine (big_of.calls a1_0 a1_1 a1_2 t209 t210 _ A5.out).mono ?_
 rintro e w13 ⟨rfl, hb⟩; refine ⟨_, rfl, ?_⟩; replace BK202 := bbZ BK202 hb; replace BK203 := bbZ BK203 hb; replace HB := Aside0.mk (below_step HB.out hb); clear hb; refine hK.out _ _ ⟨(blk_cell BK202.out 0).trans rfl, (blk_cell BK202.out 1).trans rfl, (blk_cell BK202.out 2).trans rfl, (blk_cell BK203.out 0).trans rfl, (blk_cell BK203.out 1).trans rfl, (blk_cell BK203.out 2).trans rfl⟩ (fun hHeld => ?_); clear hK K; refine normA_ (some 11) ?_
 refine one_ (i := 9) (N := some 14) #[Y,Y,Y,Y,Y,Y,Y,Y,Y,Y,N,N] rfl rfl (one_of HT_.out (by kernel_rfl)) (by decide) (fun K hK => ?_); refine goesA_ Tryz.func103 rfl #[.agg #[.int .u64 t209, .int .u64 t210], .bool a1_0] (by rfl) rfl rfl ?_
 with_reducible refine (big_size_with.calls t209 t210 a1_0 t211 t212 t213 _ A6.out).mono ?_
 rintro e w14 ⟨rfl, hb⟩; refine ⟨_, rfl, ?_⟩; replace BK202 := bbZ BK202 hb; replace BK203 := bbZ BK203 hb; replace HB := Aside0.mk (below_step HB.out hb); clear hb; refine hK.out _ _ ⟨(blk_cell BK202.out 0).trans rfl, (blk_cell BK202.out 1).trans rfl, (blk_cell BK202.out 2).trans rfl, (blk_cell BK203.out 0).trans rfl, (blk_cell BK203.out 1).trans rfl, (blk_cell BK203.out 2).trans rfl⟩ (fun hHeld => ?_); clear hK K; refine normA_ (some 14) ?_
 refine last_ (i := 10) (N := none) #[Y,Y,Y,Y,Y,Y,Y,Y,Y,Y,Y,N] rfl rfl (one_of HT_.out (by kernel_rfl)) (by decide) (fun K hK => ?_); have hs15 := czZ BK202 0 (.bool a0_0); have hfs15 := blk_frozen BK202.out 0; have hns15_1 := NB203_202.out; have hms15_1 := NB202_203.out; have hs16 := czZ BK202 1 (.int .u64 a0_1); have hfs16 := blk_frozen BK202.out 1; have hns16_1 := NB203_202.out; have hms16_1 := NB202_203.out; have hs17 := czZ BK202 2 (.int .u64 a0_2); have hfs17 := blk_frozen BK202.out 2; have hns17_1 := NB203_202.out; have hms17_1 := NB202_203.out; refine skip_ (w1 := ?_) (by rfl) rfl ?_ ?_; rotate_left
 ·go_simp
  rfl
 refine hK.out _ _ ?_; clear hK K; refine last_ (i := 11) (N := none) #[Y,Y,Y,Y,Y,Y,Y,Y,Y,Y,Y,Y] rfl rfl (one_of HT_.out (by kernel_rfl)) (by decide) (fun K hK => ?_); have hs18 := czZ BK203 0 (.bool a1_0); have hfs18 := blk_frozen BK203.out 0; have hns18_0 := NB202_203.out; have hms18_0 := NB203_202.out; have hs19 := czZ BK203 1 (.int .u64 a1_1); have hfs19 := blk_frozen BK203.out 1; have hns19_0 := NB202_203.out; have hms19_0 := NB203_202.out; have hs20 := czZ BK203 2 (.int .u64 a1_2); have hfs20 := blk_frozen BK203.out 2; have hns20_0 := NB202_203.out; have hms20_0 := NB203_202.out; refine skip_ (w1 := ?_) (by rfl) rfl ?_ ?_; rotate_left
 ·go_simp
  rfl
 refine hK.out _ _ ?_; clear hK K; refine done_ (done_of HT_.out (by kernel_rfl)) ?_; have hnb21 := NB202_203.out; have hnc21 := NB203_202.out; have hcz22_0 := czZ BK202 0 (.bool a0_0); have hcz22_1 := czZ BK202 1 (.int .u64 a0_1); have hcz22_2 := czZ BK202 2 (.int .u64 a0_2); have hfz22_0 := blk_frozen BK202.out 0; have hfz22_1 := blk_frozen BK202.out 1; have hfz22_2 := blk_frozen BK202.out 2; have hcz23_0 := czZ BK203 0 (.bool a1_0); have hcz23_1 := czZ BK203 1 (.int .u64 a1_1); have hcz23_2 := czZ BK203 2 (.int .u64 a1_2); have hfz23_0 := blk_frozen BK203.out 0; have hfz23_1 := blk_frozen BK203.out 1; have hfz23_2 := blk_frozen BK203.out 2
 by_cases c7 : (t206 == t211 && (t207 == t212 && (t208 == t213))) = true
 ·rw [if_pos c7] at H
  have c7b0 : (t206 == t211 && (t207 == t212 && (t208 == t213))) = true := c7
  (try (have c7b1 : decide (t206 = t211 && (t207 == t212 && (t208 == t213))) = true := by simpa using c7))
  (try (have c7b2 : (t206 == t211 && (t207 == t212 && (t208 == t213))) = true := by simpa using c7))
  clear c7; obtain rfl := Option.some.inj H
  try go_wp2
  go_ret
  exact ⟨by first | rfl | (simp [errW_none, errW_some] <;> rfl) | (simp [*, errW_none, errW_some] <;> rfl), by repeat (first | (with_reducible first | exact HB.out | apply below_alloc | apply pw_below_drewN | apply below_drew1 | refine below_set ?_ (Aside0.out (by assumption))) | exact HB.out)⟩
 ·rw [if_neg c7] at H
  have c7b0 : (t206 == t211 && (t207 == t212 && (t208 == t213))) = false := by simpa using c7
  (try (have c7b1 : decide (t206 = t211 && (t207 == t212 && (t208 == t213))) = false := by simpa using c7))
  (try (have c7b2 : (t206 == t211 && (t207 == t212 && (t208 == t213))) = false := by simpa using c7))
  (try (have c7b3 : ¬ (t206 = t211 && (t207 == t212 && (t208 == t213))) := by simpa using c7))
  clear c7; have HC24 := Aside0.mk H; clear H
  go_upto_region 4 with (fail)
  go_cut [19] (fun v19 wc => ∃ (kq : Nat) (x19_23 : Bool), v19 = .bool x19_23 ∧ Aside0 (big_Cmp.j0 kq x19_23 t206 t207 t208 t211 t212 t213 = some r) ∧ Aside0 (kq ≤ k) ∧ Aside0 (wc.heap[gb202]? = some (.cells #[.bool t206, .int .u64 t207, .int .u64 t208] 99 (0, 0))) ∧ Aside0 (wc.heap[gb203]? = some (.cells #[.bool t211, .int .u64 t212, .int .u64 t213] 99 (0, 0))) ∧ Aside0 (Below w.heap.size w wc))
  case first =>
   have H := HC24.out; clear HC24
   by_cases c41 : (t206 != t211) = true
   ·rw [if_pos c41] at H
    have c41b0 : (t206 != t211) = true := c41
    (try (have c41b1 : decide (t206 = t211) = false := by simpa using c41))
    (try (have c41b2 : (t206 == t211) = false := by simpa using c41))
    (try (have c41b3 : ¬ (t206 = t211) := by simpa using c41))
    clear c41
    (first | rw [c41b0] | (simp only [i64_w, i32_w]; rw [c41b0]) | skip)
    have H' := Aside0.mk H; clear H; have hnb42 := NB202_203.out; have hnc42 := NB203_202.out; have hcz43_0 := czZ BK202 0 (.bool a0_0); have hcz43_1 := czZ BK202 1 (.int .u64 a0_1); have hcz43_2 := czZ BK202 2 (.int .u64 a0_2); have hfz43_0 := blk_frozen BK202.out 0; have hfz43_1 := blk_frozen BK202.out 1; have hfz43_2 := blk_frozen BK202.out 2; have hcz44_0 := czZ BK203 0 (.bool a1_0); have hcz44_1 := czZ BK203 1 (.int .u64 a1_1); have hcz44_2 := czZ BK203 2 (.int .u64 a1_2); have hfz44_0 := blk_frozen BK203.out 0; have hfz44_1 := blk_frozen BK203.out 1; have hfz44_2 := blk_frozen BK203.out 2
    go_wp2
    go_meet
    case rel => exact ⟨_, (t206), (by first | rfl | (simp; done) | (simp [*]; done)), H', ⟨by first | omega | exact Nat.le_refl _⟩, ⟨by (with_reducible repeat first | apply blk_drewN | apply blk_drew | apply blk_alloc); refine blk_far ?_ NB202_203.out _; (with_reducible repeat first | apply blk_drewN | apply blk_drew | apply blk_alloc); refine blk_far ?_ NB202_203.out _; (with_reducible repeat first | apply blk_drewN | apply blk_drew | apply blk_alloc); refine blk_far ?_ NB202_203.out _; (with_reducible repeat first | apply blk_drewN | apply blk_drew | apply blk_alloc); refine blk_put (cs := #[.bool t206, .int .u64 t207, .int .u64 a0_2]) ?_ 2 _ rfl; (with_reducible repeat first | apply blk_drewN | apply blk_drew | apply blk_alloc); refine blk_put (cs := #[.bool t206, .int .u64 a0_1, .int .u64 a0_2]) ?_ 1 _ rfl; (with_reducible repeat first | apply blk_drewN | apply blk_drew | apply blk_alloc); refine blk_put (cs := #[.bool a0_0, .int .u64 a0_1, .int .u64 a0_2]) ?_ 0 _ rfl; (with_reducible repeat first | apply blk_drewN | apply blk_drew | apply blk_alloc); exact BK202.out⟩, ⟨by (with_reducible repeat first | apply blk_drewN | apply blk_drew | apply blk_alloc); refine blk_put (cs := #[.bool t211, .int .u64 t212, .int .u64 a1_2]) ?_ 2 _ rfl; (with_reducible repeat first | apply blk_drewN | apply blk_drew | apply blk_alloc); refine blk_put (cs := #[.bool t211, .int .u64 a1_1, .int .u64 a1_2]) ?_ 1 _ rfl; (with_reducible repeat first | apply blk_drewN | apply blk_drew | apply blk_alloc); refine blk_put (cs := #[.bool a1_0, .int .u64 a1_1, .int .u64 a1_2]) ?_ 0 _ rfl; (with_reducible repeat first | apply blk_drewN | apply blk_drew | apply blk_alloc); refine blk_far ?_ NB203_202.out _; (with_reducible repeat first | apply blk_drewN | apply blk_drew | apply blk_alloc); refine blk_far ?_ NB203_202.out _; (with_reducible repeat first | apply blk_drewN | apply blk_drew | apply blk_alloc); refine blk_far ?_ NB203_202.out _; (with_reducible repeat first | apply blk_drewN | apply blk_drew | apply blk_alloc); exact BK203.out⟩, ⟨by repeat (first | (with_reducible first | exact HB.out | apply below_alloc | apply pw_below_drewN | apply below_drew1 | refine below_set ?_ (Aside0.out (by assumption))) | exact HB.out)⟩⟩
   ·rw [if_neg c41] at H
    have c41b0 : (t206 != t211) = false := by simpa using c41
    (try (have c41b1 : decide (t206 = t211) = true := by simpa using c41))
    (try (have c41b2 : (t206 == t211) = true := by simpa using c41))
    clear c41
    (first | rw [c41b0] | (simp only [i64_w, i32_w]; rw [c41b0]) | skip)
    have H' := Aside0.mk H; clear H; have hnb45 := NB202_203.out; have hnc45 := NB203_202.out; have hcz46_0 := czZ BK202 0 (.bool a0_0); have hcz46_1 := czZ BK202 1 (.int .u64 a0_1); have hcz46_2 := czZ BK202 2 (.int .u64 a0_2); have hfz46_0 := blk_frozen BK202.out 0; have hfz46_1 := blk_frozen BK202.out 1; have hfz46_2 := blk_frozen BK202.out 2; have hcz47_0 := czZ BK203 0 (.bool a1_0); have hcz47_1 := czZ BK203 1 (.int .u64 a1_1); have hcz47_2 := czZ BK203 2 (.int .u64 a1_2); have hfz47_0 := blk_frozen BK203.out 0; have hfz47_1 := blk_frozen BK203.out 1; have hfz47_2 := blk_frozen BK203.out 2
    go_wp2
    go_meet
    case rel => exact ⟨_, (false), (by first | rfl | (simp; done) | (simp [*]; done)), H', ⟨by first | omega | exact Nat.le_refl _⟩, ⟨by (with_reducible repeat first | apply blk_drewN | apply blk_drew | apply blk_alloc); refine blk_far ?_ NB202_203.out _; (with_reducible repeat first | apply blk_drewN | apply blk_drew | apply blk_alloc); refine blk_far ?_ NB202_203.out _; (with_reducible repeat first | apply blk_drewN | apply blk_drew | apply blk_alloc); refine blk_far ?_ NB202_203.out _; (with_reducible repeat first | apply blk_drewN | apply blk_drew | apply blk_alloc); refine blk_put (cs := #[.bool t206, .int .u64 t207, .int .u64 a0_2]) ?_ 2 _ rfl; (with_reducible repeat first | apply blk_drewN | apply blk_drew | apply blk_alloc); refine blk_put (cs := #[.bool t206, .int .u64 a0_1, .int .u64 a0_2]) ?_ 1 _ rfl; (with_reducible repeat first | apply blk_drewN | apply blk_drew | apply blk_alloc); refine blk_put (cs := #[.bool a0_0, .int .u64 a0_1, .int .u64 a0_2]) ?_ 0 _ rfl; (with_reducible repeat first | apply blk_drewN | apply blk_drew | apply blk_alloc); exact BK202.out⟩, ⟨by (with_reducible repeat first | apply blk_drewN | apply blk_drew | apply blk_alloc); refine blk_put (cs := #[.bool t211, .int .u64 t212, .int .u64 a1_2]) ?_ 2 _ rfl; (with_reducible repeat first | apply blk_drewN | apply blk_drew | apply blk_alloc); refine blk_put (cs := #[.bool t211, .int .u64 a1_1, .int .u64 a1_2]) ?_ 1 _ rfl; (with_reducible repeat first | apply blk_drewN | apply blk_drew | apply blk_alloc); refine blk_put (cs := #[.bool a1_0, .int .u64 a1_1, .int .u64 a1_2]) ?_ 0 _ rfl; (with_reducible repeat first | apply blk_drewN | apply blk_drew | apply blk_alloc); refine blk_far ?_ NB203_202.out _; (with_reducible repeat first | apply blk_drewN | apply blk_drew | apply blk_alloc); refine blk_far ?_ NB203_202.out _; (with_reducible repeat first | apply blk_drewN | apply blk_drew | apply blk_alloc); refine blk_far ?_ NB203_202.out _; (with_reducible repeat first | apply blk_drewN | apply blk_drew | apply blk_alloc); exact BK203.out⟩, ⟨by repeat (first | (with_reducible first | exact HB.out | apply below_alloc | apply pw_below_drewN | apply below_drew1 | refine below_set ?_ (Aside0.out (by assumption))) | exact HB.out)⟩⟩
  case rest =>
   clear HC24
   try clear c1
   try clear c2
   try clear p2
   try clear c3
   try clear c4
   try clear c7
   try clear c7b0
   try clear c7b1
   try clear c7b2
   try clear c10
   try clear c11
   try clear c14
   try clear c21
   try clear c38
   try clear c41
   try clear c41b0
   try clear c41b1
   try clear c41b2
   try clear c42
   try clear c45
   try clear hcz22_0
   try clear hcz22_1
   try clear hcz22_2
   try clear hcz23_0
   try clear hcz23_1
   try clear hcz23_2
   try clear hcz22_0
   try clear hcz22_1
   try clear hcz22_2
   try clear hcz23_0
   try clear hcz23_1
   try clear hcz23_2
   try clear hcz43_0
   try clear hcz43_1
   try clear hcz43_2
   try clear hcz44_0
   try clear hcz44_1
   try clear hcz44_2
   try clear hcz46_0
   try clear hcz46_1
   try clear hcz46_2
   try clear hcz47_0
   try clear hcz47_1
   try clear hcz47_2
   try clear hfz22_0
   try clear hfz22_1
   try clear hfz22_2
   try clear hfz23_0
   try clear hfz23_1
   try clear hfz23_2
   try clear hfz22_0
   try clear hfz22_1
   try clear hfz22_2
   try clear hfz23_0
   try clear hfz23_1
   try clear hfz23_2
   try clear hfz43_0
   try clear hfz43_1
   try clear hfz43_2
   try clear hfz44_0
   try clear hfz44_1
   try clear hfz44_2
   try clear hfz46_0
   try clear hfz46_1
   try clear hfz46_2
   try clear hfz47_0
   try clear hfz47_1
   try clear hfz47_2
   obtain ⟨kq, x19_23, rfl, HA, HJ23, BK202, BK203, HB⟩ := hcut
   cases kq with
   | zero => exact absurd HA.out (by simp [big_Cmp.j0])
   | succ kj23 =>
    have H := HA.out; clear HA; simp only [big_Cmp.j0] at H
    by_cases c48 : x19_23 = true
    ·subst c48
     have H1 : (some (-1)) = some r := by rw [if_pos rfl] at H; exact H
     clear H; have H := H1; clear H1; obtain rfl := Option.some.inj H
     go_wp2
     go_ret
     exact ⟨by first | rfl | (simp [errW_none, errW_some] <;> rfl) | (simp [*, errW_none, errW_some] <;> rfl), by repeat (first | (with_reducible first | exact HB.out | apply below_alloc | apply pw_below_drewN | apply below_drew1 | refine below_set ?_ (Aside0.out (by assumption))) | exact HB.out)⟩
    ·replace c48 := Bool.eq_false_iff.mpr c48
     subst c48
     have H1 : (if (t206 != t211) = true then (some 1) else (if t206 = true then ((big_of.f t211 t212 t213).bind fun bt214 => ((big_of.f t206 t207 t208).bind fun bt216 => ((big_size_cmpS.f bt214.1 bt214.2 bt216.1 bt216.2).bind fun t218 => (some t218)))) else ((big_of.f t206 t207 t208).bind fun bt219 => ((big_of.f t211 t212 t213).bind fun bt221 => ((big_size_cmpS.f bt219.1 bt219.2 bt221.1 bt221.2).bind fun t223 => (some t223)))))) = some r := by rw [if_neg (show ¬ (false = true) by decide)] at H; exact H
     clear H; have H := H1; clear H1
     by_cases c49 : (t206 != t211) = true
     ·rw [if_pos c49] at H
      have c49b0 : (t206 != t211) = true := c49
      (try (have c49b1 : decide (t206 = t211) = false := by simpa using c49))
      (try (have c49b2 : (t206 == t211) = false := by simpa using c49))
      (try (have c49b3 : ¬ (t206 = t211) := by simpa using c49))
      clear c49; obtain rfl := Option.some.inj H; have hnb50 := NB202_203.out; have hnc50 := NB203_202.out; have hcz51_0 : wc.cell? ⟨gb202, 0, none⟩ = some (.bool t206) := (blk_cell BK202.out 0).trans rfl; have hcz51_1 : wc.cell? ⟨gb202, 1, none⟩ = some (.int .u64 t207) := (blk_cell BK202.out 1).trans rfl; have hcz51_2 : wc.cell? ⟨gb202, 2, none⟩ = some (.int .u64 t208) := (blk_cell BK202.out 2).trans rfl; have hfz51_0 := blk_frozen BK202.out 0; have hfz51_1 := blk_frozen BK202.out 1; have hfz51_2 := blk_frozen BK202.out 2; have hcz52_0 : wc.cell? ⟨gb203, 0, none⟩ = some (.bool t211) := (blk_cell BK203.out 0).trans rfl; have hcz52_1 : wc.cell? ⟨gb203, 1, none⟩ = some (.int .u64 t212) := (blk_cell BK203.out 1).trans rfl; have hcz52_2 : wc.cell? ⟨gb203, 2, none⟩ = some (.int .u64 t213) := (blk_cell BK203.out 2).trans rfl; have hfz52_0 := blk_frozen BK203.out 0; have hfz52_1 := blk_frozen BK203.out 1; have hfz52_2 := blk_frozen BK203.out 2
      go_wp2
      go_ret
      exact ⟨by first | rfl | (simp [errW_none, errW_some] <;> rfl) | (simp [*, errW_none, errW_some] <;> rfl), by repeat (first | (with_reducible first | exact HB.out | apply below_alloc | apply pw_below_drewN | apply below_drew1 | refine below_set ?_ (Aside0.out (by assumption))) | exact HB.out)⟩
     ·rw [if_neg c49] at H
      have c49b0 : (t206 != t211) = false := by simpa using c49
      (try (have c49b1 : decide (t206 = t211) = true := by simpa using c49))
      (try (have c49b2 : (t206 == t211) = true := by simpa using c49))
      clear c49
      by_cases c53 : t206 = true
      ·subst c53
       have H1 : ((big_of.f t211 t212 t213).bind fun bt214 => ((big_of.f true t207 t208).bind fun bt216 => ((big_size_cmpS.f bt214.1 bt214.2 bt216.1 bt216.2).bind fun t218 => (some t218)))) = some r := by rw [if_pos rfl] at H; exact H
       clear H; have H := H1; clear H1; replace H := Option.bind_eq_some_iff.mp H; obtain ⟨⟨t214, t215⟩, A540, H⟩ := H; replace H : ((big_of.f true t207 t208).bind fun bt216 => ((big_size_cmpS.f t214 t215 bt216.1 bt216.2).bind fun t218 => (some t218))) = some r := H; have A54 := Aside0.mk A540; clear A540; replace H := Option.bind_eq_some_iff.mp H; obtain ⟨⟨t216, t217⟩, A550, H⟩ := H; replace H : ((big_size_cmpS.f t214 t215 t216 t217).bind fun t218 => (some t218)) = some r := H; have A55 := Aside0.mk A550; clear A550; replace H := Option.bind_eq_some_iff.mp H; obtain ⟨t218, A560, H⟩ := H; replace H : (some t218) = some r := H; have A56 := Aside0.mk A560; clear A560; obtain rfl := Option.some.inj H; have hnb57 := NB202_203.out; have hnc57 := NB203_202.out; have hcz58_0 : wc.cell? ⟨gb202, 0, none⟩ = some (.bool true) := (blk_cell BK202.out 0).trans rfl; have hcz58_1 : wc.cell? ⟨gb202, 1, none⟩ = some (.int .u64 t207) := (blk_cell BK202.out 1).trans rfl; have hcz58_2 : wc.cell? ⟨gb202, 2, none⟩ = some (.int .u64 t208) := (blk_cell BK202.out 2).trans rfl; have hfz58_0 := blk_frozen BK202.out 0; have hfz58_1 := blk_frozen BK202.out 1; have hfz58_2 := blk_frozen BK202.out 2; have hcz59_0 : wc.cell? ⟨gb203, 0, none⟩ = some (.bool t211) := (blk_cell BK203.out 0).trans rfl; have hcz59_1 : wc.cell? ⟨gb203, 1, none⟩ = some (.int .u64 t212) := (blk_cell BK203.out 1).trans rfl; have hcz59_2 : wc.cell? ⟨gb203, 2, none⟩ = some (.int .u64 t213) := (blk_cell BK203.out 2).trans rfl; have hfz59_0 := blk_frozen BK203.out 0; have hfz59_1 := blk_frozen BK203.out 1; have hfz59_2 := blk_frozen BK203.out 2
       try go_wp2
       replace BK202 := Aside0.mk (blk_drew BK202.out); replace BK203 := Aside0.mk (blk_drew BK203.out); replace HB := Aside0.mk (below_drew1 HB.out); refine start_ (n := 6) (S := fun w' => w'.cell? ⟨gb203, 0, none⟩ = some (.bool t211) ∧ w'.cell? ⟨gb203, 1, none⟩ = some (.int .u64 t212) ∧ w'.cell? ⟨gb203, 2, none⟩ = some (.int .u64 t213) ∧ w'.cell? ⟨gb202, 0, none⟩ = some (.bool true) ∧ w'.cell? ⟨gb202, 1, none⟩ = some (.int .u64 t207) ∧ w'.cell? ⟨gb202, 2, none⟩ = some (.int .u64 t208)) (ds := []) #[N,N,N,N,N,N] (by kernel_rfl) rfl rfl ⟨(blk_cell BK203.out 0).trans rfl, (blk_cell BK203.out 1).trans rfl, (blk_cell BK203.out 2).trans rfl, (blk_cell BK202.out 0).trans rfl, (blk_cell BK202.out 1).trans rfl, (blk_cell BK202.out 2).trans rfl⟩ (fun hHeld => ?_)
       generalize wc.drew = w60 at BK202 BK203 HB hHeld ⊢
       refine take_ (i := 0) (N := some 38) (v := ?_) (a' := ?_) #[Y,N,N,N,N,N] rfl rfl (by kernel_rfl) (fun _ _ _ h => h) (Or.inl ⟨by rfl, ?_⟩) hHeld ?_ ?_; rotate_left
       ·rintro w' ⟨s0, s1, s2, s3, s4, s5⟩; go_simp
        with_reducible rfl
       rotate_left
       ·simp only [Act.put, sA, sB, sC, i64_w, i32_w]
        rfl
       refine take_ (i := 2) (N := some 40) (v := ?_) (a' := ?_) #[Y,N,Y,N,N,N] rfl rfl (by kernel_rfl) (fun _ _ _ h => h) (Or.inl ⟨by rfl, ?_⟩) hHeld ?_ ?_; rotate_left
       ·rintro w' ⟨s0, s1, s2, s3, s4, s5⟩; go_simp
        with_reducible rfl
       rotate_left
       ·simp only [Act.put, sA, sB, sC, i64_w, i32_w]
        rfl
       refine one_ (i := 1) (N := some 39) #[Y,Y,Y,N,N,N] rfl rfl (by kernel_rfl) (by decide) (fun K hK => ?_); refine goesA_ Tryz.func148 rfl #[.agg #[.bool t211, .int .u64 t212, .int .u64 t213]] (by rfl) rfl rfl ?_
       with_reducible refine (big_of.calls t211 t212 t213 t214 t215 _ A54.out).mono ?_
       rintro e w61 ⟨rfl, hb⟩; refine ⟨_, rfl, ?_⟩; replace BK202 := bbZ BK202 hb; replace BK203 := bbZ BK203 hb; replace HB := Aside0.mk (below_step HB.out hb); clear hb; refine hK.out _ _ ⟨(blk_cell BK203.out 0).trans rfl, (blk_cell BK203.out 1).trans rfl, (blk_cell BK203.out 2).trans rfl, (blk_cell BK202.out 0).trans rfl, (blk_cell BK202.out 1).trans rfl, (blk_cell BK202.out 2).trans rfl⟩ (fun hHeld => ?_); clear hK K; refine normA_ (some 39) ?_
       refine one_ (i := 3) (N := some 41) #[Y,Y,Y,Y,N,N] rfl rfl (by kernel_rfl) (by decide) (fun K hK => ?_); refine goesA_ Tryz.func148 rfl #[.agg #[.bool true, .int .u64 t207, .int .u64 t208]] (by rfl) rfl rfl ?_
       with_reducible refine (big_of.calls true t207 t208 t216 t217 _ A55.out).mono ?_
       rintro e w62 ⟨rfl, hb⟩; refine ⟨_, rfl, ?_⟩; replace BK202 := bbZ BK202 hb; replace BK203 := bbZ BK203 hb; replace HB := Aside0.mk (below_step HB.out hb); clear hb; refine hK.out _ _ ⟨(blk_cell BK203.out 0).trans rfl, (blk_cell BK203.out 1).trans rfl, (blk_cell BK203.out 2).trans rfl, (blk_cell BK202.out 0).trans rfl, (blk_cell BK202.out 1).trans rfl, (blk_cell BK202.out 2).trans rfl⟩ (fun hHeld => ?_); clear hK K; refine normA_ (some 41) ?_
       refine one_ (i := 4) (N := some 42) #[Y,Y,Y,Y,Y,N] rfl rfl (by kernel_rfl) (by decide) (fun K hK => ?_); refine goesA_ Tryz.func149 rfl #[.agg #[.int .u64 t214, .int .u64 t215], .agg #[.int .u64 t216, .int .u64 t217]] (by rfl) rfl rfl ?_
       with_reducible refine (big_size_cmpS.calls t214 t215 t216 t217 t218 _ A56.out).mono ?_
       rintro e w63 ⟨rfl, hb⟩; refine ⟨_, rfl, ?_⟩; replace BK202 := bbZ BK202 hb; replace BK203 := bbZ BK203 hb; replace HB := Aside0.mk (below_step HB.out hb); clear hb; refine hK.out _ _ ⟨(blk_cell BK203.out 0).trans rfl, (blk_cell BK203.out 1).trans rfl, (blk_cell BK203.out 2).trans rfl, (blk_cell BK202.out 0).trans rfl, (blk_cell BK202.out 1).trans rfl, (blk_cell BK202.out 2).trans rfl⟩ (fun hHeld => ?_); clear hK K; refine normA_ (some 42) ?_
       refine pureA_ (i := 5) (N := some 4) #[Y,Y,Y,Y,Y,Y] rfl rfl (by kernel_rfl) ?_
       refine done_ (by kernel_rfl) ?_
       try go_wp2
       go_ret
       exact ⟨by first | rfl | (simp [errW_none, errW_some] <;> rfl) | (simp [*, errW_none, errW_some] <;> rfl), by repeat (first | (with_reducible first | exact HB.out | apply below_alloc | apply pw_below_drewN | apply below_drew1 | refine below_set ?_ (Aside0.out (by assumption))) | exact HB.out)⟩
      ·replace c53 := Bool.eq_false_iff.mpr c53
       subst c53
       have H1 : ((big_of.f false t207 t208).bind fun bt219 => ((big_of.f t211 t212 t213).bind fun bt221 => ((big_size_cmpS.f bt219.1 bt219.2 bt221.1 bt221.2).bind fun t223 => (some t223)))) = some r := by rw [if_neg (show ¬ (false = true) by decide)] at H; exact H
       clear H; have H := H1; clear H1; replace H := Option.bind_eq_some_iff.mp H; obtain ⟨⟨t219, t220⟩, A640, H⟩ := H; replace H : ((big_of.f t211 t212 t213).bind fun bt221 => ((big_size_cmpS.f t219 t220 bt221.1 bt221.2).bind fun t223 => (some t223))) = some r := H; have A64 := Aside0.mk A640; clear A640; replace H := Option.bind_eq_some_iff.mp H; obtain ⟨⟨t221, t222⟩, A650, H⟩ := H; replace H : ((big_size_cmpS.f t219 t220 t221 t222).bind fun t223 => (some t223)) = some r := H; have A65 := Aside0.mk A650; clear A650; replace H := Option.bind_eq_some_iff.mp H; obtain ⟨t223, A660, H⟩ := H; replace H : (some t223) = some r := H; have A66 := Aside0.mk A660; clear A660; obtain rfl := Option.some.inj H; have hnb67 := NB202_203.out; have hnc67 := NB203_202.out; have hcz68_0 : wc.cell? ⟨gb202, 0, none⟩ = some (.bool false) := (blk_cell BK202.out 0).trans rfl; have hcz68_1 : wc.cell? ⟨gb202, 1, none⟩ = some (.int .u64 t207) := (blk_cell BK202.out 1).trans rfl; have hcz68_2 : wc.cell? ⟨gb202, 2, none⟩ = some (.int .u64 t208) := (blk_cell BK202.out 2).trans rfl; have hfz68_0 := blk_frozen BK202.out 0; have hfz68_1 := blk_frozen BK202.out 1; have hfz68_2 := blk_frozen BK202.out 2; have hcz69_0 : wc.cell? ⟨gb203, 0, none⟩ = some (.bool t211) := (blk_cell BK203.out 0).trans rfl; have hcz69_1 : wc.cell? ⟨gb203, 1, none⟩ = some (.int .u64 t212) := (blk_cell BK203.out 1).trans rfl; have hcz69_2 : wc.cell? ⟨gb203, 2, none⟩ = some (.int .u64 t213) := (blk_cell BK203.out 2).trans rfl; have hfz69_0 := blk_frozen BK203.out 0; have hfz69_1 := blk_frozen BK203.out 1; have hfz69_2 := blk_frozen BK203.out 2
       try go_wp2
       replace BK202 := Aside0.mk (blk_drew BK202.out); replace BK203 := Aside0.mk (blk_drew BK203.out); replace HB := Aside0.mk (below_drew1 HB.out); refine start_ (n := 6) (S := fun w' => w'.cell? ⟨gb202, 0, none⟩ = some (.bool false) ∧ w'.cell? ⟨gb202, 1, none⟩ = some (.int .u64 t207) ∧ w'.cell? ⟨gb202, 2, none⟩ = some (.int .u64 t208) ∧ w'.cell? ⟨gb203, 0, none⟩ = some (.bool t211) ∧ w'.cell? ⟨gb203, 1, none⟩ = some (.int .u64 t212) ∧ w'.cell? ⟨gb203, 2, none⟩ = some (.int .u64 t213)) (ds := []) #[N,N,N,N,N,N] (by kernel_rfl) rfl rfl ⟨(blk_cell BK202.out 0).trans rfl, (blk_cell BK202.out 1).trans rfl, (blk_cell BK202.out 2).trans rfl, (blk_cell BK203.out 0).trans rfl, (blk_cell BK203.out 1).trans rfl, (blk_cell BK203.out 2).trans rfl⟩ (fun hHeld => ?_)
       generalize wc.drew = w70 at BK202 BK203 HB hHeld ⊢
       refine take_ (i := 0) (N := some 43) (v := ?_) (a' := ?_) #[Y,N,N,N,N,N] rfl rfl (by kernel_rfl) (fun _ _ _ h => h) (Or.inl ⟨by rfl, ?_⟩) hHeld ?_ ?_; rotate_left
       ·rintro w' ⟨s0, s1, s2, s3, s4, s5⟩; go_simp
        with_reducible rfl
       rotate_left
       ·simp only [Act.put, sA, sB, sC, i64_w, i32_w]
        rfl
       refine take_ (i := 2) (N := some 45) (v := ?_) (a' := ?_) #[Y,N,Y,N,N,N] rfl rfl (by kernel_rfl) (fun _ _ _ h => h) (Or.inl ⟨by rfl, ?_⟩) hHeld ?_ ?_; rotate_left
       ·rintro w' ⟨s0, s1, s2, s3, s4, s5⟩; go_simp
        with_reducible rfl
       rotate_left
       ·simp only [Act.put, sA, sB, sC, i64_w, i32_w]
        rfl
       refine one_ (i := 1) (N := some 44) #[Y,Y,Y,N,N,N] rfl rfl (by kernel_rfl) (by decide) (fun K hK => ?_); refine goesA_ Tryz.func148 rfl #[.agg #[.bool false, .int .u64 t207, .int .u64 t208]] (by rfl) rfl rfl ?_
       with_reducible refine (big_of.calls false t207 t208 t219 t220 _ A64.out).mono ?_
       rintro e w71 ⟨rfl, hb⟩; refine ⟨_, rfl, ?_⟩; replace BK202 := bbZ BK202 hb; replace BK203 := bbZ BK203 hb; replace HB := Aside0.mk (below_step HB.out hb); clear hb; refine hK.out _ _ ⟨(blk_cell BK202.out 0).trans rfl, (blk_cell BK202.out 1).trans rfl, (blk_cell BK202.out 2).trans rfl, (blk_cell BK203.out 0).trans rfl, (blk_cell BK203.out 1).trans rfl, (blk_cell BK203.out 2).trans rfl⟩ (fun hHeld => ?_); clear hK K; refine normA_ (some 44) ?_
       refine one_ (i := 3) (N := some 46) #[Y,Y,Y,Y,N,N] rfl rfl (by kernel_rfl) (by decide) (fun K hK => ?_); refine goesA_ Tryz.func148 rfl #[.agg #[.bool t211, .int .u64 t212, .int .u64 t213]] (by rfl) rfl rfl ?_
       with_reducible refine (big_of.calls t211 t212 t213 t221 t222 _ A65.out).mono ?_
       rintro e w72 ⟨rfl, hb⟩; refine ⟨_, rfl, ?_⟩; replace BK202 := bbZ BK202 hb; replace BK203 := bbZ BK203 hb; replace HB := Aside0.mk (below_step HB.out hb); clear hb; refine hK.out _ _ ⟨(blk_cell BK202.out 0).trans rfl, (blk_cell BK202.out 1).trans rfl, (blk_cell BK202.out 2).trans rfl, (blk_cell BK203.out 0).trans rfl, (blk_cell BK203.out 1).trans rfl, (blk_cell BK203.out 2).trans rfl⟩ (fun hHeld => ?_); clear hK K; refine normA_ (some 46) ?_
       refine one_ (i := 4) (N := some 47) #[Y,Y,Y,Y,Y,N] rfl rfl (by kernel_rfl) (by decide) (fun K hK => ?_); refine goesA_ Tryz.func149 rfl #[.agg #[.int .u64 t219, .int .u64 t220], .agg #[.int .u64 t221, .int .u64 t222]] (by rfl) rfl rfl ?_
       with_reducible refine (big_size_cmpS.calls t219 t220 t221 t222 t223 _ A66.out).mono ?_
       rintro e w73 ⟨rfl, hb⟩; refine ⟨_, rfl, ?_⟩; replace BK202 := bbZ BK202 hb; replace BK203 := bbZ BK203 hb; replace HB := Aside0.mk (below_step HB.out hb); clear hb; refine hK.out _ _ ⟨(blk_cell BK202.out 0).trans rfl, (blk_cell BK202.out 1).trans rfl, (blk_cell BK202.out 2).trans rfl, (blk_cell BK203.out 0).trans rfl, (blk_cell BK203.out 1).trans rfl, (blk_cell BK203.out 2).trans rfl⟩ (fun hHeld => ?_); clear hK K; refine normA_ (some 47) ?_
       refine pureA_ (i := 5) (N := some 4) #[Y,Y,Y,Y,Y,Y] rfl rfl (by kernel_rfl) ?_
       refine done_ (by kernel_rfl) ?_
       try go_wp2
       go_ret
       exact ⟨by first | rfl | (simp [errW_none, errW_some] <;> rfl) | (simp [*, errW_none, errW_some] <;> rfl), by repeat (first | (with_reducible first | exact HB.out | apply below_alloc | apply pw_below_drewN | apply below_drew1 | refine below_set ?_ (Aside0.out (by assumption))) | exact HB.out)⟩

/-! ### big_CmpS: which number is greater: pure, behind function 112 -/
noncomputable def big_CmpS.f (n : Bool) (h l : Int) (m : Bool) (i k : Int) : Option Int := Sp.need (Sp.U h ∧ Sp.U l ∧ Sp.U i ∧ Sp.U k) (some (Sp.cmpI (Sp.val n h l) (Sp.val m i k)))
section BigCmp
open Go.Proofs.YtfahbgkoldoflaaGreatDoor.Sp
theorem size_cmp_enc {v w : Int} (h1 : B v) (h2 : B w) : big_size_cmpS.f (encH v) (encL v) (encH w) (encL w) = some (cmpI v.natAbs w.natAbs) := by
 unfold big_size_cmpS.f
 have a := encH_U h1; have b := encH_U h2; have c := @encL_U v; have d := @encL_U w
 rw [need_pos (by omega)]
 have e1 : encH v * 18446744073709551616 + encL v = v.natAbs := by unfold encH encL; omega
 have e2 : encH w * 18446744073709551616 + encL w = w.natAbs := by unfold encH encL; omega
 rw [e1, e2]
set_option maxRecDepth 100000 in
theorem big_Cmp.eq {v w : Int} (h1 : B v) (h2 : B w) (hd : v ≠ w) (x : Bool) (hx : x = if encN v = encN w then false else encN v) :
  big_Cmp.j0 1 x (encN v) (encH v) (encL v) (encN w) (encH w) (encL w) = some (cmpI v w) := by
 simp only [big_Cmp.j0, big_of.f, Option.bind_some]
 rw [size_cmp_enc h1 h2, size_cmp_enc h2 h1]
 simp only [Option.bind_some]
 unfold cmpI
 by_cases a : v < 0 <;> by_cases b : w < 0
 ·have ea := encN_neg a; have eb := encN_neg b
  rw [ea, eb] at hx ⊢; subst hx
  simp only [if_true, Bool.false_eq_true, if_false, bne_self_eq_false]
  congr 1; (repeat' split) <;> omega
 ·have ea := encN_neg a; have eb := encN_pos (v := w) (by omega)
  rw [ea, eb] at hx ⊢; subst hx
  simp; omega
 ·have ea := encN_pos (v := v) (by omega); have eb := encN_neg b
  rw [ea, eb] at hx ⊢; subst hx
  simp; omega
 ·have ea := encN_pos (v := v) (by omega); have eb := encN_pos (v := w) (by omega)
  rw [ea, eb] at hx ⊢; subst hx
  simp only [if_true, Bool.false_eq_true, if_false, bne_self_eq_false]
  congr 1; (repeat' split) <;> omega
theorem big_Cmp.main {n m : Bool} {h l i k : Int} (h1 : U h) (h2 : U l) (h3 : U i) (h4 : U k) : big_Cmp.f 1 n h l m i k = some (cmpI (val n h l) (val m i k)) := by
 unfold big_Cmp.f big_of.f
 simp only [Option.bind_some]
 rw [big_with.eq h1 h2, big_with.eq h3 h4]
 simp only [Option.bind_some]; have b1 := val_B (n := n) h1 h2; have b2 := val_B (n := m) h3 h4
 generalize val n h l = v at *
 generalize val m i k = w at *
 by_cases hd : v = w
 ·subst hd; simp [cmpI]
 ·have hne : (encN v == encN w && (encH v == encH w && (encL v == encL w))) ≠ true := by
   intro h; simp at h; exact hd (enc_inj h.1 h.2.1 h.2.2)
  rw [if_neg hne]
  by_cases hs : encN v = encN w
  ·rw [if_neg (by simp [hs])]
   exact big_Cmp.eq b1 b2 hd false (by rw [if_pos hs])
  ·rw [if_pos (by simpa using hs)]
   exact big_Cmp.eq b1 b2 hd _ (by rw [if_neg hs])
end BigCmp
theorem big_CmpS.eq {n m : Bool} {h l i k : Int} (h1 : Sp.U h) (h2 : Sp.U l) (h3 : Sp.U i) (h4 : Sp.U k) : big_CmpS.f n h l m i k = some (Sp.cmpI (Sp.val n h l) (Sp.val m i k)) := Sp.need_pos ⟨h1, h2, h3, h4⟩
theorem big_CmpS.enc {v w : Int} (h1 : Sp.B v) (h2 : Sp.B w) : big_CmpS.f (Sp.encN v) (Sp.encH v) (Sp.encL v) (Sp.encN w) (Sp.encH w) (Sp.encL w) = some (Sp.cmpI v w) := by
 rw [big_CmpS.eq (Sp.encH_U h1) Sp.encL_U (Sp.encH_U h2) Sp.encL_U, Sp.val_enc, Sp.val_enc]
theorem big_CmpS.el {m : Bool} {v i k : Int} (h1 : Sp.B v) (h2 : Sp.U i) (h3 : Sp.U k) : big_CmpS.f (Sp.encN v) (Sp.encH v) (Sp.encL v) m i k = some (Sp.cmpI v (Sp.val m i k)) := by
 rw [big_CmpS.eq (Sp.encH_U h1) Sp.encL_U h2 h3, Sp.val_enc]
theorem big_CmpS.le {n : Bool} {h l w : Int} (h1 : Sp.U h) (h2 : Sp.U l) (h3 : Sp.B w) : big_CmpS.f n h l (Sp.encN w) (Sp.encH w) (Sp.encL w) = some (Sp.cmpI (Sp.val n h l) w) := by
 rw [big_CmpS.eq h1 h2 (Sp.encH_U h3) Sp.encL_U, Sp.val_enc]
theorem big_CmpS.calls (a0_0 : Bool) (a0_1 a0_2 : Int) (a1_0 : Bool) (a1_1 a1_2 r : Int) (w : World) (h : big_CmpS.f a0_0 a0_1 a0_2 a1_0 a1_1 a1_2 = some r) :
  Calls Tryz.prog 112 #[.agg #[.bool a0_0, .int .u64 a0_1, .int .u64 a0_2], .agg #[.bool a1_0, .int .u64 a1_1, .int .u64 a1_2]] w fun e w' => e = .returned (.int .i64 r) ∧ Below w.heap.size w w' := by
 obtain ⟨hc, h⟩ := Sp.need_some h; obtain ⟨h1, h2, h3, h4⟩ := hc; exact big_Cmp.calls 1 _ _ _ _ _ _ r w (by rw [big_Cmp.main h1 h2 h3 h4]; exact h)

-- NOT PRINTED: function 110 (root_Third_1)

/-! ### root_Third: function 51 -/
noncomputable def root_Third.f (n : Bool) (h l : Int) : Option Int := Sp.need (Sp.U h ∧ Sp.U l) (some (Sp.root3 (h * 18446744073709551616 + l)))
theorem root_Third.eq {n : Bool} {h l : Int} (h1 : Sp.U h) (h2 : Sp.U l) : root_Third.f n h l = some (Sp.root3 (h * 18446744073709551616 + l)) := Sp.need_pos ⟨h1, h2⟩
set_option maxHeartbeats 1000000 in
set_option maxRecDepth 100000 in
theorem root_Third.closure (g : Nat) (n h l : Int) (c1 : Bool) (c2 c3 e k : Int) (b d : Bool) (HC : Aside0 (root_CubeS.f n = some (c1, c2, c3, e))) (HK : Aside0 (b = true → big_CmpS.f c1 c2 c3 false h l = some k)) (he : (e == 0) = b) (hk : decide (k ≤ 0) = d) (w : World)
  (hb0 : w.heap[g]? = some (.cells #[.bool false, .int .u64 h, .int .u64 l] 99 (0, 0))) :
  Calls Tryz.prog 110 #[.int .u64 n, .pointer (some ⟨g, 0, none⟩)] w fun e w' => e = .returned (.bool (b && d)) ∧ Below w.heap.size w w' := by
 have HB := Aside0.mk (Below.refl w.heap.size w); have BK := Aside0.mk hb0; clear hb0
 cases b
 ·go_enter Tryz.func110, Tryz.ntmps110
  go_wp2_with (first
   | (go_at_call 111; refine (root_CubeS.calls n c1 c2 c3 e _ HC.out).mono ?_; rintro e1 w1 ⟨rfl, hb⟩; replace BK := bbZ BK hb; replace HB := stA hb; clear hb)
   | ((with_reducible refine gate_dst (N := 4) rfl ?_); refine box_event ?hg (N := 4) ?hd (cs := #[.bool false, .int .u64 0, .int .u64 0]) (t := 99) ?hr ?_; (case hd => rfl); (case hg => rfl); (case hr => first | (go_simp; done) | (go_simp; rfl)); intro gb hg w2 hbox hb; have BK1 := Aside0.mk hbox; obtain ⟨GW1, nHB⟩ := geA hg hb; have GE1 := GW1; obtain ⟨NB1, NB2, nBK⟩ := nbA BK hg hb; replace BK := nBK; clear nBK; replace HB := nHB; clear nHB; clear hb hbox hg; have z0 := czZ BK1 0 (.bool false); have z1 := czZ BK1 1 (.int .u64 0); have z2 := czZ BK1 2 (.int .u64 0); have f0 := blk_frozen BK1.out 0; have f1 := blk_frozen BK1.out 1; have f2 := blk_frozen BK1.out 2; have y0 := czZ BK 0 (.bool false); have y1 := czZ BK 1 (.int .u64 h); have y2 := czZ BK 2 (.int .u64 l); have n1 := NB1.out; have n2 := NB2.out))
  go_ret
  exact ⟨by first | rfl | (simp; done) | (simp [*]; done), (by repeat (first | (with_reducible first | apply below_alloc | exact HB.out | apply pw_below_drewN | apply below_drew1 | refine below_set ?_ GE1.out) | exact HB.out))⟩
 ·go_enter Tryz.func110, Tryz.ntmps110
  go_wp2_with (first
   | (go_at_call 111; refine (root_CubeS.calls n c1 c2 c3 e _ HC.out).mono ?_; rintro e1 w1 ⟨rfl, hb⟩; replace BK := bbZ BK hb; replace HB := stA hb; clear hb)
   | ((with_reducible refine gate_dst (N := 4) rfl ?_); refine box_event ?hg (N := 4) ?hd (cs := #[.bool false, .int .u64 0, .int .u64 0]) (t := 99) ?hr ?_; (case hd => rfl); (case hg => rfl); (case hr => first | (go_simp; done) | (go_simp; rfl)); intro gb hg w2 hbox hb; have BK1 := Aside0.mk hbox; obtain ⟨GW1, nHB⟩ := geA hg hb; have GE1 := GW1; obtain ⟨NB1, NB2, nBK⟩ := nbA BK hg hb; replace BK := nBK; clear nBK; replace HB := nHB; clear nHB; clear hb hbox hg; have z0 := czZ BK1 0 (.bool false); have z1 := czZ BK1 1 (.int .u64 0); have z2 := czZ BK1 2 (.int .u64 0); have f0 := blk_frozen BK1.out 0; have f1 := blk_frozen BK1.out 1; have f2 := blk_frozen BK1.out 2; have y0 := czZ BK 0 (.bool false); have y1 := czZ BK 1 (.int .u64 h); have y2 := czZ BK 2 (.int .u64 l); have n1 := NB1.out; have n2 := NB2.out)
   | (go_at_call 112; refine (big_CmpS.calls c1 c2 c3 false h l k _ (HK.out (by trivial))).mono ?_; rintro e1 w3 ⟨rfl, hb⟩; replace HB := Aside0.mk (below_step (by repeat (first | (with_reducible first | apply below_alloc | exact HB.out | apply pw_below_drewN | apply below_drew1 | refine below_set ?_ GE1.out) | exact HB.out)) hb); clear hb))
  go_ret
  exact ⟨by first | rfl | (simp; done) | (simp [*]; done), (by repeat (first | (with_reducible first | apply below_alloc | exact HB.out | apply pw_below_drewN | apply below_drew1 | refine below_set ?_ GE1.out) | exact HB.out))⟩
set_option maxHeartbeats 2000000 in
set_option maxRecDepth 100000 in
/-- The greatest number of so many bits for which something is right: told by a function value that answers 'n ≤ R', whatever the world behind what was. -/
theorem root_Third.greatest (R many : Int) (g : Nat) (o : Obj) (hm : Aside0 (0 ≤ many ∧ many ≤ 43)) (hR : Aside0 (0 ≤ R ∧ R < 2 ^ many.toNat)) (w : World) (hb0 : w.heap[g]? = some o)
  (hright : ∀ (n : Int) (b : Bool) (w' : World), Aside0 (0 ≤ n ∧ n < 18446744073709551616 ∧ decide (n ≤ R) = b) → w'.heap[g]? = some o → Calls Tryz.prog 110 #[.int .u64 n, .pointer (some ⟨g, 0, none⟩)] w' fun e w'' => e = .returned (.bool b) ∧ Below w'.heap.size w' w'') :
  Calls Tryz.prog 109 #[.int .i64 many, .func (.func 110) #[] #[.pointer (some ⟨g, 0, none⟩)]] w fun e w' => e = .returned (.int .u64 R) ∧ Below w.heap.size w w' := by
 have HB := Aside0.mk (Below.refl w.heap.size w); have BK := Aside0.mk hb0; have HF := Aside0.mk hright; clear hb0 hright; have hs : (0 : Int) ≤ many := hm.out.1
 go_enter Tryz.func109, Tryz.ntmps109
 go_wp2_with (fail)
 go_step3
 go_wp2_with (fail)
 go_quiet (fail)
 go_wp2_with (fail)
 go_step3
 go_wp2_with (fail)
 obtain ⟨H0, hH0⟩ : ∃ H0 : Int, H0 = IntKind.u64.wrap (IntKind.u64.wrap (2 ^ min many.toNat 64) - 1) := ⟨_, rfl⟩
 rw [← hH0]
 have h0 : Aside0 (H0 = 2 ^ many.toNat - 1 ∧ H0 < 8796093022208) := ⟨by
  have a := hm.out; have p : (2 : Int) ^ many.toNat ≤ 2 ^ 43 := Sp.pow2_le (by omega); have p0 : (0 : Int) < 2 ^ many.toNat := Int.pow_pos (by omega)
  have q : (2 : Int) ^ 43 = 8796093022208 := by decide
  rw [hH0, show min many.toNat 64 = many.toNat by omega, Sp.u64w, Sp.u64w]
  omega⟩
 clear hH0 hs
 go_loopg [5, 6, 12] many.toNat (fun kq v5 v6 v12 wr => ∃ lo hi i : Int, v5 = .int .u64 lo ∧ v6 = .int .u64 hi ∧ v12 = .int .i64 i ∧ Aside0 (0 ≤ lo ∧ lo ≤ R ∧ R ≤ hi ∧ hi < 8796093022208 ∧ hi - lo < 2 ^ kq ∧ i + (kq : Int) = many ∧ 0 ≤ i) ∧ Aside0 (Below w.heap.size w wr))
 case atStart =>
  have a := hm.out; have b := hR.out; have c := h0.out; exact ⟨0, H0, 0, rfl, rfl, rfl, ⟨by omega, by omega, by omega, by omega, by omega, by omega, by omega⟩, ⟨pw_below_drewN HB.out _⟩⟩
 case round =>
  clear HB; obtain ⟨lo, hi, i, rfl, rfl, rfl, HA, HB⟩ := hrel
  cases gk with
  | zero =>
   have c1 : decide (i < many) = false := decide_eq_false (by have := HA.out; omega)
   have e1 : lo = R := by have := HA.out; simp at this; omega
   go_wp2
   (try rw [Exit.noGoto_ret])
   go_ret
   exact ⟨congrArg (fun z => Ending.returned (.int .u64 z)) e1, HB.out⟩
  | succ k1 =>
   have c1 : decide (i < many) = true := decide_eq_true (by have := HA.out; omega)
   by_cases e : lo = hi
   ·have c2 : (lo == hi) = true := beq_iff_eq.mpr e
    have e1 : Aside0 (lo = R) := ⟨by have := HA.out; omega⟩
    clear e
    go_wp2
    (try rw [Exit.noGoto_ret])
    go_ret
    exact ⟨congrArg (fun z => Ending.returned (.int .u64 z)) e1.out, HB.out⟩
   ·have c2 : (lo == hi) = false := beq_eq_false_iff_ne.mpr e
    have e1 : Aside0 (lo ≠ hi) := ⟨e⟩
    clear e; have e2 := Int.pow_succ 2 k1
    have hd : Aside0 (hi - lo < 2 * 2 ^ k1) := ⟨by have := HA.out; omega⟩
    clear e2
    obtain ⟨n, hn⟩ : ∃ n, IntKind.u64.wrap (hi - IntKind.u64.wrap ((IntKind.u64.wrap (hi - lo)).tdiv 2)) = n := ⟨_, rfl⟩
    obtain ⟨n1, hn1⟩ : ∃ n1, IntKind.u64.wrap (n - 1) = n1 := ⟨_, rfl⟩
    obtain ⟨i1, hi1⟩ : ∃ i1, wrap64 (i + 1) = i1 := ⟨_, rfl⟩
    have hn' : Aside0 (0 ≤ n ∧ n < 18446744073709551616 ∧ n = hi - (hi - lo) / 2 ∧ n1 = n - 1 ∧ i1 = i + 1) := ⟨by
     have a := HA.out; have b := e1.out; have c := hm.out; have hi1' := hi1
     rw [Sp.w64 (x := i + 1) (by omega)] at hi1'
     have hn2 := hn
     rw [Sp.u64w_in (x := hi - lo) (by omega), Int.tdiv_eq_ediv_of_nonneg (by omega), Sp.u64w_in (x := (hi - lo) / 2) (by omega), Sp.u64w_in (x := hi - (hi - lo) / 2) (by omega)] at hn2
     have hn3 := hn1
     rw [Sp.u64w_in (x := n - 1) (by omega)] at hn3
     omega⟩
    by_cases cr : n ≤ R
    ·have cr' := Aside0.mk cr; clear cr
     go_wp2_with (first | (go_at_call 110; refine (HF.out n true _ ⟨hn'.out.1, hn'.out.2.1, decide_eq_true cr'.out⟩ (blk_below BK.out HB.out)).mono ?_; rintro e9 w9 ⟨rfl, hb9⟩; replace HB := Aside0.mk (below_step HB.out hb9); clear hb9) | fail)
     go_roundg k1
     case rel =>
      have a := HA.out; have b := hn'.out; have c := cr'.out; have d := hd.out; have f := e1.out; exact ⟨n, hi, i1, rfl, rfl, congrArg (Value.int .i64) hi1, ⟨by omega, by omega, by omega, by omega, by omega, by omega, by omega⟩, HB⟩
     case measure => omega
    ·have cr' := Aside0.mk cr; clear cr
     go_wp2_with (first | (go_at_call 110; refine (HF.out n false _ ⟨hn'.out.1, hn'.out.2.1, decide_eq_false cr'.out⟩ (blk_below BK.out HB.out)).mono ?_; rintro e9 w9 ⟨rfl, hb9⟩; replace HB := Aside0.mk (below_step HB.out hb9); clear hb9) | fail)
     go_roundg k1
     case rel =>
      have a := HA.out; have b := hn'.out; have c := cr'.out; have d := hd.out; have f := e1.out; exact ⟨lo, n1, i1, rfl, rfl, congrArg (Value.int .i64) hi1, ⟨by omega, by omega, by omega, by omega, by omega, by omega, by omega⟩, HB⟩
     case measure => omega
theorem root_Third.right {h l n : Int} {b : Bool} {g : Nat} {w : World} (h1 : Sp.U h) (h2 : Sp.U l) (hn : 0 ≤ n ∧ n < 18446744073709551616 ∧ decide (n ≤ Sp.root3 (h * 18446744073709551616 + l)) = b)
  (hb : w.heap[g]? = some (.cells #[.bool false, .int .u64 h, .int .u64 l] 99 (0, 0))) :
  Calls Tryz.prog 110 #[.int .u64 n, .pointer (some ⟨g, 0, none⟩)] w fun e w' => e = .returned (.bool b) ∧ Below w.heap.size w w' := by
 obtain ⟨n0, n1, rfl⟩ := hn; have k := Sp.cube_le_iff (X := h * 18446744073709551616 + l) (by omega) n0; have p0 := Int.mul_nonneg (Int.mul_nonneg n0 n0) n0
 by_cases c : Sp.B (n * n * n)
 ·have hc := (root_CubeS.eq (a := n) ⟨n0, n1⟩).trans (Sp.held_in c); have hk := big_CmpS.el (m := false) c h1 h2
  rw [Sp.val_f] at hk
  refine (root_Third.closure g n h l _ _ _ _ _ true (decide (n ≤ Sp.root3 (h * 18446744073709551616 + l))) ⟨hc⟩ ⟨fun _ => hk⟩ rfl ?_ w hb).mono (fun e w' hq => ⟨by rw [hq.1]; simp, hq.2⟩)
  rw [decide_eq_decide, ← k]
  unfold Sp.cmpI
  split
  ·omega
  ·split <;> omega
 ·have hc := (root_CubeS.eq (a := n) ⟨n0, n1⟩).trans (Sp.held_out c); have hf : decide (n ≤ Sp.root3 (h * 18446744073709551616 + l)) = false := decide_eq_false (by rw [← k]; omega)
  rw [hf]
  exact (root_Third.closure g n h l _ _ _ _ 0 false true ⟨hc⟩ ⟨fun x => by cases x⟩ rfl rfl w hb).mono (fun e w' hq => ⟨by rw [hq.1]; simp, hq.2⟩)
set_option maxHeartbeats 1000000 in
set_option maxRecDepth 100000 in
theorem root_Third.calls (a0_0 : Bool) (a0_1 a0_2 r : Int) (w : World) (h : root_Third.f a0_0 a0_1 a0_2 = some r) :
  Calls Tryz.prog 51 #[.agg #[.bool a0_0, .int .u64 a0_1, .int .u64 a0_2]] w fun e w' => e = .returned (.int .u64 r) ∧ Below w.heap.size w w' := by
 obtain ⟨⟨h1, h2⟩, h⟩ := Sp.need_some h; obtain rfl := Option.some.inj h; clear h
 have hmf : ∀ (fn : Fn) (first cap : Array Value) (w : World), (Instr.makeFunc fn first cap).run Tryz.prog w = .ok (.func fn first cap) w := fun _ _ _ _ => rfl
 have HU := Aside0.mk (And.intro h1 h2); have HL := Aside0.mk (root_longS.eq (n := false) h1 h2); have HR := Aside0.mk (Sp.root3_bits h1 h2); have H0 := Aside0.mk (Sp.root3_spec (X := a0_1 * 18446744073709551616 + a0_2) (by omega)); have HB := Aside0.mk (Below.refl w.heap.size w)
 obtain ⟨many, hm⟩ : ∃ many, wrap64 (Int.tdiv (wrap64 (Sp.longW a0_1 a0_2 + 2)) 3) = many := ⟨_, rfl⟩
 have HM : Aside0 (many = (Sp.longW a0_1 a0_2 + 2) / 3) := ⟨by
  have b := Sp.longW_bd h1 h2
  rw [← hm, Sp.w64 (x := Sp.longW a0_1 a0_2 + 2) (by omega), Int.tdiv_eq_ediv_of_nonneg (by omega), Sp.w64 (by omega)]⟩
 clear h1 h2
 generalize Sp.longW a0_1 a0_2 = L at *
 go_enter Tryz.func51, Tryz.ntmps51
 go_wp2_with (first
  | ((with_reducible refine gate_dst (N := 1) rfl ?_); refine box_event ?hg (N := 1) ?hd (cs := #[.bool a0_0, .int .u64 a0_1, .int .u64 a0_2]) (t := 99) ?hr ?_; (case hd => rfl); (case hg => rfl); (case hr => first | (go_simp; done) | (go_simp; rfl)); intro gb hg w2 hbox hb; have BK1 := Aside0.mk hbox; obtain ⟨GW1, nHB⟩ := geA hg hb; have GE1 := GW1; replace HB := nHB; clear nHB; clear hb hbox hg; have z0 := czZ BK1 0 (.bool a0_0); have z1 := czZ BK1 1 (.int .u64 a0_1); have z2 := czZ BK1 2 (.int .u64 a0_2); have f0 := blk_frozen BK1.out 0; have f1 := blk_frozen BK1.out 1; have f2 := blk_frozen BK1.out 2)
  | (go_at_call 108; refine (root_longS.calls false a0_1 a0_2 L _ HL.out).mono ?_; rintro e1 w3 ⟨rfl, hb⟩; have BK2 := Aside0.mk (blk_below (blk_put (cs := #[.bool a0_0, .int .u64 a0_1, .int .u64 a0_2]) BK1.out 0 (.bool false) rfl) hb); replace HB := Aside0.mk (below_step (by repeat (first | (with_reducible first | apply below_alloc | exact HB.out | apply pw_below_drewN | apply below_drew1 | refine below_set ?_ GE1.out) | exact HB.out)) hb); clear hb)
  | (go_at_call 109; refine (root_Third.greatest (Sp.root3 (a0_1 * 18446744073709551616 + a0_2)) many gb _ ⟨by have a := HM.out; have b := HR.out; omega⟩ ⟨by have a := HM.out; have b := HR.out; have c := H0.out; rw [a]; exact ⟨c.1, b.2.2⟩⟩ _ BK2.out (fun n b w' hn hb => root_Third.right HU.out.1 HU.out.2 hn.out hb)).mono ?_; rintro e1 w4 ⟨rfl, hb⟩; replace HB := Aside0.mk (below_step HB.out hb); clear hb)
  | fail)
 go_ret
 exact ⟨by first | rfl | (simp; done) | (simp [*]; done), (by repeat (first | (with_reducible first | apply below_alloc | exact HB.out | apply pw_below_drewN | apply below_drew1 | refine below_set ?_ GE1.out) | exact HB.out))⟩

end Go.Proofs.YtfahbgkoldoflaaGreatDoor.Px
