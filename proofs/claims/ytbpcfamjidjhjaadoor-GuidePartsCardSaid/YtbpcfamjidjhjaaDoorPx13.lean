/- Printed by px.py, over the kit's print. Conditions: none beside the theorems' own. -/
import Derived.Test.YtbpcfamjidjhjaaDoorPx0
import Derived.Test.YtbpcfamjidjhjaaDoorPx3
import Derived.Test.YtbpcfamjidjhjaaDoorPx8
import Derived.Test.YtbpcfamjidjhjaaDoorPx10
namespace Go.Proofs.YtbpcfamjidjhjaaDoor.Px
open Go.RowKit Go.Proofs.YtbpcfamjidjhjaaDoorW.PrintWords Go.Proofs.YtbpcfamjidjhjaaDoorW.PrintLast Go.Proofs.YtbpcfamjidjhjaaDoorW.PrintMore
attribute [local go_sem] max2_int min2_int max_two min_two max_three min_three max_four min_four
set_option linter.unusedVariables false
set_option linter.unusedSimpArgs false

attribute [local go_sem high] eqA59
/-! ### big_Cmp: function 32 -/
noncomputable def big_Cmp.j0 : Nat → Bool → Bool → Int → Int → Bool → Int → Int → Option (Int)
 | 0, _, _, _, _, _, _, _ => none
 | k + 1, x19, x143000, x143001, x143002, x144000, x144001, x144002 => if x19 = true then (some (-1)) else (if (x143000 != x144000) = true then (some 1) else (if x143000 = true then ((big_of.f x144000 x144001 x144002).bind fun bt154 => ((big_of.f x143000 x143001 x143002).bind fun bt156 => ((big_size_cmpS.f bt154.1 bt154.2 bt156.1 bt156.2).bind fun t158 => (some t158)))) else ((big_of.f x143000 x143001 x143002).bind fun bt159 => ((big_of.f x144000 x144001 x144002).bind fun bt161 => ((big_size_cmpS.f bt159.1 bt159.2 bt161.1 bt161.2).bind fun t163 => (some t163))))))
noncomputable def big_Cmp.f (k : Nat) (a0_0 : Bool) (a0_1 : Int) (a0_2 : Int) (a1_0 : Bool) (a1_1 : Int) (a1_2 : Int) : Option (Int) := (big_of.f a0_0 a0_1 a0_2).bind fun bt144 => ((big_size_with.f bt144.1 bt144.2 a0_0).bind fun bt146 => ((big_of.f a1_0 a1_1 a1_2).bind fun bt149 => ((big_size_with.f bt149.1 bt149.2 a1_0).bind fun bt151 => (if (bt146.1 == bt151.1 && (bt146.2.1 == bt151.2.1 && (bt146.2.2 == bt151.2.2))) = true then (some 0) else (if (bt146.1 != bt151.1) = true then (big_Cmp.j0 k bt146.1 bt146.1 bt146.2.1 bt146.2.2 bt151.1 bt151.2.1 bt151.2.2) else (big_Cmp.j0 k false bt146.1 bt146.2.1 bt146.2.2 bt151.1 bt151.2.1 bt151.2.2))))))
def big_Cmp.T1 : Bool × List (List Nat × List Nat) := (true, [([], []), ([0], [0]), ([], []), ([2], [2]), ([1, 3, 1], [1, 3]), ([], []), ([5, 4], [5]), ([], []), ([7], [7]), ([6, 8, 6], [6, 8]), ([4, 9, 0, 1, 2, 3, 4], [4]), ([9, 10, 0, 1, 2, 3, 4, 5, 6, 7, 8, 9, 10], [9])])
def big_Cmp.B1 : List Nat := [0, 1, 0, 4, 15, 0, 63, 0, 128, 511, 1023, 2047]
theorem big_Cmp.tab1 : rtab .any (opsOf Tryd.f32 1) = big_Cmp.T1 := by kernel_rfl
theorem big_Cmp.bits1 : waitsOk big_Cmp.T1.2 big_Cmp.B1 = true := by kernel_rfl
set_option maxHeartbeats 8000000 in
set_option maxRecDepth 100000 in
theorem big_Cmp.calls (k : Nat) (a0_0 : Bool) (a0_1 : Int) (a0_2 : Int) (a1_0 : Bool) (a1_1 : Int) (a1_2 : Int) (r : Int) (w : World) (h : big_Cmp.f k a0_0 a0_1 a0_2 a1_0 a1_1 a1_2 = some r) :
  Calls Tryd.prog 32 #[.agg #[.bool a0_0, .int .u64 a0_1, .int .u64 a0_2], .agg #[.bool a1_0, .int .u64 a1_1, .int .u64 a1_2]] w fun e w' => e = .returned (.int .i64 r) ∧ Below w.heap.size w w' := by
 have hu59 := Tryd.underlying59; have HB := Aside0.mk (Below.refl w.heap.size w); have H : ((big_of.f a0_0 a0_1 a0_2).bind fun bt144 => ((big_size_with.f bt144.1 bt144.2 a0_0).bind fun bt146 => ((big_of.f a1_0 a1_1 a1_2).bind fun bt149 => ((big_size_with.f bt149.1 bt149.2 a1_0).bind fun bt151 => (if (bt146.1 == bt151.1 && (bt146.2.1 == bt151.2.1 && (bt146.2.2 == bt151.2.2))) = true then (some 0) else (if (bt146.1 != bt151.1) = true then (big_Cmp.j0 k bt146.1 bt146.1 bt146.2.1 bt146.2.2 bt151.1 bt151.2.1 bt151.2.2) else (big_Cmp.j0 k false bt146.1 bt146.2.1 bt146.2.2 bt151.1 bt151.2.1 bt151.2.2))))))) = some r := h; clear h; replace H := Option.bind_eq_some_iff.mp H; obtain ⟨⟨t144, t145⟩, A30, H⟩ := H; (try dsimp only at H); have A3 := Aside0.mk A30; clear A30; replace H := Option.bind_eq_some_iff.mp H; obtain ⟨⟨t146, t147, t148⟩, A40, H⟩ := H; (try dsimp only at H); have A4 := Aside0.mk A40; clear A40; replace H := Option.bind_eq_some_iff.mp H; obtain ⟨⟨t149, t150⟩, A50, H⟩ := H; (try dsimp only at H); have A5 := Aside0.mk A50; clear A50; replace H := Option.bind_eq_some_iff.mp H; obtain ⟨⟨t151, t152, t153⟩, A60, H⟩ := H; (try dsimp only at H); have A6 := Aside0.mk A60; clear A60
 go_enter Tryd.func32, Tryd.ntmps32
 try go_wp2_with (first | ((with_reducible refine gate_dst (N := 2) rfl ?_); refine box_event ?hg (N := 2) ?hd (cs := #[.bool a0_0, .int .u64 a0_1, .int .u64 a0_2]) (t := 59) ?hr ?_; (case hd => rfl); (case hg => rfl); (case hr => first | (go_simp; done) | (go_simp; rfl)); intro gb142 hg w8 hbox hb; have BK142 := Aside0.mk (hbox); obtain ⟨GW142, nHB⟩ := geA hg hb; have GE142 := GW142; replace HB := nHB; clear nHB; clear hb hbox hg) | ((with_reducible refine gate_dst (N := 3) rfl ?_); refine box_event ?hg (N := 3) ?hd (cs := #[.bool a1_0, .int .u64 a1_1, .int .u64 a1_2]) (t := 59) ?hr ?_; (case hd => rfl); (case hg => rfl); (case hr => first | (go_simp; done) | (go_simp; rfl)); intro gb143 hg w9 hbox hb; have BK143 := Aside0.mk (hbox); obtain ⟨GW143, nHB⟩ := geA hg hb; have GE143 := GW143; obtain ⟨NB142_143, NB143_142, nBK⟩ := nbA BK142 hg hb; replace BK142 := nBK; clear nBK; replace HB := nHB; clear nHB; clear hb hbox hg))
 replace BK142 := Aside0.mk (blk_drew BK142.out); replace BK143 := Aside0.mk (blk_drew BK143.out); replace HB := Aside0.mk (below_drew1 HB.out); refine start_ (n := 12) (S := fun w' => w'.cell? ⟨gb142, 0, none⟩ = some (.bool a0_0) ∧ w'.cell? ⟨gb142, 1, none⟩ = some (.int .u64 a0_1) ∧ w'.cell? ⟨gb142, 2, none⟩ = some (.int .u64 a0_2) ∧ w'.cell? ⟨gb143, 0, none⟩ = some (.bool a1_0) ∧ w'.cell? ⟨gb143, 1, none⟩ = some (.int .u64 a1_1) ∧ w'.cell? ⟨gb143, 2, none⟩ = some (.int .u64 a1_2)) (ds := [10, 11]) #[N,N,N,N,N,N,N,N,N,N,N,N] (by kernel_rfl) rfl rfl ⟨(blk_cell BK142.out 0).trans rfl, (blk_cell BK142.out 1).trans rfl, (blk_cell BK142.out 2).trans rfl, (blk_cell BK143.out 0).trans rfl, (blk_cell BK143.out 1).trans rfl, (blk_cell BK143.out 2).trans rfl⟩ (fun hHeld => ?_); refine with_tabW big_Cmp.tab1 big_Cmp.bits1 (fun HT_ HW_ => ?_)
 generalize w9.drew = w10 at BK142 BK143 HB hHeld ⊢
 refine pureA_ (i := 2) (N := some 7) #[N,N,Y,N,N,N,N,N,N,N,N,N] rfl rfl (any_of HT_.out (by kernel_rfl)) ?_
 refine pureA_ (i := 7) (N := some 12) #[N,N,Y,N,N,N,N,Y,N,N,N,N] rfl rfl (any_of HT_.out (by kernel_rfl)) ?_
 refine take_ (i := 0) (N := some 5) (v := ?_) (a' := ?_) #[Y,N,Y,N,N,N,N,Y,N,N,N,N] rfl rfl (take_ofW HT_.out HW_.out (by kernel_rfl)) (fun _ _ _ h => h) (Or.inl ⟨by rfl, ?_⟩) hHeld ?_ ?_; rotate_left
 ·rintro w' ⟨s0, s1, s2, s3, s4, s5⟩; go_simp
  with_reducible rfl
 rotate_left
 ·simp only [Act.put, sA, sB, sC, i64_w, i32_w]
  rfl
 refine take_ (i := 3) (N := some 8) (v := ?_) (a' := ?_) #[Y,N,Y,Y,N,N,N,Y,N,N,N,N] rfl rfl (take_ofW HT_.out HW_.out (by kernel_rfl)) (fun _ _ _ h => h) (Or.inl ⟨by rfl, ?_⟩) hHeld ?_ ?_; rotate_left
 ·rintro w' ⟨s0, s1, s2, s3, s4, s5⟩; go_simp
  with_reducible rfl
 rotate_left
 ·simp only [Act.put, sA, sB, sC, i64_w, i32_w]
  rfl
 refine take_ (i := 5) (N := some 10) (v := ?_) (a' := ?_) #[Y,N,Y,Y,N,Y,N,Y,N,N,N,N] rfl rfl (take_ofW HT_.out HW_.out (by kernel_rfl)) (fun _ _ _ h => h) (Or.inl ⟨by rfl, ?_⟩) hHeld ?_ ?_; rotate_left
 ·rintro w' ⟨s0, s1, s2, s3, s4, s5⟩; go_simp
  with_reducible rfl
 rotate_left
 ·simp only [Act.put, sA, sB, sC, i64_w, i32_w]
  rfl
 refine take_ (i := 8) (N := some 13) (v := ?_) (a' := ?_) #[Y,N,Y,Y,N,Y,N,Y,Y,N,N,N] rfl rfl (take_ofW HT_.out HW_.out (by kernel_rfl)) (fun _ _ _ h => h) (Or.inl ⟨by rfl, ?_⟩) hHeld ?_ ?_; rotate_left
 ·rintro w' ⟨s0, s1, s2, s3, s4, s5⟩; go_simp
  with_reducible rfl
 rotate_left
 ·simp only [Act.put, sA, sB, sC, i64_w, i32_w]
  rfl
 refine one_ (i := 1) (N := some 6) #[Y,Y,Y,Y,N,Y,N,Y,Y,N,N,N] rfl rfl (one_of HT_.out (by kernel_rfl)) (by decide) (fun K hK => ?_); refine goesA_ Tryd.func44 rfl #[.agg #[.bool a0_0, .int .u64 a0_1, .int .u64 a0_2]] (by rfl) rfl rfl ?_
 with_reducible refine (big_of.calls a0_0 a0_1 a0_2 t144 t145 _ A3.out).mono ?_
 rintro e w11 ⟨rfl, hb⟩; refine ⟨_, rfl, ?_⟩; replace BK142 := bbZ BK142 hb; replace BK143 := bbZ BK143 hb; replace HB := Aside0.mk (below_step HB.out hb); clear hb; refine hK.out _ _ ⟨(blk_cell BK142.out 0).trans rfl, (blk_cell BK142.out 1).trans rfl, (blk_cell BK142.out 2).trans rfl, (blk_cell BK143.out 0).trans rfl, (blk_cell BK143.out 1).trans rfl, (blk_cell BK143.out 2).trans rfl⟩ (fun hHeld => ?_); clear hK K; refine normA_ (some 6) ?_
 refine one_ (i := 4) (N := some 9) #[Y,Y,Y,Y,Y,Y,N,Y,Y,N,N,N] rfl rfl (one_of HT_.out (by kernel_rfl)) (by decide) (fun K hK => ?_); refine goesA_ Tryd.func45 rfl #[.agg #[.int .u64 t144, .int .u64 t145], .bool a0_0] (by rfl) rfl rfl ?_
 with_reducible refine (big_size_with.calls t144 t145 a0_0 t146 t147 t148 _ A4.out).mono ?_
 rintro e w12 ⟨rfl, hb⟩; refine ⟨_, rfl, ?_⟩; replace BK142 := bbZ BK142 hb; replace BK143 := bbZ BK143 hb; replace HB := Aside0.mk (below_step HB.out hb); clear hb; refine hK.out _ _ ⟨(blk_cell BK142.out 0).trans rfl, (blk_cell BK142.out 1).trans rfl, (blk_cell BK142.out 2).trans rfl, (blk_cell BK143.out 0).trans rfl, (blk_cell BK143.out 1).trans rfl, (blk_cell BK143.out 2).trans rfl⟩ (fun hHeld => ?_); clear hK K; refine normA_ (some 9) ?_
 refine one_ (i := 6) (N := some 11) #[Y,Y,Y,Y,Y,Y,Y,Y,Y,N,N,N] rfl rfl (one_of HT_.out (by kernel_rfl)) (by decide) (fun K hK => ?_); refine goesA_ Tryd.func44 rfl #[.agg #[.bool a1_0, .int .u64 a1_1, .int .u64 a1_2]] (by rfl) rfl rfl ?_
 with_reducible refine (big_of.calls a1_0 a1_1 a1_2 t149 t150 _ A5.out).mono ?_
 rintro e w13 ⟨rfl, hb⟩; refine ⟨_, rfl, ?_⟩; replace BK142 := bbZ BK142 hb; replace BK143 := bbZ BK143 hb; replace HB := Aside0.mk (below_step HB.out hb); clear hb; refine hK.out _ _ ⟨(blk_cell BK142.out 0).trans rfl, (blk_cell BK142.out 1).trans rfl, (blk_cell BK142.out 2).trans rfl, (blk_cell BK143.out 0).trans rfl, (blk_cell BK143.out 1).trans rfl, (blk_cell BK143.out 2).trans rfl⟩ (fun hHeld => ?_); clear hK K; refine normA_ (some 11) ?_
 refine one_ (i := 9) (N := some 14) #[Y,Y,Y,Y,Y,Y,Y,Y,Y,Y,N,N] rfl rfl (one_of HT_.out (by kernel_rfl)) (by decide) (fun K hK => ?_); refine goesA_ Tryd.func45 rfl #[.agg #[.int .u64 t149, .int .u64 t150], .bool a1_0] (by rfl) rfl rfl ?_
 with_reducible refine (big_size_with.calls t149 t150 a1_0 t151 t152 t153 _ A6.out).mono ?_
 rintro e w14 ⟨rfl, hb⟩; refine ⟨_, rfl, ?_⟩; replace BK142 := bbZ BK142 hb; replace BK143 := bbZ BK143 hb; replace HB := Aside0.mk (below_step HB.out hb); clear hb; refine hK.out _ _ ⟨(blk_cell BK142.out 0).trans rfl, (blk_cell BK142.out 1).trans rfl, (blk_cell BK142.out 2).trans rfl, (blk_cell BK143.out 0).trans rfl, (blk_cell BK143.out 1).trans rfl, (blk_cell BK143.out 2).trans rfl⟩ (fun hHeld => ?_); clear hK K; refine normA_ (some 14) ?_
 refine last_ (i := 10) (N := none) #[Y,Y,Y,Y,Y,Y,Y,Y,Y,Y,Y,N] rfl rfl (one_of HT_.out (by kernel_rfl)) (by decide) (fun K hK => ?_); have hs15 := czZ BK142 0 (.bool a0_0); have hfs15 := blk_frozen BK142.out 0; have hns15_1 := NB143_142.out; have hms15_1 := NB142_143.out; have hs16 := czZ BK142 1 (.int .u64 a0_1); have hfs16 := blk_frozen BK142.out 1; have hns16_1 := NB143_142.out; have hms16_1 := NB142_143.out; have hs17 := czZ BK142 2 (.int .u64 a0_2); have hfs17 := blk_frozen BK142.out 2; have hns17_1 := NB143_142.out; have hms17_1 := NB142_143.out; refine skip_ (w1 := ?_) (by rfl) rfl ?_ ?_; rotate_left
 ·go_simp
  rfl
 refine hK.out _ _ ?_; clear hK K; refine last_ (i := 11) (N := none) #[Y,Y,Y,Y,Y,Y,Y,Y,Y,Y,Y,Y] rfl rfl (one_of HT_.out (by kernel_rfl)) (by decide) (fun K hK => ?_); have hs18 := czZ BK143 0 (.bool a1_0); have hfs18 := blk_frozen BK143.out 0; have hns18_0 := NB142_143.out; have hms18_0 := NB143_142.out; have hs19 := czZ BK143 1 (.int .u64 a1_1); have hfs19 := blk_frozen BK143.out 1; have hns19_0 := NB142_143.out; have hms19_0 := NB143_142.out; have hs20 := czZ BK143 2 (.int .u64 a1_2); have hfs20 := blk_frozen BK143.out 2; have hns20_0 := NB142_143.out; have hms20_0 := NB143_142.out; refine skip_ (w1 := ?_) (by rfl) rfl ?_ ?_; rotate_left
 ·go_simp
  rfl
 refine hK.out _ _ ?_; clear hK K; refine done_ (done_of HT_.out (by kernel_rfl)) ?_; have hnb21 := NB142_143.out; have hnc21 := NB143_142.out; have hcz22_0 := czZ BK142 0 (.bool a0_0); have hcz22_1 := czZ BK142 1 (.int .u64 a0_1); have hcz22_2 := czZ BK142 2 (.int .u64 a0_2); have hfz22_0 := blk_frozen BK142.out 0; have hfz22_1 := blk_frozen BK142.out 1; have hfz22_2 := blk_frozen BK142.out 2; have hcz23_0 := czZ BK143 0 (.bool a1_0); have hcz23_1 := czZ BK143 1 (.int .u64 a1_1); have hcz23_2 := czZ BK143 2 (.int .u64 a1_2); have hfz23_0 := blk_frozen BK143.out 0; have hfz23_1 := blk_frozen BK143.out 1; have hfz23_2 := blk_frozen BK143.out 2
 by_cases c7 : (t146 == t151 && (t147 == t152 && (t148 == t153))) = true
 ·rw [if_pos c7] at H
  have c7b0 : (t146 == t151 && (t147 == t152 && (t148 == t153))) = true := c7
  (try (have c7b1 : decide (t146 = t151 && (t147 == t152 && (t148 == t153))) = true := by simpa using c7))
  (try (have c7b2 : (t146 == t151 && (t147 == t152 && (t148 == t153))) = true := by simpa using c7))
  clear c7; obtain rfl := Option.some.inj H
  try go_wp2
  go_ret
  exact ⟨by first | rfl | (simp [errW_none, errW_some] <;> rfl) | (simp [*, errW_none, errW_some] <;> rfl), by repeat (first | (with_reducible first | exact HB.out | apply below_alloc | apply pw_below_drewN | apply below_drew1 | refine below_set ?_ (Aside0.out (by assumption))) | exact HB.out)⟩
 ·rw [if_neg c7] at H
  have c7b0 : (t146 == t151 && (t147 == t152 && (t148 == t153))) = false := by simpa using c7
  (try (have c7b1 : decide (t146 = t151 && (t147 == t152 && (t148 == t153))) = false := by simpa using c7))
  (try (have c7b2 : (t146 == t151 && (t147 == t152 && (t148 == t153))) = false := by simpa using c7))
  (try (have c7b3 : ¬ (t146 = t151 && (t147 == t152 && (t148 == t153))) := by simpa using c7))
  clear c7; have HC24 := Aside0.mk H; clear H
  go_upto_region 4 with (fail)
  go_cut [19] (fun v19 wc => ∃ (kq : Nat) (x19_23 : Bool), v19 = .bool x19_23 ∧ Aside0 (big_Cmp.j0 kq x19_23 t146 t147 t148 t151 t152 t153 = some r) ∧ Aside0 (kq ≤ k) ∧ Aside0 (wc.heap[gb142]? = some (.cells #[.bool t146, .int .u64 t147, .int .u64 t148] 59 (0, 0))) ∧ Aside0 (wc.heap[gb143]? = some (.cells #[.bool t151, .int .u64 t152, .int .u64 t153] 59 (0, 0))) ∧ Aside0 (Below w.heap.size w wc))
  case first =>
   have H := HC24.out; clear HC24
   by_cases c41 : (t146 != t151) = true
   ·rw [if_pos c41] at H
    have c41b0 : (t146 != t151) = true := c41
    (try (have c41b1 : decide (t146 = t151) = false := by simpa using c41))
    (try (have c41b2 : (t146 == t151) = false := by simpa using c41))
    (try (have c41b3 : ¬ (t146 = t151) := by simpa using c41))
    clear c41
    (first | rw [c41b0] | (simp only [i64_w, i32_w]; rw [c41b0]) | skip)
    have H' := Aside0.mk H; clear H; have hnb42 := NB142_143.out; have hnc42 := NB143_142.out; have hcz43_0 := czZ BK142 0 (.bool a0_0); have hcz43_1 := czZ BK142 1 (.int .u64 a0_1); have hcz43_2 := czZ BK142 2 (.int .u64 a0_2); have hfz43_0 := blk_frozen BK142.out 0; have hfz43_1 := blk_frozen BK142.out 1; have hfz43_2 := blk_frozen BK142.out 2; have hcz44_0 := czZ BK143 0 (.bool a1_0); have hcz44_1 := czZ BK143 1 (.int .u64 a1_1); have hcz44_2 := czZ BK143 2 (.int .u64 a1_2); have hfz44_0 := blk_frozen BK143.out 0; have hfz44_1 := blk_frozen BK143.out 1; have hfz44_2 := blk_frozen BK143.out 2
    go_wp2
    go_meet
    case rel => exact ⟨_, (t146), (by first | rfl | (simp; done) | (simp [*]; done)), H', ⟨by first | omega | exact Nat.le_refl _⟩, ⟨by (with_reducible repeat first | apply blk_drewN | apply blk_drew | apply blk_alloc); refine blk_far ?_ NB142_143.out _; (with_reducible repeat first | apply blk_drewN | apply blk_drew | apply blk_alloc); refine blk_far ?_ NB142_143.out _; (with_reducible repeat first | apply blk_drewN | apply blk_drew | apply blk_alloc); refine blk_far ?_ NB142_143.out _; (with_reducible repeat first | apply blk_drewN | apply blk_drew | apply blk_alloc); refine blk_put (cs := #[.bool t146, .int .u64 t147, .int .u64 a0_2]) ?_ 2 _ rfl; (with_reducible repeat first | apply blk_drewN | apply blk_drew | apply blk_alloc); refine blk_put (cs := #[.bool t146, .int .u64 a0_1, .int .u64 a0_2]) ?_ 1 _ rfl; (with_reducible repeat first | apply blk_drewN | apply blk_drew | apply blk_alloc); refine blk_put (cs := #[.bool a0_0, .int .u64 a0_1, .int .u64 a0_2]) ?_ 0 _ rfl; (with_reducible repeat first | apply blk_drewN | apply blk_drew | apply blk_alloc); exact BK142.out⟩, ⟨by (with_reducible repeat first | apply blk_drewN | apply blk_drew | apply blk_alloc); refine blk_put (cs := #[.bool t151, .int .u64 t152, .int .u64 a1_2]) ?_ 2 _ rfl; (with_reducible repeat first | apply blk_drewN | apply blk_drew | apply blk_alloc); refine blk_put (cs := #[.bool t151, .int .u64 a1_1, .int .u64 a1_2]) ?_ 1 _ rfl; (with_reducible repeat first | apply blk_drewN | apply blk_drew | apply blk_alloc); refine blk_put (cs := #[.bool a1_0, .int .u64 a1_1, .int .u64 a1_2]) ?_ 0 _ rfl; (with_reducible repeat first | apply blk_drewN | apply blk_drew | apply blk_alloc); refine blk_far ?_ NB143_142.out _; (with_reducible repeat first | apply blk_drewN | apply blk_drew | apply blk_alloc); refine blk_far ?_ NB143_142.out _; (with_reducible repeat first | apply blk_drewN | apply blk_drew | apply blk_alloc); refine blk_far ?_ NB143_142.out _; (with_reducible repeat first | apply blk_drewN | apply blk_drew | apply blk_alloc); exact BK143.out⟩, ⟨by repeat (first | (with_reducible first | exact HB.out | apply below_alloc | apply pw_below_drewN | apply below_drew1 | refine below_set ?_ (Aside0.out (by assumption))) | exact HB.out)⟩⟩
   ·rw [if_neg c41] at H
    have c41b0 : (t146 != t151) = false := by simpa using c41
    (try (have c41b1 : decide (t146 = t151) = true := by simpa using c41))
    (try (have c41b2 : (t146 == t151) = true := by simpa using c41))
    clear c41
    (first | rw [c41b0] | (simp only [i64_w, i32_w]; rw [c41b0]) | skip)
    have H' := Aside0.mk H; clear H; have hnb45 := NB142_143.out; have hnc45 := NB143_142.out; have hcz46_0 := czZ BK142 0 (.bool a0_0); have hcz46_1 := czZ BK142 1 (.int .u64 a0_1); have hcz46_2 := czZ BK142 2 (.int .u64 a0_2); have hfz46_0 := blk_frozen BK142.out 0; have hfz46_1 := blk_frozen BK142.out 1; have hfz46_2 := blk_frozen BK142.out 2; have hcz47_0 := czZ BK143 0 (.bool a1_0); have hcz47_1 := czZ BK143 1 (.int .u64 a1_1); have hcz47_2 := czZ BK143 2 (.int .u64 a1_2); have hfz47_0 := blk_frozen BK143.out 0; have hfz47_1 := blk_frozen BK143.out 1; have hfz47_2 := blk_frozen BK143.out 2
    go_wp2
    go_meet
    case rel => exact ⟨_, (false), (by first | rfl | (simp; done) | (simp [*]; done)), H', ⟨by first | omega | exact Nat.le_refl _⟩, ⟨by (with_reducible repeat first | apply blk_drewN | apply blk_drew | apply blk_alloc); refine blk_far ?_ NB142_143.out _; (with_reducible repeat first | apply blk_drewN | apply blk_drew | apply blk_alloc); refine blk_far ?_ NB142_143.out _; (with_reducible repeat first | apply blk_drewN | apply blk_drew | apply blk_alloc); refine blk_far ?_ NB142_143.out _; (with_reducible repeat first | apply blk_drewN | apply blk_drew | apply blk_alloc); refine blk_put (cs := #[.bool t146, .int .u64 t147, .int .u64 a0_2]) ?_ 2 _ rfl; (with_reducible repeat first | apply blk_drewN | apply blk_drew | apply blk_alloc); refine blk_put (cs := #[.bool t146, .int .u64 a0_1, .int .u64 a0_2]) ?_ 1 _ rfl; (with_reducible repeat first | apply blk_drewN | apply blk_drew | apply blk_alloc); refine blk_put (cs := #[.bool a0_0, .int .u64 a0_1, .int .u64 a0_2]) ?_ 0 _ rfl; (with_reducible repeat first | apply blk_drewN | apply blk_drew | apply blk_alloc); exact BK142.out⟩, ⟨by (with_reducible repeat first | apply blk_drewN | apply blk_drew | apply blk_alloc); refine blk_put (cs := #[.bool t151, .int .u64 t152, .int .u64 a1_2]) ?_ 2 _ rfl; (with_reducible repeat first | apply blk_drewN | apply blk_drew | apply blk_alloc); refine blk_put (cs := #[.bool t151, .int .u64 a1_1, .int .u64 a1_2]) ?_ 1 _ rfl; (with_reducible repeat first | apply blk_drewN | apply blk_drew | apply blk_alloc); refine blk_put (cs := #[.bool a1_0, .int .u64 a1_1, .int .u64 a1_2]) ?_ 0 _ rfl; (with_reducible repeat first | apply blk_drewN | apply blk_drew | apply blk_alloc); refine blk_far ?_ NB143_142.out _; (with_reducible repeat first | apply blk_drewN | apply blk_drew | apply blk_alloc); refine blk_far ?_ NB143_142.out _; (with_reducible repeat first | apply blk_drewN | apply blk_drew | apply blk_alloc); refine blk_far ?_ NB143_142.out _; (with_reducible repeat first | apply blk_drewN | apply blk_drew | apply blk_alloc); exact BK143.out⟩, ⟨by repeat (first | (with_reducible first | exact HB.out | apply below_alloc | apply pw_below_drewN | apply below_drew1 | refine below_set ?_ (Aside0.out (by assumption))) | exact HB.out)⟩⟩
  case rest =>
   clear HC24
   try clear c2
   try clear p2
   try clear c3
   try clear c4
   try clear c7
   try clear c7b0
   try clear c7b1
   try clear c7b2
   try clear c21
   try clear c32
   try clear c38
   try clear c41
   try clear c41b0
   try clear c41b1
   try clear c41b2
   try clear c42
   try clear c44
   try clear c45
   try clear hcz22_0
   try clear hcz22_1
   try clear hcz22_2
   try clear hcz23_0
   try clear hcz23_1
   try clear hcz23_2
   try clear hcz22_0
   try clear hcz22_1
   try clear hcz22_2
   try clear hcz23_0
   try clear hcz23_1
   try clear hcz23_2
   try clear hcz43_0
   try clear hcz43_1
   try clear hcz43_2
   try clear hcz44_0
   try clear hcz44_1
   try clear hcz44_2
   try clear hcz46_0
   try clear hcz46_1
   try clear hcz46_2
   try clear hcz47_0
   try clear hcz47_1
   try clear hcz47_2
   try clear hfz22_0
   try clear hfz22_1
   try clear hfz22_2
   try clear hfz23_0
   try clear hfz23_1
   try clear hfz23_2
   try clear hfz22_0
   try clear hfz22_1
   try clear hfz22_2
   try clear hfz23_0
   try clear hfz23_1
   try clear hfz23_2
   try clear hfz43_0
   try clear hfz43_1
   try clear hfz43_2
   try clear hfz44_0
   try clear hfz44_1
   try clear hfz44_2
   try clear hfz46_0
   try clear hfz46_1
   try clear hfz46_2
   try clear hfz47_0
   try clear hfz47_1
   try clear hfz47_2
   obtain ⟨kq, x19_23, rfl, HA, HJ23, BK142, BK143, HB⟩ := hcut
   cases kq with
   | zero => exact absurd HA.out (by simp [big_Cmp.j0])
   | succ kj23 =>
    have H := HA.out; clear HA; simp only [big_Cmp.j0] at H
    by_cases c48 : x19_23 = true
    ·subst c48
     have H1 : (some (-1)) = some r := by rw [if_pos rfl] at H; exact H
     clear H; have H := H1; clear H1; obtain rfl := Option.some.inj H
     go_wp2
     go_ret
     exact ⟨by first | rfl | (simp [errW_none, errW_some] <;> rfl) | (simp [*, errW_none, errW_some] <;> rfl), by repeat (first | (with_reducible first | exact HB.out | apply below_alloc | apply pw_below_drewN | apply below_drew1 | refine below_set ?_ (Aside0.out (by assumption))) | exact HB.out)⟩
    ·replace c48 := Bool.eq_false_iff.mpr c48
     subst c48
     have H1 : (if (t146 != t151) = true then (some 1) else (if t146 = true then ((big_of.f t151 t152 t153).bind fun bt154 => ((big_of.f t146 t147 t148).bind fun bt156 => ((big_size_cmpS.f bt154.1 bt154.2 bt156.1 bt156.2).bind fun t158 => (some t158)))) else ((big_of.f t146 t147 t148).bind fun bt159 => ((big_of.f t151 t152 t153).bind fun bt161 => ((big_size_cmpS.f bt159.1 bt159.2 bt161.1 bt161.2).bind fun t163 => (some t163)))))) = some r := by rw [if_neg (show ¬ (false = true) by decide)] at H; exact H
     clear H; have H := H1; clear H1
     by_cases c49 : (t146 != t151) = true
     ·rw [if_pos c49] at H
      have c49b0 : (t146 != t151) = true := c49
      (try (have c49b1 : decide (t146 = t151) = false := by simpa using c49))
      (try (have c49b2 : (t146 == t151) = false := by simpa using c49))
      (try (have c49b3 : ¬ (t146 = t151) := by simpa using c49))
      clear c49; obtain rfl := Option.some.inj H; have hnb50 := NB142_143.out; have hnc50 := NB143_142.out; have hcz51_0 : wc.cell? ⟨gb142, 0, none⟩ = some (.bool t146) := (blk_cell BK142.out 0).trans rfl; have hcz51_1 : wc.cell? ⟨gb142, 1, none⟩ = some (.int .u64 t147) := (blk_cell BK142.out 1).trans rfl; have hcz51_2 : wc.cell? ⟨gb142, 2, none⟩ = some (.int .u64 t148) := (blk_cell BK142.out 2).trans rfl; have hfz51_0 := blk_frozen BK142.out 0; have hfz51_1 := blk_frozen BK142.out 1; have hfz51_2 := blk_frozen BK142.out 2; have hcz52_0 : wc.cell? ⟨gb143, 0, none⟩ = some (.bool t151) := (blk_cell BK143.out 0).trans rfl; have hcz52_1 : wc.cell? ⟨gb143, 1, none⟩ = some (.int .u64 t152) := (blk_cell BK143.out 1).trans rfl; have hcz52_2 : wc.cell? ⟨gb143, 2, none⟩ = some (.int .u64 t153) := (blk_cell BK143.out 2).trans rfl; have hfz52_0 := blk_frozen BK143.out 0; have hfz52_1 := blk_frozen BK143.out 1; have hfz52_2 := blk_frozen BK143.out 2
      go_wp2
      go_ret
      exact ⟨by first | rfl | (simp [errW_none, errW_some] <;> rfl) | (simp [*, errW_none, errW_some] <;> rfl), by repeat (first | (with_reducible first | exact HB.out | apply below_alloc | apply pw_below_drewN | apply below_drew1 | refine below_set ?_ (Aside0.out (by assumption))) | exact HB.out)⟩
     ·rw [if_neg c49] at H
      have c49b0 : (t146 != t151) = false := by simpa using c49
      (try (have c49b1 : decide (t146 = t151) = true := by simpa using c49))
      (try (have c49b2 : (t146 == t151) = true := by simpa using c49))
      clear c49
      by_cases c53 : t146 = true
      ·subst c53
       have H1 : ((big_of.f t151 t152 t153).bind fun bt154 => ((big_of.f true t147 t148).bind fun bt156 => ((big_size_cmpS.f bt154.1 bt154.2 bt156.1 bt156.2).bind fun t158 => (some t158)))) = some r := by rw [if_pos rfl] at H; exact H
       clear H; have H := H1; clear H1; replace H := Option.bind_eq_some_iff.mp H; obtain ⟨⟨t154, t155⟩, A540, H⟩ := H; replace H : ((big_of.f true t147 t148).bind fun bt156 => ((big_size_cmpS.f t154 t155 bt156.1 bt156.2).bind fun t158 => (some t158))) = some r := H; have A54 := Aside0.mk A540; clear A540; replace H := Option.bind_eq_some_iff.mp H; obtain ⟨⟨t156, t157⟩, A550, H⟩ := H; replace H : ((big_size_cmpS.f t154 t155 t156 t157).bind fun t158 => (some t158)) = some r := H; have A55 := Aside0.mk A550; clear A550; replace H := Option.bind_eq_some_iff.mp H; obtain ⟨t158, A560, H⟩ := H; replace H : (some t158) = some r := H; have A56 := Aside0.mk A560; clear A560; obtain rfl := Option.some.inj H; have hnb57 := NB142_143.out; have hnc57 := NB143_142.out; have hcz58_0 : wc.cell? ⟨gb142, 0, none⟩ = some (.bool true) := (blk_cell BK142.out 0).trans rfl; have hcz58_1 : wc.cell? ⟨gb142, 1, none⟩ = some (.int .u64 t147) := (blk_cell BK142.out 1).trans rfl; have hcz58_2 : wc.cell? ⟨gb142, 2, none⟩ = some (.int .u64 t148) := (blk_cell BK142.out 2).trans rfl; have hfz58_0 := blk_frozen BK142.out 0; have hfz58_1 := blk_frozen BK142.out 1; have hfz58_2 := blk_frozen BK142.out 2; have hcz59_0 : wc.cell? ⟨gb143, 0, none⟩ = some (.bool t151) := (blk_cell BK143.out 0).trans rfl; have hcz59_1 : wc.cell? ⟨gb143, 1, none⟩ = some (.int .u64 t152) := (blk_cell BK143.out 1).trans rfl; have hcz59_2 : wc.cell? ⟨gb143, 2, none⟩ = some (.int .u64 t153) := (blk_cell BK143.out 2).trans rfl; have hfz59_0 := blk_frozen BK143.out 0; have hfz59_1 := blk_frozen BK143.out 1; have hfz59_2 := blk_frozen BK143.out 2
       try go_wp2
       replace BK142 := Aside0.mk (blk_drew BK142.out); replace BK143 := Aside0.mk (blk_drew BK143.out); replace HB := Aside0.mk (below_drew1 HB.out); refine start_ (n := 6) (S := fun w' => w'.cell? ⟨gb143, 0, none⟩ = some (.bool t151) ∧ w'.cell? ⟨gb143, 1, none⟩ = some (.int .u64 t152) ∧ w'.cell? ⟨gb143, 2, none⟩ = some (.int .u64 t153) ∧ w'.cell? ⟨gb142, 0, none⟩ = some (.bool true) ∧ w'.cell? ⟨gb142, 1, none⟩ = some (.int .u64 t147) ∧ w'.cell? ⟨gb142, 2, none⟩ = some (.int .u64 t148)) (ds := []) #[N,N,N,N,N,N] (by kernel_rfl) rfl rfl ⟨(blk_cell BK143.out 0).trans rfl, (blk_cell BK143.out 1).trans rfl, (blk_cell BK143.out 2).trans rfl, (blk_cell BK142.out 0).trans rfl, (blk_cell BK142.out 1).trans rfl, (blk_cell BK142.out 2).trans rfl⟩ (fun hHeld => ?_)
       generalize wc.drew = w60 at BK142 BK143 HB hHeld ⊢
       refine take_ (i := 0) (N := some 38) (v := ?_) (a' := ?_) #[Y,N,N,N,N,N] rfl rfl (by kernel_rfl) (fun _ _ _ h => h) (Or.inl ⟨by rfl, ?_⟩) hHeld ?_ ?_; rotate_left
       ·rintro w' ⟨s0, s1, s2, s3, s4, s5⟩; go_simp
        with_reducible rfl
       rotate_left
       ·simp only [Act.put, sA, sB, sC, i64_w, i32_w]
        rfl
       refine take_ (i := 2) (N := some 40) (v := ?_) (a' := ?_) #[Y,N,Y,N,N,N] rfl rfl (by kernel_rfl) (fun _ _ _ h => h) (Or.inl ⟨by rfl, ?_⟩) hHeld ?_ ?_; rotate_left
       ·rintro w' ⟨s0, s1, s2, s3, s4, s5⟩; go_simp
        with_reducible rfl
       rotate_left
       ·simp only [Act.put, sA, sB, sC, i64_w, i32_w]
        rfl
       refine one_ (i := 1) (N := some 39) #[Y,Y,Y,N,N,N] rfl rfl (by kernel_rfl) (by decide) (fun K hK => ?_); refine goesA_ Tryd.func44 rfl #[.agg #[.bool t151, .int .u64 t152, .int .u64 t153]] (by rfl) rfl rfl ?_
       with_reducible refine (big_of.calls t151 t152 t153 t154 t155 _ A54.out).mono ?_
       rintro e w61 ⟨rfl, hb⟩; refine ⟨_, rfl, ?_⟩; replace BK142 := bbZ BK142 hb; replace BK143 := bbZ BK143 hb; replace HB := Aside0.mk (below_step HB.out hb); clear hb; refine hK.out _ _ ⟨(blk_cell BK143.out 0).trans rfl, (blk_cell BK143.out 1).trans rfl, (blk_cell BK143.out 2).trans rfl, (blk_cell BK142.out 0).trans rfl, (blk_cell BK142.out 1).trans rfl, (blk_cell BK142.out 2).trans rfl⟩ (fun hHeld => ?_); clear hK K; refine normA_ (some 39) ?_
       refine one_ (i := 3) (N := some 41) #[Y,Y,Y,Y,N,N] rfl rfl (by kernel_rfl) (by decide) (fun K hK => ?_); refine goesA_ Tryd.func44 rfl #[.agg #[.bool true, .int .u64 t147, .int .u64 t148]] (by rfl) rfl rfl ?_
       with_reducible refine (big_of.calls true t147 t148 t156 t157 _ A55.out).mono ?_
       rintro e w62 ⟨rfl, hb⟩; refine ⟨_, rfl, ?_⟩; replace BK142 := bbZ BK142 hb; replace BK143 := bbZ BK143 hb; replace HB := Aside0.mk (below_step HB.out hb); clear hb; refine hK.out _ _ ⟨(blk_cell BK143.out 0).trans rfl, (blk_cell BK143.out 1).trans rfl, (blk_cell BK143.out 2).trans rfl, (blk_cell BK142.out 0).trans rfl, (blk_cell BK142.out 1).trans rfl, (blk_cell BK142.out 2).trans rfl⟩ (fun hHeld => ?_); clear hK K; refine normA_ (some 41) ?_
       refine one_ (i := 4) (N := some 42) #[Y,Y,Y,Y,Y,N] rfl rfl (by kernel_rfl) (by decide) (fun K hK => ?_); refine goesA_ Tryd.func46 rfl #[.agg #[.int .u64 t154, .int .u64 t155], .agg #[.int .u64 t156, .int .u64 t157]] (by rfl) rfl rfl ?_
       with_reducible refine (big_size_cmpS.calls t154 t155 t156 t157 t158 _ A56.out).mono ?_
       rintro e w63 ⟨rfl, hb⟩; refine ⟨_, rfl, ?_⟩; replace BK142 := bbZ BK142 hb; replace BK143 := bbZ BK143 hb; replace HB := Aside0.mk (below_step HB.out hb); clear hb; refine hK.out _ _ ⟨(blk_cell BK143.out 0).trans rfl, (blk_cell BK143.out 1).trans rfl, (blk_cell BK143.out 2).trans rfl, (blk_cell BK142.out 0).trans rfl, (blk_cell BK142.out 1).trans rfl, (blk_cell BK142.out 2).trans rfl⟩ (fun hHeld => ?_); clear hK K; refine normA_ (some 42) ?_
       refine pureA_ (i := 5) (N := some 4) #[Y,Y,Y,Y,Y,Y] rfl rfl (by kernel_rfl) ?_
       refine done_ (by kernel_rfl) ?_
       try go_wp2
       go_ret
       exact ⟨by first | rfl | (simp [errW_none, errW_some] <;> rfl) | (simp [*, errW_none, errW_some] <;> rfl), by repeat (first | (with_reducible first | exact HB.out | apply below_alloc | apply pw_below_drewN | apply below_drew1 | refine below_set ?_ (Aside0.out (by assumption))) | exact HB.out)⟩
      ·replace c53 := Bool.eq_false_iff.mpr c53
       subst c53
       have H1 : ((big_of.f false t147 t148).bind fun bt159 => ((big_of.f t151 t152 t153).bind fun bt161 => ((big_size_cmpS.f bt159.1 bt159.2 bt161.1 bt161.2).bind fun t163 => (some t163)))) = some r := by rw [if_neg (show ¬ (false = true) by decide)] at H; exact H
       clear H; have H := H1; clear H1; replace H := Option.bind_eq_some_iff.mp H; obtain ⟨⟨t159, t160⟩, A640, H⟩ := H; replace H : ((big_of.f t151 t152 t153).bind fun bt161 => ((big_size_cmpS.f t159 t160 bt161.1 bt161.2).bind fun t163 => (some t163))) = some r := H; have A64 := Aside0.mk A640; clear A640; replace H := Option.bind_eq_some_iff.mp H; obtain ⟨⟨t161, t162⟩, A650, H⟩ := H; replace H : ((big_size_cmpS.f t159 t160 t161 t162).bind fun t163 => (some t163)) = some r := H; have A65 := Aside0.mk A650; clear A650; replace H := Option.bind_eq_some_iff.mp H; obtain ⟨t163, A660, H⟩ := H; replace H : (some t163) = some r := H; have A66 := Aside0.mk A660; clear A660; obtain rfl := Option.some.inj H; have hnb67 := NB142_143.out; have hnc67 := NB143_142.out; have hcz68_0 : wc.cell? ⟨gb142, 0, none⟩ = some (.bool false) := (blk_cell BK142.out 0).trans rfl; have hcz68_1 : wc.cell? ⟨gb142, 1, none⟩ = some (.int .u64 t147) := (blk_cell BK142.out 1).trans rfl; have hcz68_2 : wc.cell? ⟨gb142, 2, none⟩ = some (.int .u64 t148) := (blk_cell BK142.out 2).trans rfl; have hfz68_0 := blk_frozen BK142.out 0; have hfz68_1 := blk_frozen BK142.out 1; have hfz68_2 := blk_frozen BK142.out 2; have hcz69_0 : wc.cell? ⟨gb143, 0, none⟩ = some (.bool t151) := (blk_cell BK143.out 0).trans rfl; have hcz69_1 : wc.cell? ⟨gb143, 1, none⟩ = some (.int .u64 t152) := (blk_cell BK143.out 1).trans rfl; have hcz69_2 : wc.cell? ⟨gb143, 2, none⟩ = some (.int .u64 t153) := (blk_cell BK143.out 2).trans rfl; have hfz69_0 := blk_frozen BK143.out 0; have hfz69_1 := blk_frozen BK143.out 1; have hfz69_2 := blk_frozen BK143.out 2
       try go_wp2
       replace BK142 := Aside0.mk (blk_drew BK142.out); replace BK143 := Aside0.mk (blk_drew BK143.out); replace HB := Aside0.mk (below_drew1 HB.out); refine start_ (n := 6) (S := fun w' => w'.cell? ⟨gb142, 0, none⟩ = some (.bool false) ∧ w'.cell? ⟨gb142, 1, none⟩ = some (.int .u64 t147) ∧ w'.cell? ⟨gb142, 2, none⟩ = some (.int .u64 t148) ∧ w'.cell? ⟨gb143, 0, none⟩ = some (.bool t151) ∧ w'.cell? ⟨gb143, 1, none⟩ = some (.int .u64 t152) ∧ w'.cell? ⟨gb143, 2, none⟩ = some (.int .u64 t153)) (ds := []) #[N,N,N,N,N,N] (by kernel_rfl) rfl rfl ⟨(blk_cell BK142.out 0).trans rfl, (blk_cell BK142.out 1).trans rfl, (blk_cell BK142.out 2).trans rfl, (blk_cell BK143.out 0).trans rfl, (blk_cell BK143.out 1).trans rfl, (blk_cell BK143.out 2).trans rfl⟩ (fun hHeld => ?_)
       generalize wc.drew = w70 at BK142 BK143 HB hHeld ⊢
       refine take_ (i := 0) (N := some 43) (v := ?_) (a' := ?_) #[Y,N,N,N,N,N] rfl rfl (by kernel_rfl) (fun _ _ _ h => h) (Or.inl ⟨by rfl, ?_⟩) hHeld ?_ ?_; rotate_left
       ·rintro w' ⟨s0, s1, s2, s3, s4, s5⟩; go_simp
        with_reducible rfl
       rotate_left
       ·simp only [Act.put, sA, sB, sC, i64_w, i32_w]
        rfl
       refine take_ (i := 2) (N := some 45) (v := ?_) (a' := ?_) #[Y,N,Y,N,N,N] rfl rfl (by kernel_rfl) (fun _ _ _ h => h) (Or.inl ⟨by rfl, ?_⟩) hHeld ?_ ?_; rotate_left
       ·rintro w' ⟨s0, s1, s2, s3, s4, s5⟩; go_simp
        with_reducible rfl
       rotate_left
       ·simp only [Act.put, sA, sB, sC, i64_w, i32_w]
        rfl
       refine one_ (i := 1) (N := some 44) #[Y,Y,Y,N,N,N] rfl rfl (by kernel_rfl) (by decide) (fun K hK => ?_); refine goesA_ Tryd.func44 rfl #[.agg #[.bool false, .int .u64 t147, .int .u64 t148]] (by rfl) rfl rfl ?_
       with_reducible refine (big_of.calls false t147 t148 t159 t160 _ A64.out).mono ?_
       rintro e w71 ⟨rfl, hb⟩; refine ⟨_, rfl, ?_⟩; replace BK142 := bbZ BK142 hb; replace BK143 := bbZ BK143 hb; replace HB := Aside0.mk (below_step HB.out hb); clear hb; refine hK.out _ _ ⟨(blk_cell BK142.out 0).trans rfl, (blk_cell BK142.out 1).trans rfl, (blk_cell BK142.out 2).trans rfl, (blk_cell BK143.out 0).trans rfl, (blk_cell BK143.out 1).trans rfl, (blk_cell BK143.out 2).trans rfl⟩ (fun hHeld => ?_); clear hK K; refine normA_ (some 44) ?_
       refine one_ (i := 3) (N := some 46) #[Y,Y,Y,Y,N,N] rfl rfl (by kernel_rfl) (by decide) (fun K hK => ?_); refine goesA_ Tryd.func44 rfl #[.agg #[.bool t151, .int .u64 t152, .int .u64 t153]] (by rfl) rfl rfl ?_
       with_reducible refine (big_of.calls t151 t152 t153 t161 t162 _ A65.out).mono ?_
       rintro e w72 ⟨rfl, hb⟩; refine ⟨_, rfl, ?_⟩; replace BK142 := bbZ BK142 hb; replace BK143 := bbZ BK143 hb; replace HB := Aside0.mk (below_step HB.out hb); clear hb; refine hK.out _ _ ⟨(blk_cell BK142.out 0).trans rfl, (blk_cell BK142.out 1).trans rfl, (blk_cell BK142.out 2).trans rfl, (blk_cell BK143.out 0).trans rfl, (blk_cell BK143.out 1).trans rfl, (blk_cell BK143.out 2).trans rfl⟩ (fun hHeld => ?_); clear hK K; refine normA_ (some 46) ?_
       refine one_ (i := 4) (N := some 47) #[Y,Y,Y,Y,Y,N] rfl rfl (by kernel_rfl) (by decide) (fun K hK => ?_); refine goesA_ Tryd.func46 rfl #[.agg #[.int .u64 t159, .int .u64 t160], .agg #[.int .u64 t161, .int .u64 t162]] (by rfl) rfl rfl ?_
       with_reducible refine (big_size_cmpS.calls t159 t160 t161 t162 t163 _ A66.out).mono ?_
       rintro e w73 ⟨rfl, hb⟩; refine ⟨_, rfl, ?_⟩; replace BK142 := bbZ BK142 hb; replace BK143 := bbZ BK143 hb; replace HB := Aside0.mk (below_step HB.out hb); clear hb; refine hK.out _ _ ⟨(blk_cell BK142.out 0).trans rfl, (blk_cell BK142.out 1).trans rfl, (blk_cell BK142.out 2).trans rfl, (blk_cell BK143.out 0).trans rfl, (blk_cell BK143.out 1).trans rfl, (blk_cell BK143.out 2).trans rfl⟩ (fun hHeld => ?_); clear hK K; refine normA_ (some 47) ?_
       refine pureA_ (i := 5) (N := some 4) #[Y,Y,Y,Y,Y,Y] rfl rfl (by kernel_rfl) ?_
       refine done_ (by kernel_rfl) ?_
       try go_wp2
       go_ret
       exact ⟨by first | rfl | (simp [errW_none, errW_some] <;> rfl) | (simp [*, errW_none, errW_some] <;> rfl), by repeat (first | (with_reducible first | exact HB.out | apply below_alloc | apply pw_below_drewN | apply below_drew1 | refine below_set ?_ (Aside0.out (by assumption))) | exact HB.out)⟩

end Go.Proofs.YtbpcfamjidjhjaaDoor.Px
