/- Printed by px.py, over the kit's print. Conditions: none beside the theorems' own. -/
import Derived.Test.YtfahbgkoldoflaaGreatDoorPx0
import Derived.Test.YtfahbgkoldoflaaGreatDoorPx14
import Derived.Test.YtfahbgkoldoflaaGreatDoorPx18
import Derived.Test.YtfahbgkoldoflaaGreatDoorSpec
namespace Go.Proofs.YtfahbgkoldoflaaGreatDoor.Px
open Go.RowKit Go.Proofs.YtfahbgkoldoflaaGreatDoorW.PrintWords Go.Proofs.YtfahbgkoldoflaaGreatDoorW.PrintLast Go.Proofs.YtfahbgkoldoflaaGreatDoorW.PrintMore
attribute [local go_sem] max2_int min2_int max_two min_two max_three min_three max_four min_four
set_option linter.unusedVariables false
set_option linter.unusedSimpArgs false

/-! ### big_Int: function 145 -/
noncomputable def big_Int.f (a0_0 : Bool) (a0_1 : Int) (a0_2 : Int) : Option (Int) := (big_OfS.f 9223372036854775807).bind fun bt220 => ((big_CmpS.f a0_0 a0_1 a0_2 bt220.1 bt220.2.1 bt220.2.2).bind fun t223 => (if t223 > 0 then (some 9223372036854775807) else ((big_OfS.f (-9223372036854775808)).bind fun bt224 => ((big_CmpS.f a0_0 a0_1 a0_2 bt224.1 bt224.2.1 bt224.2.2).bind fun t227 => (if t227 < 0 then (some (-9223372036854775808)) else (if a0_0 = true then (some (wrap64 (-(wrap64 (a0_2))))) else (some (wrap64 (a0_2)))))))))
set_option maxHeartbeats 8000000 in
set_option maxRecDepth 100000 in
theorem big_Int.calls (a0_0 : Bool) (a0_1 : Int) (a0_2 : Int) (r : Int) (w : World) (h : big_Int.f a0_0 a0_1 a0_2 = some r) :
  Calls Tryz.prog 145 #[.agg #[.bool a0_0, .int .u64 a0_1, .int .u64 a0_2]] w fun e w' => e = .returned (.int .i64 r) ∧ Below w.heap.size w w' := by
 have hu99 := Tryz.underlying99; have HB := Aside0.mk (Below.refl w.heap.size w); have H : ((big_OfS.f 9223372036854775807).bind fun bt220 => ((big_CmpS.f a0_0 a0_1 a0_2 bt220.1 bt220.2.1 bt220.2.2).bind fun t223 => (if t223 > 0 then (some 9223372036854775807) else ((big_OfS.f (-9223372036854775808)).bind fun bt224 => ((big_CmpS.f a0_0 a0_1 a0_2 bt224.1 bt224.2.1 bt224.2.2).bind fun t227 => (if t227 < 0 then (some (-9223372036854775808)) else (if a0_0 = true then (some (wrap64 (-(wrap64 (a0_2))))) else (some (wrap64 (a0_2)))))))))) = some r := h; clear h; replace H := Option.bind_eq_some_iff.mp H; obtain ⟨⟨t220, t221, t222⟩, A20, H⟩ := H; (try dsimp only at H); have A2 := Aside0.mk A20; clear A20; replace H := Option.bind_eq_some_iff.mp H; obtain ⟨t223, A30, H⟩ := H; (try dsimp only at H); have A3 := Aside0.mk A30; clear A30
 by_cases c4 : t223 > 0
 ·rw [if_pos c4] at H
  have c4b0 : decide (0 < t223) = true := decide_eq_true c4; clear c4; obtain rfl := Option.some.inj H
  go_enter Tryz.func145, Tryz.ntmps145
  try go_wp2_with (first | ((with_reducible refine gate_dst (N := 1) rfl ?_); refine box_event ?hg (N := 1) ?hd (cs := #[.bool a0_0, .int .u64 a0_1, .int .u64 a0_2]) (t := 99) ?hr ?_; (case hd => rfl); (case hg => rfl); (case hr => first | (go_simp; done) | (go_simp; rfl)); intro gb219 hg w5 hbox hb; have BK219 := Aside0.mk (hbox); obtain ⟨GW219, nHB⟩ := geA hg hb; have GE219 := GW219; replace HB := nHB; clear nHB; clear hb hbox hg))
  replace BK219 := Aside0.mk (blk_drew BK219.out); replace HB := Aside0.mk (below_drew1 HB.out); refine start_ (n := 5) (S := fun w' => w'.cell? ⟨gb219, 0, none⟩ = some (.bool a0_0) ∧ w'.cell? ⟨gb219, 1, none⟩ = some (.int .u64 a0_1) ∧ w'.cell? ⟨gb219, 2, none⟩ = some (.int .u64 a0_2)) (ds := []) #[N,N,N,N,N] (by kernel_rfl) rfl rfl ⟨(blk_cell BK219.out 0).trans rfl, (blk_cell BK219.out 1).trans rfl, (blk_cell BK219.out 2).trans rfl⟩ (fun hHeld => ?_)
  generalize w5.drew = w6 at BK219 HB hHeld ⊢
  refine take_ (i := 0) (N := some 4) (v := ?_) (a' := ?_) #[Y,N,N,N,N] rfl rfl (by kernel_rfl) (fun _ _ _ h => h) (Or.inl ⟨by rfl, ?_⟩) hHeld ?_ ?_; rotate_left
  ·rintro w' ⟨s0, s1, s2⟩; go_simp
   with_reducible rfl
  rotate_left
  ·simp only [Act.put, sA, sB, sC, i64_w, i32_w]
   rfl
  refine one_ (i := 1) (N := some 5) #[Y,Y,N,N,N] rfl rfl (by kernel_rfl) (by decide) (fun K hK => ?_); refine goesA_ Tryz.func48 rfl #[.int .i64 9223372036854775807] (by rfl) rfl rfl ?_
  with_reducible refine (big_OfS.calls 9223372036854775807 t220 t221 t222 _ A2.out).mono ?_
  rintro e w7 ⟨rfl, hb⟩; refine ⟨_, rfl, ?_⟩; replace BK219 := bbZ BK219 hb; replace HB := Aside0.mk (below_step HB.out hb); clear hb; refine hK.out _ _ ⟨(blk_cell BK219.out 0).trans rfl, (blk_cell BK219.out 1).trans rfl, (blk_cell BK219.out 2).trans rfl⟩ (fun hHeld => ?_); clear hK K; refine normA_ (some 5) ?_
  refine one_ (i := 2) (N := some 6) #[Y,Y,Y,N,N] rfl rfl (by kernel_rfl) (by decide) (fun K hK => ?_); refine goesA_ Tryz.func112 rfl #[.agg #[.bool a0_0, .int .u64 a0_1, .int .u64 a0_2], .agg #[.bool t220, .int .u64 t221, .int .u64 t222]] (by rfl) rfl rfl ?_
  with_reducible refine (big_CmpS.calls a0_0 a0_1 a0_2 t220 t221 t222 t223 _ A3.out).mono ?_
  rintro e w8 ⟨rfl, hb⟩; refine ⟨_, rfl, ?_⟩; replace BK219 := bbZ BK219 hb; replace HB := Aside0.mk (below_step HB.out hb); clear hb; refine hK.out _ _ ⟨(blk_cell BK219.out 0).trans rfl, (blk_cell BK219.out 1).trans rfl, (blk_cell BK219.out 2).trans rfl⟩ (fun hHeld => ?_); clear hK K; refine normA_ (some 6) ?_
  refine pureA_ (i := 3) (N := some 7) #[Y,Y,Y,Y,N] rfl rfl (by kernel_rfl) ?_
  refine pureA_ (i := 4) (N := some 3) #[Y,Y,Y,Y,Y] rfl rfl (by kernel_rfl) ?_
  refine done_ (by kernel_rfl) ?_
  try go_wp2
  go_ret
  exact ⟨by first | rfl | (simp [errW_none, errW_some] <;> rfl) | (simp [*, errW_none, errW_some] <;> rfl), by repeat (first | (with_reducible first | exact HB.out | apply below_alloc | apply pw_below_drewN | apply below_drew1 | refine below_set ?_ GE219.out) | exact HB.out)⟩
 ·rw [if_neg c4] at H
  have c4b0 : decide (0 < t223) = false := decide_eq_false c4; clear c4; replace H := Option.bind_eq_some_iff.mp H; obtain ⟨⟨t224, t225, t226⟩, A90, H⟩ := H; (try dsimp only at H); have A9 := Aside0.mk A90; clear A90; replace H := Option.bind_eq_some_iff.mp H; obtain ⟨t227, A100, H⟩ := H; replace H : (if t227 < 0 then (some (-9223372036854775808)) else (if a0_0 = true then (some (wrap64 (-(wrap64 (a0_2))))) else (some (wrap64 (a0_2))))) = some r := H; have A10 := Aside0.mk A100; clear A100
  by_cases c11 : t227 < 0
  ·rw [if_pos c11] at H
   have c11b0 : decide (t227 < 0) = true := decide_eq_true c11; clear c11; obtain rfl := Option.some.inj H
   go_enter Tryz.func145, Tryz.ntmps145
   try go_wp2_with (first | ((with_reducible refine gate_dst (N := 1) rfl ?_); refine box_event ?hg (N := 1) ?hd (cs := #[.bool a0_0, .int .u64 a0_1, .int .u64 a0_2]) (t := 99) ?hr ?_; (case hd => rfl); (case hg => rfl); (case hr => first | (go_simp; done) | (go_simp; rfl)); intro gb219 hg w12 hbox hb; have BK219 := Aside0.mk (hbox); obtain ⟨GW219, nHB⟩ := geA hg hb; have GE219 := GW219; replace HB := nHB; clear nHB; clear hb hbox hg))
   replace BK219 := Aside0.mk (blk_drew BK219.out); replace HB := Aside0.mk (below_drew1 HB.out); refine start_ (n := 5) (S := fun w' => w'.cell? ⟨gb219, 0, none⟩ = some (.bool a0_0) ∧ w'.cell? ⟨gb219, 1, none⟩ = some (.int .u64 a0_1) ∧ w'.cell? ⟨gb219, 2, none⟩ = some (.int .u64 a0_2)) (ds := []) #[N,N,N,N,N] (by kernel_rfl) rfl rfl ⟨(blk_cell BK219.out 0).trans rfl, (blk_cell BK219.out 1).trans rfl, (blk_cell BK219.out 2).trans rfl⟩ (fun hHeld => ?_)
   generalize w12.drew = w13 at BK219 HB hHeld ⊢
   refine take_ (i := 0) (N := some 4) (v := ?_) (a' := ?_) #[Y,N,N,N,N] rfl rfl (by kernel_rfl) (fun _ _ _ h => h) (Or.inl ⟨by rfl, ?_⟩) hHeld ?_ ?_; rotate_left
   ·rintro w' ⟨s0, s1, s2⟩; go_simp
    with_reducible rfl
   rotate_left
   ·simp only [Act.put, sA, sB, sC, i64_w, i32_w]
    rfl
   refine one_ (i := 1) (N := some 5) #[Y,Y,N,N,N] rfl rfl (by kernel_rfl) (by decide) (fun K hK => ?_); refine goesA_ Tryz.func48 rfl #[.int .i64 9223372036854775807] (by rfl) rfl rfl ?_
   with_reducible refine (big_OfS.calls 9223372036854775807 t220 t221 t222 _ A2.out).mono ?_
   rintro e w14 ⟨rfl, hb⟩; refine ⟨_, rfl, ?_⟩; replace BK219 := bbZ BK219 hb; replace HB := Aside0.mk (below_step HB.out hb); clear hb; refine hK.out _ _ ⟨(blk_cell BK219.out 0).trans rfl, (blk_cell BK219.out 1).trans rfl, (blk_cell BK219.out 2).trans rfl⟩ (fun hHeld => ?_); clear hK K; refine normA_ (some 5) ?_
   refine one_ (i := 2) (N := some 6) #[Y,Y,Y,N,N] rfl rfl (by kernel_rfl) (by decide) (fun K hK => ?_); refine goesA_ Tryz.func112 rfl #[.agg #[.bool a0_0, .int .u64 a0_1, .int .u64 a0_2], .agg #[.bool t220, .int .u64 t221, .int .u64 t222]] (by rfl) rfl rfl ?_
   with_reducible refine (big_CmpS.calls a0_0 a0_1 a0_2 t220 t221 t222 t223 _ A3.out).mono ?_
   rintro e w15 ⟨rfl, hb⟩; refine ⟨_, rfl, ?_⟩; replace BK219 := bbZ BK219 hb; replace HB := Aside0.mk (below_step HB.out hb); clear hb; refine hK.out _ _ ⟨(blk_cell BK219.out 0).trans rfl, (blk_cell BK219.out 1).trans rfl, (blk_cell BK219.out 2).trans rfl⟩ (fun hHeld => ?_); clear hK K; refine normA_ (some 6) ?_
   refine pureA_ (i := 3) (N := some 7) #[Y,Y,Y,Y,N] rfl rfl (by kernel_rfl) ?_
   refine pureA_ (i := 4) (N := some 3) #[Y,Y,Y,Y,Y] rfl rfl (by kernel_rfl) ?_
   refine done_ (by kernel_rfl) ?_
   try go_wp2
   replace BK219 := Aside0.mk (blk_drew BK219.out); replace HB := Aside0.mk (below_drew1 HB.out); refine start_ (n := 5) (S := fun w' => w'.cell? ⟨gb219, 0, none⟩ = some (.bool a0_0) ∧ w'.cell? ⟨gb219, 1, none⟩ = some (.int .u64 a0_1) ∧ w'.cell? ⟨gb219, 2, none⟩ = some (.int .u64 a0_2)) (ds := []) #[N,N,N,N,N] (by kernel_rfl) rfl rfl ⟨(blk_cell BK219.out 0).trans rfl, (blk_cell BK219.out 1).trans rfl, (blk_cell BK219.out 2).trans rfl⟩ (fun hHeld => ?_)
   generalize w15.drew = w16 at BK219 HB hHeld ⊢
   refine take_ (i := 0) (N := some 9) (v := ?_) (a' := ?_) #[Y,N,N,N,N] rfl rfl (by kernel_rfl) (fun _ _ _ h => h) (Or.inl ⟨by rfl, ?_⟩) hHeld ?_ ?_; rotate_left
   ·rintro w' ⟨s0, s1, s2⟩; go_simp
    with_reducible rfl
   rotate_left
   ·simp only [Act.put, sA, sB, sC, i64_w, i32_w]
    rfl
   refine one_ (i := 1) (N := some 10) #[Y,Y,N,N,N] rfl rfl (by kernel_rfl) (by decide) (fun K hK => ?_); refine goesA_ Tryz.func48 rfl #[.int .i64 (-9223372036854775808)] (by rfl) rfl rfl ?_
   with_reducible refine (big_OfS.calls (-9223372036854775808) t224 t225 t226 _ A9.out).mono ?_
   rintro e w17 ⟨rfl, hb⟩; refine ⟨_, rfl, ?_⟩; replace BK219 := bbZ BK219 hb; replace HB := Aside0.mk (below_step HB.out hb); clear hb; refine hK.out _ _ ⟨(blk_cell BK219.out 0).trans rfl, (blk_cell BK219.out 1).trans rfl, (blk_cell BK219.out 2).trans rfl⟩ (fun hHeld => ?_); clear hK K; refine normA_ (some 10) ?_
   refine one_ (i := 2) (N := some 11) #[Y,Y,Y,N,N] rfl rfl (by kernel_rfl) (by decide) (fun K hK => ?_); refine goesA_ Tryz.func112 rfl #[.agg #[.bool a0_0, .int .u64 a0_1, .int .u64 a0_2], .agg #[.bool t224, .int .u64 t225, .int .u64 t226]] (by rfl) rfl rfl ?_
   with_reducible refine (big_CmpS.calls a0_0 a0_1 a0_2 t224 t225 t226 t227 _ A10.out).mono ?_
   rintro e w18 ⟨rfl, hb⟩; refine ⟨_, rfl, ?_⟩; replace BK219 := bbZ BK219 hb; replace HB := Aside0.mk (below_step HB.out hb); clear hb; refine hK.out _ _ ⟨(blk_cell BK219.out 0).trans rfl, (blk_cell BK219.out 1).trans rfl, (blk_cell BK219.out 2).trans rfl⟩ (fun hHeld => ?_); clear hK K; refine normA_ (some 11) ?_
   refine pureA_ (i := 3) (N := some 12) #[Y,Y,Y,Y,N] rfl rfl (by kernel_rfl) ?_
   refine pureA_ (i := 4) (N := some 8) #[Y,Y,Y,Y,Y] rfl rfl (by kernel_rfl) ?_
   refine done_ (by kernel_rfl) ?_
   try go_wp2
   go_ret
   exact ⟨by first | rfl | (simp [errW_none, errW_some] <;> rfl) | (simp [*, errW_none, errW_some] <;> rfl), by repeat (first | (with_reducible first | exact HB.out | apply below_alloc | apply pw_below_drewN | apply below_drew1 | refine below_set ?_ GE219.out) | exact HB.out)⟩
  ·rw [if_neg c11] at H
   have c11b0 : decide (t227 < 0) = false := decide_eq_false c11; clear c11
   by_cases c19 : a0_0 = true
   ·subst c19
    have H1 : (some (wrap64 (-(wrap64 (a0_2))))) = some r := by rw [if_pos rfl] at H; exact H
    clear H; have H := H1; clear H1; obtain rfl := Option.some.inj H
    go_enter Tryz.func145, Tryz.ntmps145
    try go_wp2_with (first | ((with_reducible refine gate_dst (N := 1) rfl ?_); refine box_event ?hg (N := 1) ?hd (cs := #[.bool true, .int .u64 a0_1, .int .u64 a0_2]) (t := 99) ?hr ?_; (case hd => rfl); (case hg => rfl); (case hr => first | (go_simp; done) | (go_simp; rfl)); intro gb219 hg w20 hbox hb; have BK219 := Aside0.mk (hbox); obtain ⟨GW219, nHB⟩ := geA hg hb; have GE219 := GW219; replace HB := nHB; clear nHB; clear hb hbox hg))
    replace BK219 := Aside0.mk (blk_drew BK219.out); replace HB := Aside0.mk (below_drew1 HB.out); refine start_ (n := 5) (S := fun w' => w'.cell? ⟨gb219, 0, none⟩ = some (.bool true) ∧ w'.cell? ⟨gb219, 1, none⟩ = some (.int .u64 a0_1) ∧ w'.cell? ⟨gb219, 2, none⟩ = some (.int .u64 a0_2)) (ds := []) #[N,N,N,N,N] (by kernel_rfl) rfl rfl ⟨(blk_cell BK219.out 0).trans rfl, (blk_cell BK219.out 1).trans rfl, (blk_cell BK219.out 2).trans rfl⟩ (fun hHeld => ?_)
    generalize w20.drew = w21 at BK219 HB hHeld ⊢
    refine take_ (i := 0) (N := some 4) (v := ?_) (a' := ?_) #[Y,N,N,N,N] rfl rfl (by kernel_rfl) (fun _ _ _ h => h) (Or.inl ⟨by rfl, ?_⟩) hHeld ?_ ?_; rotate_left
    ·rintro w' ⟨s0, s1, s2⟩; go_simp
     with_reducible rfl
    rotate_left
    ·simp only [Act.put, sA, sB, sC, i64_w, i32_w]
     rfl
    refine one_ (i := 1) (N := some 5) #[Y,Y,N,N,N] rfl rfl (by kernel_rfl) (by decide) (fun K hK => ?_); refine goesA_ Tryz.func48 rfl #[.int .i64 9223372036854775807] (by rfl) rfl rfl ?_
    with_reducible refine (big_OfS.calls 9223372036854775807 t220 t221 t222 _ A2.out).mono ?_
    rintro e w22 ⟨rfl, hb⟩; refine ⟨_, rfl, ?_⟩; replace BK219 := bbZ BK219 hb; replace HB := Aside0.mk (below_step HB.out hb); clear hb; refine hK.out _ _ ⟨(blk_cell BK219.out 0).trans rfl, (blk_cell BK219.out 1).trans rfl, (blk_cell BK219.out 2).trans rfl⟩ (fun hHeld => ?_); clear hK K; refine normA_ (some 5) ?_
    refine one_ (i := 2) (N := some 6) #[Y,Y,Y,N,N] rfl rfl (by kernel_rfl) (by decide) (fun K hK => ?_); refine goesA_ Tryz.func112 rfl #[.agg #[.bool true, .int .u64 a0_1, .int .u64 a0_2], .agg #[.bool t220, .int .u64 t221, .int .u64 t222]] (by rfl) rfl rfl ?_
    with_reducible refine (big_CmpS.calls true a0_1 a0_2 t220 t221 t222 t223 _ A3.out).mono ?_
    rintro e w23 ⟨rfl, hb⟩; refine ⟨_, rfl, ?_⟩; replace BK219 := bbZ BK219 hb; replace HB := Aside0.mk (below_step HB.out hb); clear hb; refine hK.out _ _ ⟨(blk_cell BK219.out 0).trans rfl, (blk_cell BK219.out 1).trans rfl, (blk_cell BK219.out 2).trans rfl⟩ (fun hHeld => ?_); clear hK K; refine normA_ (some 6) ?_
    refine pureA_ (i := 3) (N := some 7) #[Y,Y,Y,Y,N] rfl rfl (by kernel_rfl) ?_
    refine pureA_ (i := 4) (N := some 3) #[Y,Y,Y,Y,Y] rfl rfl (by kernel_rfl) ?_
    refine done_ (by kernel_rfl) ?_
    try go_wp2
    replace BK219 := Aside0.mk (blk_drew BK219.out); replace HB := Aside0.mk (below_drew1 HB.out); refine start_ (n := 5) (S := fun w' => w'.cell? ⟨gb219, 0, none⟩ = some (.bool true) ∧ w'.cell? ⟨gb219, 1, none⟩ = some (.int .u64 a0_1) ∧ w'.cell? ⟨gb219, 2, none⟩ = some (.int .u64 a0_2)) (ds := []) #[N,N,N,N,N] (by kernel_rfl) rfl rfl ⟨(blk_cell BK219.out 0).trans rfl, (blk_cell BK219.out 1).trans rfl, (blk_cell BK219.out 2).trans rfl⟩ (fun hHeld => ?_)
    generalize w23.drew = w24 at BK219 HB hHeld ⊢
    refine take_ (i := 0) (N := some 9) (v := ?_) (a' := ?_) #[Y,N,N,N,N] rfl rfl (by kernel_rfl) (fun _ _ _ h => h) (Or.inl ⟨by rfl, ?_⟩) hHeld ?_ ?_; rotate_left
    ·rintro w' ⟨s0, s1, s2⟩; go_simp
     with_reducible rfl
    rotate_left
    ·simp only [Act.put, sA, sB, sC, i64_w, i32_w]
     rfl
    refine one_ (i := 1) (N := some 10) #[Y,Y,N,N,N] rfl rfl (by kernel_rfl) (by decide) (fun K hK => ?_); refine goesA_ Tryz.func48 rfl #[.int .i64 (-9223372036854775808)] (by rfl) rfl rfl ?_
    with_reducible refine (big_OfS.calls (-9223372036854775808) t224 t225 t226 _ A9.out).mono ?_
    rintro e w25 ⟨rfl, hb⟩; refine ⟨_, rfl, ?_⟩; replace BK219 := bbZ BK219 hb; replace HB := Aside0.mk (below_step HB.out hb); clear hb; refine hK.out _ _ ⟨(blk_cell BK219.out 0).trans rfl, (blk_cell BK219.out 1).trans rfl, (blk_cell BK219.out 2).trans rfl⟩ (fun hHeld => ?_); clear hK K; refine normA_ (some 10) ?_
    refine one_ (i := 2) (N := some 11) #[Y,Y,Y,N,N] rfl rfl (by kernel_rfl) (by decide) (fun K hK => ?_); refine goesA_ Tryz.func112 rfl #[.agg #[.bool true, .int .u64 a0_1, .int .u64 a0_2], .agg #[.bool t224, .int .u64 t225, .int .u64 t226]] (by rfl) rfl rfl ?_
    with_reducible refine (big_CmpS.calls true a0_1 a0_2 t224 t225 t226 t227 _ A10.out).mono ?_
    rintro e w26 ⟨rfl, hb⟩; refine ⟨_, rfl, ?_⟩; replace BK219 := bbZ BK219 hb; replace HB := Aside0.mk (below_step HB.out hb); clear hb; refine hK.out _ _ ⟨(blk_cell BK219.out 0).trans rfl, (blk_cell BK219.out 1).trans rfl, (blk_cell BK219.out 2).trans rfl⟩ (fun hHeld => ?_); clear hK K; refine normA_ (some 11) ?_
    refine pureA_ (i := 3) (N := some 12) #[Y,Y,Y,Y,N] rfl rfl (by kernel_rfl) ?_
    refine pureA_ (i := 4) (N := some 8) #[Y,Y,Y,Y,Y] rfl rfl (by kernel_rfl) ?_
    refine done_ (by kernel_rfl) ?_; have hcz27_0 := czZ BK219 0 (.bool true); have hcz27_1 := czZ BK219 1 (.int .u64 a0_1); have hcz27_2 := czZ BK219 2 (.int .u64 a0_2); have hfz27_0 := blk_frozen BK219.out 0; have hfz27_1 := blk_frozen BK219.out 1; have hfz27_2 := blk_frozen BK219.out 2
    try go_wp2
    go_ret
    exact ⟨by first | rfl | (simp [errW_none, errW_some] <;> rfl) | (simp [*, errW_none, errW_some] <;> rfl), by repeat (first | (with_reducible first | exact HB.out | apply below_alloc | apply pw_below_drewN | apply below_drew1 | refine below_set ?_ GE219.out) | exact HB.out)⟩
   ·replace c19 := Bool.eq_false_iff.mpr c19
    subst c19
    have H1 : (some (wrap64 (a0_2))) = some r := by rw [if_neg (show ¬ (false = true) by decide)] at H; exact H
    clear H; have H := H1; clear H1; obtain rfl := Option.some.inj H
    go_enter Tryz.func145, Tryz.ntmps145
    try go_wp2_with (first | ((with_reducible refine gate_dst (N := 1) rfl ?_); refine box_event ?hg (N := 1) ?hd (cs := #[.bool false, .int .u64 a0_1, .int .u64 a0_2]) (t := 99) ?hr ?_; (case hd => rfl); (case hg => rfl); (case hr => first | (go_simp; done) | (go_simp; rfl)); intro gb219 hg w28 hbox hb; have BK219 := Aside0.mk (hbox); obtain ⟨GW219, nHB⟩ := geA hg hb; have GE219 := GW219; replace HB := nHB; clear nHB; clear hb hbox hg))
    replace BK219 := Aside0.mk (blk_drew BK219.out); replace HB := Aside0.mk (below_drew1 HB.out); refine start_ (n := 5) (S := fun w' => w'.cell? ⟨gb219, 0, none⟩ = some (.bool false) ∧ w'.cell? ⟨gb219, 1, none⟩ = some (.int .u64 a0_1) ∧ w'.cell? ⟨gb219, 2, none⟩ = some (.int .u64 a0_2)) (ds := []) #[N,N,N,N,N] (by kernel_rfl) rfl rfl ⟨(blk_cell BK219.out 0).trans rfl, (blk_cell BK219.out 1).trans rfl, (blk_cell BK219.out 2).trans rfl⟩ (fun hHeld => ?_)
    generalize w28.drew = w29 at BK219 HB hHeld ⊢
    refine take_ (i := 0) (N := some 4) (v := ?_) (a' := ?_) #[Y,N,N,N,N] rfl rfl (by kernel_rfl) (fun _ _ _ h => h) (Or.inl ⟨by rfl, ?_⟩) hHeld ?_ ?_; rotate_left
    ·rintro w' ⟨s0, s1, s2⟩; go_simp
     with_reducible rfl
    rotate_left
    ·simp only [Act.put, sA, sB, sC, i64_w, i32_w]
     rfl
    refine one_ (i := 1) (N := some 5) #[Y,Y,N,N,N] rfl rfl (by kernel_rfl) (by decide) (fun K hK => ?_); refine goesA_ Tryz.func48 rfl #[.int .i64 9223372036854775807] (by rfl) rfl rfl ?_
    with_reducible refine (big_OfS.calls 9223372036854775807 t220 t221 t222 _ A2.out).mono ?_
    rintro e w30 ⟨rfl, hb⟩; refine ⟨_, rfl, ?_⟩; replace BK219 := bbZ BK219 hb; replace HB := Aside0.mk (below_step HB.out hb); clear hb; refine hK.out _ _ ⟨(blk_cell BK219.out 0).trans rfl, (blk_cell BK219.out 1).trans rfl, (blk_cell BK219.out 2).trans rfl⟩ (fun hHeld => ?_); clear hK K; refine normA_ (some 5) ?_
    refine one_ (i := 2) (N := some 6) #[Y,Y,Y,N,N] rfl rfl (by kernel_rfl) (by decide) (fun K hK => ?_); refine goesA_ Tryz.func112 rfl #[.agg #[.bool false, .int .u64 a0_1, .int .u64 a0_2], .agg #[.bool t220, .int .u64 t221, .int .u64 t222]] (by rfl) rfl rfl ?_
    with_reducible refine (big_CmpS.calls false a0_1 a0_2 t220 t221 t222 t223 _ A3.out).mono ?_
    rintro e w31 ⟨rfl, hb⟩; refine ⟨_, rfl, ?_⟩; replace BK219 := bbZ BK219 hb; replace HB := Aside0.mk (below_step HB.out hb); clear hb; refine hK.out _ _ ⟨(blk_cell BK219.out 0).trans rfl, (blk_cell BK219.out 1).trans rfl, (blk_cell BK219.out 2).trans rfl⟩ (fun hHeld => ?_); clear hK K; refine normA_ (some 6) ?_
    refine pureA_ (i := 3) (N := some 7) #[Y,Y,Y,Y,N] rfl rfl (by kernel_rfl) ?_
    refine pureA_ (i := 4) (N := some 3) #[Y,Y,Y,Y,Y] rfl rfl (by kernel_rfl) ?_
    refine done_ (by kernel_rfl) ?_
    try go_wp2
    replace BK219 := Aside0.mk (blk_drew BK219.out); replace HB := Aside0.mk (below_drew1 HB.out); refine start_ (n := 5) (S := fun w' => w'.cell? ⟨gb219, 0, none⟩ = some (.bool false) ∧ w'.cell? ⟨gb219, 1, none⟩ = some (.int .u64 a0_1) ∧ w'.cell? ⟨gb219, 2, none⟩ = some (.int .u64 a0_2)) (ds := []) #[N,N,N,N,N] (by kernel_rfl) rfl rfl ⟨(blk_cell BK219.out 0).trans rfl, (blk_cell BK219.out 1).trans rfl, (blk_cell BK219.out 2).trans rfl⟩ (fun hHeld => ?_)
    generalize w31.drew = w32 at BK219 HB hHeld ⊢
    refine take_ (i := 0) (N := some 9) (v := ?_) (a' := ?_) #[Y,N,N,N,N] rfl rfl (by kernel_rfl) (fun _ _ _ h => h) (Or.inl ⟨by rfl, ?_⟩) hHeld ?_ ?_; rotate_left
    ·rintro w' ⟨s0, s1, s2⟩; go_simp
     with_reducible rfl
    rotate_left
    ·simp only [Act.put, sA, sB, sC, i64_w, i32_w]
     rfl
    refine one_ (i := 1) (N := some 10) #[Y,Y,N,N,N] rfl rfl (by kernel_rfl) (by decide) (fun K hK => ?_); refine goesA_ Tryz.func48 rfl #[.int .i64 (-9223372036854775808)] (by rfl) rfl rfl ?_
    with_reducible refine (big_OfS.calls (-9223372036854775808) t224 t225 t226 _ A9.out).mono ?_
    rintro e w33 ⟨rfl, hb⟩; refine ⟨_, rfl, ?_⟩; replace BK219 := bbZ BK219 hb; replace HB := Aside0.mk (below_step HB.out hb); clear hb; refine hK.out _ _ ⟨(blk_cell BK219.out 0).trans rfl, (blk_cell BK219.out 1).trans rfl, (blk_cell BK219.out 2).trans rfl⟩ (fun hHeld => ?_); clear hK K; refine normA_ (some 10) ?_
    refine one_ (i := 2) (N := some 11) #[Y,Y,Y,N,N] rfl rfl (by kernel_rfl) (by decide) (fun K hK => ?_); refine goesA_ Tryz.func112 rfl #[.agg #[.bool false, .int .u64 a0_1, .int .u64 a0_2], .agg #[.bool t224, .int .u64 t225, .int .u64 t226]] (by rfl) rfl rfl ?_
    with_reducible refine (big_CmpS.calls false a0_1 a0_2 t224 t225 t226 t227 _ A10.out).mono ?_
    rintro e w34 ⟨rfl, hb⟩; refine ⟨_, rfl, ?_⟩; replace BK219 := bbZ BK219 hb; replace HB := Aside0.mk (below_step HB.out hb); clear hb; refine hK.out _ _ ⟨(blk_cell BK219.out 0).trans rfl, (blk_cell BK219.out 1).trans rfl, (blk_cell BK219.out 2).trans rfl⟩ (fun hHeld => ?_); clear hK K; refine normA_ (some 11) ?_
    refine pureA_ (i := 3) (N := some 12) #[Y,Y,Y,Y,N] rfl rfl (by kernel_rfl) ?_
    refine pureA_ (i := 4) (N := some 8) #[Y,Y,Y,Y,Y] rfl rfl (by kernel_rfl) ?_
    refine done_ (by kernel_rfl) ?_; have hcz35_0 := czZ BK219 0 (.bool false); have hcz35_1 := czZ BK219 1 (.int .u64 a0_1); have hcz35_2 := czZ BK219 2 (.int .u64 a0_2); have hfz35_0 := blk_frozen BK219.out 0; have hfz35_1 := blk_frozen BK219.out 1; have hfz35_2 := blk_frozen BK219.out 2
    try go_wp2
    go_ret
    exact ⟨by first | rfl | (simp [errW_none, errW_some] <;> rfl) | (simp [*, errW_none, errW_some] <;> rfl), by repeat (first | (with_reducible first | exact HB.out | apply below_alloc | apply pw_below_drewN | apply below_drew1 | refine below_set ?_ GE219.out) | exact HB.out)⟩

/-! ### big_IntS: the nearest int: pure, behind function 145 -/
noncomputable def big_IntS.f (n : Bool) (h l : Int) : Option Int := Sp.need (Sp.U h ∧ Sp.U l) (some (Sp.near (Sp.val n h l)))
theorem big_IntS.eq {n : Bool} {h l : Int} (h1 : Sp.U h) (h2 : Sp.U l) : big_IntS.f n h l = some (Sp.near (Sp.val n h l)) := Sp.need_pos ⟨h1, h2⟩
theorem big_IntS.enc {v : Int} (h : Sp.B v) : big_IntS.f (Sp.encN v) (Sp.encH v) (Sp.encL v) = some (Sp.near v) := by
 rw [big_IntS.eq (Sp.encH_U h) Sp.encL_U, Sp.val_enc]
theorem big_IntS.calls (a0_0 : Bool) (a0_1 a0_2 r : Int) (w : World) (h : big_IntS.f a0_0 a0_1 a0_2 = some r) :
  Calls Tryz.prog 145 #[.agg #[.bool a0_0, .int .u64 a0_1, .int .u64 a0_2]] w fun e w' => e = .returned (.int .i64 r) ∧ Below w.heap.size w w' := by
 obtain ⟨hc, h⟩ := Sp.need_some h; obtain ⟨h1, h2⟩ := hc; refine big_Int.calls a0_0 a0_1 a0_2 r w ?_
 rw [← h]
 have o1 : big_OfS.f 9223372036854775807 = some (false, 0, 9223372036854775807) := by
  unfold big_OfS.f
  obtain ⟨a, b, c⟩ := Sp.enc_small (v := 9223372036854775807) (by omega)
  rw [Sp.need_pos (by omega), a, b, c]
 have o2 : big_OfS.f (-9223372036854775808) = some (true, 0, 9223372036854775808) := by
  unfold big_OfS.f
  obtain ⟨a, b, c⟩ := Sp.enc_neg (v := 9223372036854775808) (by omega) (by omega)
  rw [Sp.need_pos (by omega), a, b, c]
 unfold big_Int.f
 rw [o1, o2]
 simp only [Option.bind_some]
 unfold big_CmpS.f
 rw [Sp.need_pos (by omega), Sp.need_pos (by omega)]
 simp only [Option.bind_some]
 have v1 : Sp.val false 0 9223372036854775807 = 9223372036854775807 := by unfold Sp.val; simp
 have v2 : Sp.val true 0 9223372036854775808 = -9223372036854775808 := by unfold Sp.val; simp
 rw [v1, v2]
 have hv : Sp.val a0_0 a0_1 a0_2 = if a0_0 = true then -(a0_1 * 18446744073709551616 + a0_2) else a0_1 * 18446744073709551616 + a0_2 := rfl
 generalize Sp.val a0_0 a0_1 a0_2 = v at *
 unfold Sp.cmpI Sp.near
 by_cases c1 : 9223372036854775807 < v
 ·rw [if_neg (show ¬ v < 9223372036854775807 by omega), if_neg (show ¬ v = 9223372036854775807 by omega), if_pos (by omega), if_pos c1]
 rw [if_neg (show ¬ (if v < 9223372036854775807 then (-1 : Int) else if v = 9223372036854775807 then 0 else 1) > 0 by split <;> (try split) <;> omega), if_neg c1]
 by_cases c2 : v < -9223372036854775808
 ·rw [if_pos c2, if_pos (by omega), if_pos c2]
 rw [if_neg (show ¬ (if v < -9223372036854775808 then (-1 : Int) else if v = -9223372036854775808 then 0 else 1) < 0 by split <;> (try split) <;> omega), if_neg c2]
 cases a0_0
 ·simp only [Bool.false_eq_true, if_false] at hv ⊢
  congr 1; unfold wrap64; omega
 ·simp only [if_true] at hv ⊢
  congr 1; unfold wrap64; omega

-- NOT PRINTED: function 100 (frac_way_part)

end Go.Proofs.YtfahbgkoldoflaaGreatDoor.Px
