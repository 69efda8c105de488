/- Printed by px.py, over the kit's print. Conditions: none beside the theorems' own. -/
import Derived.ScopeJumps
import Derived.WalkMore
import Derived.Test.YtfahbgkoldoflaaGreatDoorPx0
import Derived.Test.YtfahbgkoldoflaaGreatDoorPx12
import Derived.Test.YtfahbgkoldoflaaGreatDoorPx20
import Derived.Test.YtfahbgkoldoflaaGreatDoorSpec
namespace Go.Proofs.YtfahbgkoldoflaaGreatDoor.Px
open Go.RowKit Go.Proofs.YtfahbgkoldoflaaGreatDoorW.PrintWords Go.Proofs.YtfahbgkoldoflaaGreatDoorW.PrintLast Go.Proofs.YtfahbgkoldoflaaGreatDoorW.PrintMore
attribute [local go_sem] max2_int min2_int max_two min_two max_three min_three max_four min_four
set_option linter.unusedVariables false
set_option linter.unusedSimpArgs false

/-! ### rate_Of: function 75 -/
noncomputable def rate_Of.f (a0 : Int) (a1 : Int) (a2_0 : Bool) (a2_1 : Int) (a2_2 : Int) (a3 : Bool) : Option (Int) := (rate_Gain.f a3).bind fun bt259 => ((rate_bounds_int_take.f 0 68719476736 a0).bind fun t261 => ((rate_bounds_int_take.f 1 65535 a1).bind fun t262 => ((rate_timeS.f a2_0 a2_1 a2_2).bind fun t263 => ((frac_FloorS.f (wrap64 (t261 * bt259.1)) (wrap64 (t262 * 1000000)) (wrap64 ((wrap64 (bt259.2 * 65536)) * t263))).bind fun bt264 => (if bt264.2 = 0 then (some (mx bt264.1 1)) else ((safe_Mul.f 68719476736 65535).bind fun t266 => (some t266)))))))
def rate_Of.T3 : Bool × List (List Nat × List Nat) := (true, [([], []), ([], []), ([0, 1], [0, 1]), ([], []), ([2, 3], [2, 3]), ([], []), ([], []), ([5, 6, 2], [5, 6]), ([7], [7]), ([], []), ([9], [9]), ([], []), ([11, 7], [11]), ([10, 12], [10, 12]), ([4, 8, 13, 12], [4, 8, 13]), ([14], [14]), ([15], [15]), ([15], [15]), ([16, 14, 0, 1, 2, 3, 4, 5, 6, 7, 8, 9, 10, 11, 12, 13, 14, 15, 16], [16]), ([17, 18, 0, 1, 2, 3, 4, 5, 6, 7, 8, 9, 10, 11, 12, 13, 14, 15, 16, 17, 18], [17])])
def rate_Of.B3 : List Nat := [0, 0, 3, 0, 15, 0, 0, 103, 231, 0, 512, 0, 2279, 7911, 16383, 32767, 65535, 65535, 131071, 524287]
theorem rate_Of.tab3 : rtab .any (opsOf Tryz.f75 3) = rate_Of.T3 := by kernel_rfl
theorem rate_Of.bits3 : waitsOk rate_Of.T3.2 rate_Of.B3 = true := by kernel_rfl
set_option maxHeartbeats 8000000 in
set_option maxRecDepth 100000 in
theorem rate_Of.calls (a0 : Int) (a1 : Int) (a2_0 : Bool) (a2_1 : Int) (a2_2 : Int) (a3 : Bool) (r : Int) (w : World) (h : rate_Of.f a0 a1 a2_0 a2_1 a2_2 a3 = some r) :
  Calls Tryz.prog 75 #[.int .i64 a0, .int .i64 a1, .agg #[.bool a2_0, .int .i64 a2_1, .int .i64 a2_2], .bool a3] w fun e w' => e = .returned (.int .i64 r) ∧ Below w.heap.size w w' := by
 have hmf : ∀ (fn : Fn) (first cap : Array Value) (w : World), (Instr.makeFunc fn first cap).run Tryz.prog w = .ok (.func fn first cap) w := fun _ _ _ _ => rfl
 have hu39 := Tryz.underlying39; have hu173 := Tryz.underlying173; have HB := Aside0.mk (Below.refl w.heap.size w); have H : ((rate_Gain.f a3).bind fun bt259 => ((rate_bounds_int_take.f 0 68719476736 a0).bind fun t261 => ((rate_bounds_int_take.f 1 65535 a1).bind fun t262 => ((rate_timeS.f a2_0 a2_1 a2_2).bind fun t263 => ((frac_FloorS.f (wrap64 (t261 * bt259.1)) (wrap64 (t262 * 1000000)) (wrap64 ((wrap64 (bt259.2 * 65536)) * t263))).bind fun bt264 => (if bt264.2 = 0 then (some (mx bt264.1 1)) else ((safe_Mul.f 68719476736 65535).bind fun t266 => (some t266)))))))) = some r := h; clear h; replace H := Option.bind_eq_some_iff.mp H; obtain ⟨⟨t259, t260⟩, A50, H⟩ := H; (try dsimp only at H); have A5 := Aside0.mk A50; clear A50; replace H := Option.bind_eq_some_iff.mp H; obtain ⟨t261, A60, H⟩ := H; (try dsimp only at H); have A6 := Aside0.mk A60; clear A60; replace H := Option.bind_eq_some_iff.mp H; obtain ⟨t262, A70, H⟩ := H; (try dsimp only at H); have A7 := Aside0.mk A70; clear A70; replace H := Option.bind_eq_some_iff.mp H; obtain ⟨t263, A80, H⟩ := H; (try dsimp only at H); have A8 := Aside0.mk A80; clear A80; replace H := Option.bind_eq_some_iff.mp H; obtain ⟨⟨t264, t265⟩, A90, H⟩ := H; replace H : (if t265 = 0 then (some (mx t264 1)) else ((safe_Mul.f 68719476736 65535).bind fun t266 => (some t266))) = some r := H; have A9 := Aside0.mk A90; clear A90
 go_enter Tryz.func75, Tryz.ntmps75
 try go_wp2_with (first | ((with_reducible refine gate_dst (N := 6) rfl ?_); refine box_event ?hg (N := 6) ?hd (cs := #[.bool a2_0, .int .i64 a2_1, .int .i64 a2_2]) (t := 39) ?hr ?_; (case hd => rfl); (case hg => rfl); (case hr => first | (go_simp; done) | (go_simp; rfl)); intro gb258 hg w12 hbox hb; have BK258 := Aside0.mk (hbox); obtain ⟨GW258, nHB⟩ := geA hg hb; have GE258 := GW258; replace HB := nHB; clear nHB; clear hb hbox hg) | ((with_reducible refine gate_callee (f := 126) rfl ?_); refine goesLA_ (some 21) rfl rfl Tryz.func126 rfl #[.bool a3] rfl ?_; (with_reducible refine (rate_Gain.calls a3 t259 t260 _ A5.out).mono ?_); rintro e w' ⟨rfl, ⟨nd, rfl⟩⟩; refine ⟨_, rfl, ?_⟩))
 (try (rw [drewN_self w12]; generalize hq_ : World.drewN w12 _ = w12; have n0_ : Aside0 (w12.heap[gb258]? = some (.cells #[.bool a2_0, .int .i64 a2_1, .int .i64 a2_2] 39 (0, 0))) := ⟨by rw [← hq_]; exact BK258.out⟩; have n1_ : Aside0 (Below w.heap.size w w12) := ⟨by rw [← hq_]; exact (by repeat (first | (with_reducible first | exact HB.out | apply below_alloc | apply pw_below_drewN | apply below_drew1 | refine below_set ?_ GE258.out) | exact HB.out))⟩; clear BK258 HB hq_; have BK258 := n0_; have HB := n1_; clear n0_ n1_))
 replace BK258 := Aside0.mk (blk_drew BK258.out); replace HB := Aside0.mk (below_drew1 HB.out); refine start_ (n := 20) (S := fun w' => w'.cell? ⟨gb258, 0, none⟩ = some (.bool a2_0) ∧ w'.cell? ⟨gb258, 1, none⟩ = some (.int .i64 a2_1) ∧ w'.cell? ⟨gb258, 2, none⟩ = some (.int .i64 a2_2)) (ds := []) #[N,N,N,N,N,N,N,N,N,N,N,N,N,N,N,N,N,N,N,N] (by kernel_rfl) rfl rfl ⟨(blk_cell BK258.out 0).trans rfl, (blk_cell BK258.out 1).trans rfl, (blk_cell BK258.out 2).trans rfl⟩ (fun hHeld => ?_); refine with_tabW rate_Of.tab3 rate_Of.bits3 (fun HT_ HW_ => ?_)
 generalize w12.drew = w13 at BK258 HB hHeld ⊢
 refine pureA_ (i := 0) (N := some 25) #[Y,N,N,N,N,N,N,N,N,N,N,N,N,N,N,N,N,N,N,N] rfl rfl (any_of HT_.out (by kernel_rfl)) ?_
 refine pureA_ (i := 1) (N := some 26) #[Y,Y,N,N,N,N,N,N,N,N,N,N,N,N,N,N,N,N,N,N] rfl rfl (any_of HT_.out (by kernel_rfl)) ?_
 refine pureA_ (i := 3) (N := some 28) #[Y,Y,N,Y,N,N,N,N,N,N,N,N,N,N,N,N,N,N,N,N] rfl rfl (any_of HT_.out (by kernel_rfl)) ?_
 refine pureA_ (i := 5) (N := some 30) #[Y,Y,N,Y,N,Y,N,N,N,N,N,N,N,N,N,N,N,N,N,N] rfl rfl (any_of HT_.out (by kernel_rfl)) ?_
 refine pureA_ (i := 6) (N := some 31) #[Y,Y,N,Y,N,Y,Y,N,N,N,N,N,N,N,N,N,N,N,N,N] rfl rfl (any_of HT_.out (by kernel_rfl)) ?_
 refine pureA_ (i := 9) (N := some 34) #[Y,Y,N,Y,N,Y,Y,N,N,Y,N,N,N,N,N,N,N,N,N,N] rfl rfl (any_of HT_.out (by kernel_rfl)) ?_
 refine pureA_ (i := 10) (N := some 35) #[Y,Y,N,Y,N,Y,Y,N,N,Y,Y,N,N,N,N,N,N,N,N,N] rfl rfl (any_of HT_.out (by kernel_rfl)) ?_
 refine take_ (i := 11) (N := some 36) (v := ?_) (a' := ?_) #[Y,Y,N,Y,N,Y,Y,N,N,Y,Y,Y,N,N,N,N,N,N,N,N] rfl rfl (take_ofW HT_.out HW_.out (by kernel_rfl)) (fun _ _ _ h => h) (Or.inl ⟨by rfl, ?_⟩) hHeld ?_ ?_; rotate_left
 ·rintro w' ⟨s0, s1, s2⟩; go_simp
  with_reducible rfl
 rotate_left
 ·simp only [Act.put, sA, sB, sC, i64_w, i32_w]
  rfl
 refine one_ (i := 2) (N := some 27) #[Y,Y,Y,Y,N,Y,Y,N,N,Y,Y,Y,N,N,N,N,N,N,N,N] rfl rfl (one_of HT_.out (by kernel_rfl)) (by decide) (fun K hK => ?_); refine goesF_ Tryz.func125 rfl #[.agg #[.int .i64 0, .int .i64 68719476736], .int .i64 a0] (by rfl) rfl rfl ?_
 with_reducible refine (rate_bounds_int_take.calls 0 68719476736 a0 t261 _ A6.out).mono ?_
 rintro e w14 ⟨rfl, hb⟩; refine ⟨_, rfl, ?_⟩; replace BK258 := bdZ BK258 hb; replace HB := stA hb; clear hb; refine hK.out _ _ ⟨(blk_cell BK258.out 0).trans rfl, (blk_cell BK258.out 1).trans rfl, (blk_cell BK258.out 2).trans rfl⟩ (fun hHeld => ?_); clear hK K; refine normA_ (some 27) ?_
 refine pureA_ (i := 4) (N := some 29) #[Y,Y,Y,Y,Y,Y,Y,N,N,Y,Y,Y,N,N,N,N,N,N,N,N] rfl rfl (any_of HT_.out (by kernel_rfl)) ?_
 refine one_ (i := 7) (N := some 32) #[Y,Y,Y,Y,Y,Y,Y,Y,N,Y,Y,Y,N,N,N,N,N,N,N,N] rfl rfl (one_of HT_.out (by kernel_rfl)) (by decide) (fun K hK => ?_); refine goesF_ Tryz.func125 rfl #[.agg #[.int .i64 1, .int .i64 65535], .int .i64 a1] (by rfl) rfl rfl ?_
 with_reducible refine (rate_bounds_int_take.calls 1 65535 a1 t262 _ A7.out).mono ?_
 rintro e w15 ⟨rfl, hb⟩; refine ⟨_, rfl, ?_⟩; replace BK258 := bdZ BK258 hb; replace HB := stA hb; clear hb; refine hK.out _ _ ⟨(blk_cell BK258.out 0).trans rfl, (blk_cell BK258.out 1).trans rfl, (blk_cell BK258.out 2).trans rfl⟩ (fun hHeld => ?_); clear hK K; refine normA_ (some 32) ?_
 refine pureA_ (i := 8) (N := some 33) #[Y,Y,Y,Y,Y,Y,Y,Y,Y,Y,Y,Y,N,N,N,N,N,N,N,N] rfl rfl (any_of HT_.out (by kernel_rfl)) ?_
 refine one_ (i := 12) (N := some 37) #[Y,Y,Y,Y,Y,Y,Y,Y,Y,Y,Y,Y,Y,N,N,N,N,N,N,N] rfl rfl (one_of HT_.out (by kernel_rfl)) (by decide) (fun K hK => ?_); refine goesA_ Tryz.func127 rfl #[.agg #[.bool a2_0, .int .i64 a2_1, .int .i64 a2_2]] (by rfl) rfl rfl ?_
 with_reducible refine (rate_timeS.calls a2_0 a2_1 a2_2 t263 _ A8.out).mono ?_
 rintro e w16 ⟨rfl, hb⟩; refine ⟨_, rfl, ?_⟩; replace BK258 := bdZ BK258 hb; replace HB := stA hb; clear hb; refine hK.out _ _ ⟨(blk_cell BK258.out 0).trans rfl, (blk_cell BK258.out 1).trans rfl, (blk_cell BK258.out 2).trans rfl⟩ (fun hHeld => ?_); clear hK K; refine normA_ (some 37) ?_
 refine pureA_ (i := 13) (N := some 38) #[Y,Y,Y,Y,Y,Y,Y,Y,Y,Y,Y,Y,Y,Y,N,N,N,N,N,N] rfl rfl (any_of HT_.out (by kernel_rfl)) ?_
 refine one_ (i := 14) (N := some 39) #[Y,Y,Y,Y,Y,Y,Y,Y,Y,Y,Y,Y,Y,Y,Y,N,N,N,N,N] rfl rfl (one_of HT_.out (by kernel_rfl)) (by decide) (fun K hK => ?_); refine goesA_ Tryz.func45 rfl #[.int .i64 (wrap64 (t261 * t259)), .int .i64 (wrap64 (t262 * 1000000)), .int .i64 (wrap64 ((wrap64 (t260 * 65536)) * t263))] (by rfl) rfl rfl ?_
 with_reducible refine (frac_FloorS.calls (wrap64 (t261 * t259)) (wrap64 (t262 * 1000000)) (wrap64 ((wrap64 (t260 * 65536)) * t263)) t264 t265 _ A9.out).mono ?_
 rintro e w17 ⟨rfl, hb⟩; refine ⟨_, rfl, ?_⟩; replace BK258 := bdZ BK258 hb; replace HB := stA hb; clear hb; refine hK.out _ _ ⟨(blk_cell BK258.out 0).trans rfl, (blk_cell BK258.out 1).trans rfl, (blk_cell BK258.out 2).trans rfl⟩ (fun hHeld => ?_); clear hK K; refine normA_ (some 39) ?_
 refine pureA_ (i := 15) (N := some 24) #[Y,Y,Y,Y,Y,Y,Y,Y,Y,Y,Y,Y,Y,Y,Y,Y,N,N,N,N] rfl rfl (any_of HT_.out (by kernel_rfl)) ?_
 refine pureA_ (i := 16) (N := some 40) #[Y,Y,Y,Y,Y,Y,Y,Y,Y,Y,Y,Y,Y,Y,Y,Y,Y,N,N,N] rfl rfl (any_of HT_.out (by kernel_rfl)) ?_
 refine pureA_ (i := 17) (N := some 41) #[Y,Y,Y,Y,Y,Y,Y,Y,Y,Y,Y,Y,Y,Y,Y,Y,Y,Y,N,N] rfl rfl (any_of HT_.out (by kernel_rfl)) ?_
 refine pureA_ (i := 18) (N := some 13) #[Y,Y,Y,Y,Y,Y,Y,Y,Y,Y,Y,Y,Y,Y,Y,Y,Y,Y,Y,N] rfl rfl (any_of HT_.out (by kernel_rfl)) ?_
 refine pureA_ (i := 19) (N := some 14) #[Y,Y,Y,Y,Y,Y,Y,Y,Y,Y,Y,Y,Y,Y,Y,Y,Y,Y,Y,Y] rfl rfl (any_of HT_.out (by kernel_rfl)) ?_
 refine done_ (done_of HT_.out (by kernel_rfl)) ?_
 by_cases c10 : t265 = 0
 ·rw [if_pos c10] at H
  have c10b0 : (t265 == 0) = true := beq_iff_eq.mpr c10; have c10b1 : (t265 != 0) = false := bne_eq_false_iff_eq.mpr c10; clear c10
  obtain ⟨ji11, hji11⟩ : ∃ j_ : Int, (mx t264 1) = j_ := ⟨_, rfl⟩
  replace H : (some ji11) = some r := by first | (rw [hji11] at H; exact H) | (simp only [hji11] at H ⊢; exact H)
  (try rw [hji11] at A5)
  (try rw [hji11] at A6)
  (try rw [hji11] at A7)
  (try rw [hji11] at A8)
  (try rw [hji11] at A9)
  (try (have hji11l : 1 ≤ ji11 := by (rw [← hji11]; unfold mx; (repeat' split) <;> omega)))
  (try (have hji11m : 0 ≤ ji11 := by omega))
  have hji11_ : (if t264 < 1 then 1 else t264) = ji11 := hji11; obtain rfl := Option.some.inj H
  try go_wp2
  go_ret
  exact ⟨by first | rfl | (simp [errW_none, errW_some] <;> rfl) | (simp only [← hji11]; first | rfl | (simp [errW_none, errW_some] <;> rfl)) | (simp [*, errW_none, errW_some] <;> rfl), by repeat (first | (with_reducible first | exact HB.out | apply below_alloc | apply pw_below_drewN | apply below_drew1 | refine below_set ?_ GE258.out) | exact HB.out)⟩
 ·rw [if_neg c10] at H
  have c10b0 : (t265 == 0) = false := beq_eq_false_iff_ne.mpr c10; have c10b1 : (t265 != 0) = true := bne_iff_ne.mpr c10; replace H := Option.bind_eq_some_iff.mp H; obtain ⟨t266, A180, H⟩ := H; replace H : (some t266) = some r := H; have A18 := Aside0.mk A180; clear A180; obtain rfl := Option.some.inj H
  try go_wp2_with (first | ((with_reducible refine gate_callee (f := 74) rfl ?_); refine goesLA_ (some 44) rfl rfl Tryz.func74 rfl #[.int .i64 68719476736, .int .i64 65535] rfl ?_; (with_reducible refine (safe_Mul.calls 68719476736 65535 t266 _ A18.out).mono ?_); rintro e w25 ⟨rfl, hb⟩; refine ⟨_, rfl, ?_⟩; replace BK258 := bdZ BK258 hb; replace HB := stA hb; clear hb))
  go_ret
  exact ⟨by first | rfl | (simp [errW_none, errW_some] <;> rfl) | (simp [*, errW_none, errW_some] <;> rfl), by repeat (first | (with_reducible first | exact HB.out | apply below_alloc | apply pw_below_drewN | apply below_drew1 | refine below_set ?_ GE258.out) | exact HB.out)⟩

/-! ### rate_OfS: a rate: pure, behind function 75 -/
noncomputable def rate_OfS.f (a b : Int) (has : Bool) (mean far : Int) (slow : Bool) : Option Int := Sp.need (Sp.I a ∧ Sp.I b ∧ Sp.I mean ∧ Sp.I far) (some (Sp.rateQ a b (Sp.timeQ has mean far) slow))
section
open Go.Proofs.YtfahbgkoldoflaaGreatDoor.Sp
theorem rate_OfS.eq {a b : Int} {has : Bool} {mean far : Int} {slow : Bool} (h1 : I a) (h2 : I b) (h3 : I mean) (h4 : I far) : rate_OfS.f a b has mean far slow = some (rateQ a b (timeQ has mean far) slow) := need_pos ⟨h1, h2, h3, h4⟩
theorem rate_Of.main {a b : Int} {has : Bool} {mean far : Int} {slow : Bool} (h1 : I a) (h2 : I b) (h3 : I mean) (h4 : I far) : rate_Of.f a b has mean far slow = some (rateQ a b (timeQ has mean far) slow) := by
 unfold rate_Of.f rate_Gain.f rate_bounds_int_take.f
 have e0 : ∀ x l u : Int, l ≤ u → mn (mx x l) u = clamp x l u := by
  intro x l u h; unfold mn mx clamp; split <;> split <;> (try split) <;> omega
 have et := timeQ_bd has mean far; have hI := rate_I a b et.1 et.2 slow; have c1 := clamp_bd (a := a) (low := 0) (high := 68719476736) (by omega); have c2 := clamp_bd (a := b) (low := 1) (high := 65535) (by omega)
 rw [rate_timeS.eq h3 h4]
 simp only [Option.bind_some, e0 _ 0 68719476736 (by omega), e0 _ 1 65535 (by omega)]
 have fin : ∀ n d : Int, n = (if slow = true then 2 else 5) → d = (if slow = true then 1 else 4) → ((frac_FloorS.f (wrap64 (clamp a 0 68719476736 * n)) (wrap64 (clamp b 1 65535 * 1000000)) (wrap64 (wrap64 (d * 65536) * timeQ has mean far))).bind fun bt => if bt.2 = 0 then some (mx bt.1 1) else (safe_Mul.f 68719476736 65535).bind fun t => some t) = some (rateQ a b (timeQ has mean far) slow) := by
  intro n d hn hd
  have n1 : 2 ≤ n ∧ n ≤ 5 := by rw [hn]; cases slow <;> simp
  have d1 : 1 ≤ d ∧ d ≤ 4 := by rw [hd]; cases slow <;> simp
  have m1 : 0 ≤ clamp a 0 68719476736 * n ∧ clamp a 0 68719476736 * n ≤ 68719476736 * 5 := mul_le c1.1 c1.2 (by omega) n1.2
  have eN : clamp a 0 68719476736 * n * (clamp b 1 65535 * 1000000) = rateN a b slow := by rw [hn]; rfl
  have eD : d * 65536 * timeQ has mean far = rateD (timeQ has mean far) slow := by rw [hd]; rfl
  have dD := rateD_bd et.1 et.2 slow
  rw [w64 (x := clamp a 0 68719476736 * n) (by omega), w64 (x := clamp b 1 65535 * 1000000) (by omega), w64 (x := d * 65536) (by omega), eD, w64 (by omega), frac_FloorS.eq (by omega) (by omega) (by omega), floorQ_in (by omega) (by rw [eN]; omega), eN]
  simp only [Option.bind_some, if_true]
  unfold rateQ max1 mx
  rfl
 by_cases s : slow = true
 ·simp only [if_pos s, Option.bind_some]; exact fin 2 1 (by rw [if_pos s]) (by rw [if_pos s])
 ·simp only [if_neg s, Option.bind_some]; exact fin 5 4 (by rw [if_neg s]) (by rw [if_neg s])
end
theorem rate_OfS.calls (a0 a1 : Int) (a2_0 : Bool) (a2_1 a2_2 : Int) (a3 : Bool) (r : Int) (w : World) (h : rate_OfS.f a0 a1 a2_0 a2_1 a2_2 a3 = some r) :
  Calls Tryz.prog 75 #[.int .i64 a0, .int .i64 a1, .agg #[.bool a2_0, .int .i64 a2_1, .int .i64 a2_2], .bool a3] w fun e w' => e = .returned (.int .i64 r) ∧ Below w.heap.size w w' := by
 obtain ⟨⟨h1, h2, h3, h4⟩, h⟩ := Sp.need_some h; exact rate_Of.calls a0 a1 a2_0 a2_1 a2_2 a3 r w (by rw [rate_Of.main h1 h2 h3 h4]; exact h)

/-! ### rto_within: function 144 -/
noncomputable def rto_within.f (a0 : Int) : Option (Int) := some (mn (mx a0 1) 1099511627776)
set_option maxHeartbeats 8000000 in
set_option maxRecDepth 100000 in
theorem rto_within.calls (a0 : Int) (r : Int) (w : World) (h : rto_within.f a0 = some r) :
  Calls Tryz.prog 144 #[.int .i64 a0] w fun e w' => e = .returned (.int .i64 r) ∧ Below w.heap.size w w' := by
 have HB := Aside0.mk (Below.refl w.heap.size w); have H : (some (mn (mx a0 1) 1099511627776)) = some r := h; clear h
 obtain ⟨ji2, hji2⟩ : ∃ j_ : Int, (mx a0 1) = j_ := ⟨_, rfl⟩
 replace H : (some (mn (ji2) 1099511627776)) = some r := by first | (rw [hji2] at H; exact H) | (simp only [hji2] at H ⊢; exact H)
 (try (have hji2l : 1 ≤ ji2 := by (rw [← hji2]; unfold mx; (repeat' split) <;> omega)))
 (try (have hji2m : 0 ≤ ji2 := by omega))
 have hji2_ : (if a0 < 1 then 1 else a0) = ji2 := hji2
 obtain ⟨ji3, hji3⟩ : ∃ j_ : Int, (mn (ji2) 1099511627776) = j_ := ⟨_, rfl⟩
 replace H : (some ji3) = some r := by first | (rw [hji3] at H; exact H) | (simp only [hji3] at H ⊢; exact H)
 have hji3_ : (if 1099511627776 < (ji2) then 1099511627776 else (ji2)) = ji3 := hji3; obtain rfl := Option.some.inj H
 go_enter Tryz.func144, Tryz.ntmps144
 go_wp2
 go_ret
 exact ⟨by first | rfl | (simp [errW_none, errW_some] <;> rfl) | (simp only [← hji2, ← hji3]; first | rfl | (simp [errW_none, errW_some] <;> rfl)) | (simp [*, errW_none, errW_some] <;> rfl), by repeat (first | (with_reducible first | exact HB.out | apply below_alloc | apply pw_below_drewN | apply below_drew1) | exact HB.out)⟩

/-! ### rto_Base: function 146 -/
noncomputable def rto_Base.j0 : Nat → Bool → Bool → Int → Int → Int → Int → Int → Int → Int → Int → Int → Option (Int)
 | 0, _, _, _, _, _, _, _, _, _, _, _ => none
 | k + 1, x12, x268000, x268001, x268002, x269000, x269001, x269002, x269003, x269004, x269005, x269006 => if x12 = true then (some 1000000) else ((rtt_Mean.f x268000 x268001 x268002).bind fun t270 => ((rto_within.f x269003).bind fun t271 => (some (wrap64 (t270 + (mx t271 x268002))))))
noncomputable def rto_Base.f (k : Nat) (a0_0 : Bool) (a0_1 : Int) (a0_2 : Int) (a1_0 : Int) (a1_1 : Int) (a1_2 : Int) (a1_3 : Int) (a1_4 : Int) (a1_5 : Int) (a1_6 : Int) : Option (Int) := if a0_0 = true then ((rtt_Check.f a0_0 a0_1 a0_2).bind fun t269 => (rto_Base.j0 k (!t269) a0_0 a0_1 a0_2 a1_0 a1_1 a1_2 a1_3 a1_4 a1_5 a1_6)) else (rto_Base.j0 k true a0_0 a0_1 a0_2 a1_0 a1_1 a1_2 a1_3 a1_4 a1_5 a1_6)
def rto_Base.T3 : Bool × List (List Nat × List Nat) := (true, [([], []), ([0], [0]), ([], []), ([2], [2]), ([3, 1], [3]), ([], []), ([5], [5]), ([4, 6], [4, 6]), ([1, 7], [1, 7]), ([8, 4, 0, 1, 2, 3, 4, 5, 6, 7, 8], [8])])
def rto_Base.B3 : List Nat := [0, 1, 0, 4, 15, 0, 32, 127, 255, 511]
theorem rto_Base.tab3 : rtab .any (opsOf Tryz.f146 3) = rto_Base.T3 := by kernel_rfl
theorem rto_Base.bits3 : waitsOk rto_Base.T3.2 rto_Base.B3 = true := by kernel_rfl
set_option maxHeartbeats 8000000 in
set_option maxRecDepth 100000 in
theorem rto_Base.calls (k : Nat) (a0_0 : Bool) (a0_1 : Int) (a0_2 : Int) (a1_0 : Int) (a1_1 : Int) (a1_2 : Int) (a1_3 : Int) (a1_4 : Int) (a1_5 : Int) (a1_6 : Int) (r : Int) (w : World) (h : rto_Base.f k a0_0 a0_1 a0_2 a1_0 a1_1 a1_2 a1_3 a1_4 a1_5 a1_6 = some r) :
  Calls Tryz.prog 146 #[.agg #[.bool a0_0, .int .i64 a0_1, .int .i64 a0_2], .agg #[.int .i64 a1_0, .int .i64 a1_1, .int .i64 a1_2, .int .i64 a1_3, .int .i64 a1_4, .int .i64 a1_5, .int .i64 a1_6]] w fun e w' => e = .returned (.int .i64 r) ∧ Below w.heap.size w w' := by
 have hu39 := Tryz.underlying39; have hu33 := Tryz.underlying33; have HB := Aside0.mk (Below.refl w.heap.size w); have H : (if a0_0 = true then ((rtt_Check.f a0_0 a0_1 a0_2).bind fun t269 => (rto_Base.j0 k (!t269) a0_0 a0_1 a0_2 a1_0 a1_1 a1_2 a1_3 a1_4 a1_5 a1_6)) else (rto_Base.j0 k true a0_0 a0_1 a0_2 a1_0 a1_1 a1_2 a1_3 a1_4 a1_5 a1_6)) = some r := h; clear h; have HC3 := Aside0.mk H; clear H
 go_enter Tryz.func146, Tryz.ntmps146
 go_upto_region 1 with (first | ((with_reducible refine gate_dst (N := 2) rfl ?_); refine box_event ?hg (N := 2) ?hd (cs := #[.bool a0_0, .int .i64 a0_1, .int .i64 a0_2]) (t := 39) ?hr ?_; (case hd => rfl); (case hg => rfl); (case hr => first | (go_simp; done) | (go_simp; rfl)); intro gb267 hg w4 hbox hb; have BK267 := Aside0.mk (hbox); obtain ⟨GW267, nHB⟩ := geA hg hb; have GE267 := GW267; replace HB := nHB; clear nHB; clear hb hbox hg) | ((with_reducible refine gate_dst (N := 3) rfl ?_); refine box_event ?hg (N := 3) ?hd (cs := #[.int .i64 a1_0, .int .i64 a1_1, .int .i64 a1_2, .int .i64 a1_3, .int .i64 a1_4, .int .i64 a1_5, .int .i64 a1_6]) (t := 33) ?hr ?_; (case hd => rfl); (case hg => rfl); (case hr => first | (go_simp; done) | (go_simp; rfl)); intro gb268 hg w5 hbox hb; have BK268 := Aside0.mk (hbox); obtain ⟨GW268, nHB⟩ := geA hg hb; have GE268 := GW268; obtain ⟨NB267_268, NB268_267, nBK⟩ := nbA BK267 hg hb; replace BK267 := nBK; clear nBK; replace HB := nHB; clear nHB; clear hb hbox hg))
 (try simp only [Act.put, sA, sB, sC])
 go_cut [12] (fun v12 wc => ∃ (kq : Nat) (x12_2 : Bool), v12 = .bool x12_2 ∧ Aside0 (rto_Base.j0 kq x12_2 a0_0 a0_1 a0_2 a1_0 a1_1 a1_2 a1_3 a1_4 a1_5 a1_6 = some r) ∧ Aside0 (kq ≤ k) ∧ Aside0 (wc.heap[gb267]? = some (.cells #[.bool a0_0, .int .i64 a0_1, .int .i64 a0_2] 39 (0, 0))) ∧ Aside0 (wc.heap[gb268]? = some (.cells #[.int .i64 a1_0, .int .i64 a1_1, .int .i64 a1_2, .int .i64 a1_3, .int .i64 a1_4, .int .i64 a1_5, .int .i64 a1_6] 33 (0, 0))) ∧ Aside0 (Below w.heap.size w wc))
 case first =>
  have H := HC3.out; clear HC3
  by_cases c6 : a0_0 = true
  ·subst c6
   have H1 : ((rtt_Check.f true a0_1 a0_2).bind fun t269 => (rto_Base.j0 k (!t269) true a0_1 a0_2 a1_0 a1_1 a1_2 a1_3 a1_4 a1_5 a1_6)) = some r := by rw [if_pos rfl] at H; exact H
   clear H; have H := H1; clear H1; replace H := Option.bind_eq_some_iff.mp H; obtain ⟨t269, A70, H⟩ := H; replace H : (rto_Base.j0 k (!t269) true a0_1 a0_2 a1_0 a1_1 a1_2 a1_3 a1_4 a1_5 a1_6) = some r := H; have A7 := Aside0.mk A70; clear A70; have H' := Aside0.mk H; clear H; have hnb8 := NB267_268.out; have hnc8 := NB268_267.out; have hcz9_0 := czZ BK267 0 (.bool true); have hcz9_1 := czZ BK267 1 (.int .i64 a0_1); have hcz9_2 := czZ BK267 2 (.int .i64 a0_2); have hfz9_0 := blk_frozen BK267.out 0; have hfz9_1 := blk_frozen BK267.out 1; have hfz9_2 := blk_frozen BK267.out 2
   go_wp2_with (first | (go_at_call 66; (with_reducible refine (rtt_Check.calls true a0_1 a0_2 t269 _ A7.out).mono ?_); rintro e w10 ⟨rfl, hb⟩; replace BK267 := bdZ BK267 hb; replace BK268 := bdZ BK268 hb; replace HB := stA hb; clear hb))
   go_meet
   case rel => exact ⟨_, (!t269), (by first | rfl | (simp; done) | (simp [*]; done)), H', ⟨by first | omega | exact Nat.le_refl _⟩, ⟨by (with_reducible repeat first | apply blk_drewN | apply blk_drew | apply blk_alloc); exact BK267.out⟩, ⟨by (with_reducible repeat first | apply blk_drewN | apply blk_drew | apply blk_alloc); exact BK268.out⟩, ⟨by repeat (first | (with_reducible first | exact HB.out | apply below_alloc | apply pw_below_drewN | apply below_drew1 | refine below_set ?_ (Aside0.out (by assumption))) | exact HB.out)⟩⟩
  ·replace c6 := Bool.eq_false_iff.mpr c6
   subst c6
   have H1 : (rto_Base.j0 k true false a0_1 a0_2 a1_0 a1_1 a1_2 a1_3 a1_4 a1_5 a1_6) = some r := by rw [if_neg (show ¬ (false = true) by decide)] at H; exact H
   clear H; have H := H1; clear H1; have H' := Aside0.mk H; clear H; have hnb11 := NB267_268.out; have hnc11 := NB268_267.out; have hcz12_0 := czZ BK267 0 (.bool false); have hcz12_1 := czZ BK267 1 (.int .i64 a0_1); have hcz12_2 := czZ BK267 2 (.int .i64 a0_2); have hfz12_0 := blk_frozen BK267.out 0; have hfz12_1 := blk_frozen BK267.out 1; have hfz12_2 := blk_frozen BK267.out 2
   go_wp2
   go_meet
   case rel => exact ⟨_, (true), (by first | rfl | (simp; done) | (simp [*]; done)), H', ⟨by first | omega | exact Nat.le_refl _⟩, ⟨by (with_reducible repeat first | apply blk_drewN | apply blk_drew | apply blk_alloc); exact BK267.out⟩, ⟨by (with_reducible repeat first | apply blk_drewN | apply blk_drew | apply blk_alloc); exact BK268.out⟩, ⟨by repeat (first | (with_reducible first | exact HB.out | apply below_alloc | apply pw_below_drewN | apply below_drew1 | refine below_set ?_ (Aside0.out (by assumption))) | exact HB.out)⟩⟩
 case rest =>
  clear HC3
  try clear c1
  try clear p2
  try clear c6
  try clear c8
  try clear c11
  try clear hcz12_0
  try clear hcz12_1
  try clear hcz12_2
  try clear hcz9_0
  try clear hcz9_1
  try clear hcz9_2
  try clear hfz12_0
  try clear hfz12_1
  try clear hfz12_2
  try clear hfz9_0
  try clear hfz9_1
  try clear hfz9_2
  obtain ⟨kq, x12_2, rfl, HA, HJ2, BK267, BK268, HB⟩ := hcut
  cases kq with
  | zero => exact absurd HA.out (by simp [rto_Base.j0])
  | succ kj2 =>
   have H := HA.out; clear HA; simp only [rto_Base.j0] at H
   by_cases c13 : x12_2 = true
   ·subst c13
    have H1 : (some 1000000) = some r := by rw [if_pos rfl] at H; exact H
    clear H; have H := H1; clear H1; obtain rfl := Option.some.inj H
    go_wp2
    go_ret
    exact ⟨by first | rfl | (simp [errW_none, errW_some] <;> rfl) | (simp [*, errW_none, errW_some] <;> rfl), by repeat (first | (with_reducible first | exact HB.out | apply below_alloc | apply pw_below_drewN | apply below_drew1 | refine below_set ?_ (Aside0.out (by assumption))) | exact HB.out)⟩
   ·replace c13 := Bool.eq_false_iff.mpr c13
    subst c13
    have H1 : ((rtt_Mean.f a0_0 a0_1 a0_2).bind fun t270 => ((rto_within.f a1_3).bind fun t271 => (some (wrap64 (t270 + (mx t271 a0_2)))))) = some r := by rw [if_neg (show ¬ (false = true) by decide)] at H; exact H
    clear H; have H := H1; clear H1; replace H := Option.bind_eq_some_iff.mp H; obtain ⟨t270, A140, H⟩ := H; replace H : ((rto_within.f a1_3).bind fun t271 => (some (wrap64 (t270 + (mx t271 a0_2))))) = some r := H; have A14 := Aside0.mk A140; clear A140; replace H := Option.bind_eq_some_iff.mp H; obtain ⟨t271, A150, H⟩ := H; replace H : (some (wrap64 (t270 + (mx t271 a0_2)))) = some r := H; have A15 := Aside0.mk A150; clear A150
    obtain ⟨ji16, hji16⟩ : ∃ j_ : Int, (mx t271 a0_2) = j_ := ⟨_, rfl⟩
    replace H : (some (wrap64 (t270 + (ji16)))) = some r := by first | (rw [hji16] at H; exact H) | (simp only [hji16] at H ⊢; exact H)
    (try rw [hji16] at A14)
    (try rw [hji16] at A15)
    have hji16_ : (if t271 < a0_2 then a0_2 else t271) = ji16 := hji16; obtain rfl := Option.some.inj H
    try go_wp2
    replace BK267 := Aside0.mk (blk_drew BK267.out); replace BK268 := Aside0.mk (blk_drew BK268.out); replace HB := Aside0.mk (below_drew1 HB.out); refine start_ (n := 10) (S := fun w' => w'.cell? ⟨gb267, 0, none⟩ = some (.bool a0_0) ∧ w'.cell? ⟨gb267, 1, none⟩ = some (.int .i64 a0_1) ∧ w'.cell? ⟨gb267, 2, none⟩ = some (.int .i64 a0_2) ∧ w'.cell? ⟨gb268, 0, none⟩ = some (.int .i64 a1_0) ∧ w'.cell? ⟨gb268, 1, none⟩ = some (.int .i64 a1_1) ∧ w'.cell? ⟨gb268, 2, none⟩ = some (.int .i64 a1_2) ∧ w'.cell? ⟨gb268, 3, none⟩ = some (.int .i64 a1_3) ∧ w'.cell? ⟨gb268, 4, none⟩ = some (.int .i64 a1_4) ∧ w'.cell? ⟨gb268, 5, none⟩ = some (.int .i64 a1_5) ∧ w'.cell? ⟨gb268, 6, none⟩ = some (.int .i64 a1_6)) (ds := []) #[N,N,N,N,N,N,N,N,N,N] (by kernel_rfl) rfl rfl ⟨(blk_cell BK267.out 0).trans rfl, (blk_cell BK267.out 1).trans rfl, (blk_cell BK267.out 2).trans rfl, (blk_cell BK268.out 0).trans rfl, (blk_cell BK268.out 1).trans rfl, (blk_cell BK268.out 2).trans rfl, (blk_cell BK268.out 3).trans rfl, (blk_cell BK268.out 4).trans rfl, (blk_cell BK268.out 5).trans rfl, (blk_cell BK268.out 6).trans rfl⟩ (fun hHeld => ?_); refine with_tabW rto_Base.tab3 rto_Base.bits3 (fun HT_ HW_ => ?_)
    generalize wc.drew = w17 at BK267 BK268 HB hHeld ⊢
    refine pureA_ (i := 2) (N := some 15) #[N,N,Y,N,N,N,N,N,N,N] rfl rfl (any_of HT_.out (by kernel_rfl)) ?_
    refine pureA_ (i := 5) (N := some 18) #[N,N,Y,N,N,Y,N,N,N,N] rfl rfl (any_of HT_.out (by kernel_rfl)) ?_
    refine take_ (i := 0) (N := some 13) (v := ?_) (a' := ?_) #[Y,N,Y,N,N,Y,N,N,N,N] rfl rfl (take_ofW HT_.out HW_.out (by kernel_rfl)) (fun _ _ _ h => h) (Or.inl ⟨by rfl, ?_⟩) hHeld ?_ ?_; rotate_left
    ·rintro w' ⟨s0, s1, s2, s3, s4, s5, s6, s7, s8, s9⟩; go_simp
     with_reducible rfl
    rotate_left
    ·simp only [Act.put, sA, sB, sC, i64_w, i32_w]
     rfl
    refine take_ (i := 3) (N := some 16) (v := ?_) (a' := ?_) #[Y,N,Y,Y,N,Y,N,N,N,N] rfl rfl (take_ofW HT_.out HW_.out (by kernel_rfl)) (fun _ _ _ h => h) (Or.inl ⟨by rfl, ?_⟩) hHeld ?_ ?_; rotate_left
    ·rintro w' ⟨s0, s1, s2, s3, s4, s5, s6, s7, s8, s9⟩; go_simp
     with_reducible rfl
    rotate_left
    ·simp only [Act.put, sA, sB, sC, i64_w, i32_w]
     rfl
    refine take_ (i := 6) (N := some 19) (v := ?_) (a' := ?_) #[Y,N,Y,Y,N,Y,Y,N,N,N] rfl rfl (take_ofW HT_.out HW_.out (by kernel_rfl)) (fun _ _ _ h => h) (Or.inl ⟨by rfl, ?_⟩) hHeld ?_ ?_; rotate_left
    ·rintro w' ⟨s0, s1, s2, s3, s4, s5, s6, s7, s8, s9⟩; go_simp
     with_reducible rfl
    rotate_left
    ·simp only [Act.put, sA, sB, sC, i64_w, i32_w]
     rfl
    refine one_ (i := 1) (N := some 14) #[Y,Y,Y,Y,N,Y,Y,N,N,N] rfl rfl (one_of HT_.out (by kernel_rfl)) (by decide) (fun K hK => ?_); refine goesA_ Tryz.func142 rfl #[.agg #[.bool a0_0, .int .i64 a0_1, .int .i64 a0_2]] (by rfl) rfl rfl ?_
    with_reducible refine (rtt_Mean.calls a0_0 a0_1 a0_2 t270 _ A14.out).mono ?_
    rintro e w18 ⟨rfl, hb⟩; refine ⟨_, rfl, ?_⟩; replace BK267 := bbZ BK267 hb; replace BK268 := bbZ BK268 hb; replace HB := Aside0.mk (below_step HB.out hb); clear hb; refine hK.out _ _ ⟨(blk_cell BK267.out 0).trans rfl, (blk_cell BK267.out 1).trans rfl, (blk_cell BK267.out 2).trans rfl, (blk_cell BK268.out 0).trans rfl, (blk_cell BK268.out 1).trans rfl, (blk_cell BK268.out 2).trans rfl, (blk_cell BK268.out 3).trans rfl, (blk_cell BK268.out 4).trans rfl, (blk_cell BK268.out 5).trans rfl, (blk_cell BK268.out 6).trans rfl⟩ (fun hHeld => ?_); clear hK K; refine normA_ (some 14) ?_
    refine one_ (i := 4) (N := some 17) #[Y,Y,Y,Y,Y,Y,Y,N,N,N] rfl rfl (one_of HT_.out (by kernel_rfl)) (by decide) (fun K hK => ?_); refine goesA_ Tryz.func144 rfl #[.int .i64 a1_3] (by rfl) rfl rfl ?_
    with_reducible refine (rto_within.calls a1_3 t271 _ A15.out).mono ?_
    rintro e w19 ⟨rfl, hb⟩; refine ⟨_, rfl, ?_⟩; replace BK267 := bbZ BK267 hb; replace BK268 := bbZ BK268 hb; replace HB := Aside0.mk (below_step HB.out hb); clear hb; refine hK.out _ _ ⟨(blk_cell BK267.out 0).trans rfl, (blk_cell BK267.out 1).trans rfl, (blk_cell BK267.out 2).trans rfl, (blk_cell BK268.out 0).trans rfl, (blk_cell BK268.out 1).trans rfl, (blk_cell BK268.out 2).trans rfl, (blk_cell BK268.out 3).trans rfl, (blk_cell BK268.out 4).trans rfl, (blk_cell BK268.out 5).trans rfl, (blk_cell BK268.out 6).trans rfl⟩ (fun hHeld => ?_); clear hK K; refine normA_ (some 17) ?_
    refine pureA_ (i := 7) (N := some 20) #[Y,Y,Y,Y,Y,Y,Y,Y,N,N] rfl rfl (any_of HT_.out (by kernel_rfl)) ?_
    refine pureA_ (i := 8) (N := some 21) #[Y,Y,Y,Y,Y,Y,Y,Y,Y,N] rfl rfl (any_of HT_.out (by kernel_rfl)) ?_
    refine pureA_ (i := 9) (N := some 4) #[Y,Y,Y,Y,Y,Y,Y,Y,Y,Y] rfl rfl (any_of HT_.out (by kernel_rfl)) ?_
    refine done_ (done_of HT_.out (by kernel_rfl)) ?_
    try go_wp2
    go_ret
    exact ⟨by first | rfl | (simp [errW_none, errW_some] <;> rfl) | (simp only [← hji16]; first | rfl | (simp [errW_none, errW_some] <;> rfl)) | (simp [*, errW_none, errW_some] <;> rfl), by repeat (first | (with_reducible first | exact HB.out | apply below_alloc | apply pw_below_drewN | apply below_drew1 | refine below_set ?_ (Aside0.out (by assumption))) | exact HB.out)⟩

/-! A scope whose label is jumped to from ahead. -/
section
variable {P : Program} {a : Act} {w : World} {Q : Exit → Act → World → Prop} {J : Act → World → Prop}
theorem scopeF_1 {c rest : Code} (l : Nat) (hf : findLabel c l = some rest) (h : c.wp P (Exit.jump l (fun a w => rest.wp P (Exit.jump l (fun _ _ => False) Q) a w) Q) a w) : (Code.scope c).wp P Q a w :=
 wp_scope_jumps l (fun a w => rest.wp P (Exit.jump l (fun _ _ => False) Q) a w) (fun _ _ => 0) hf h (fun a w hJ => wp_mono hJ (fun e a' w' hq => by cases e <;> first | exact hq | exact ⟨hq.1, hq.2.elim⟩))
theorem jumpG_1 {l : Nat} (h : J a w) : Exit.jump l J Q (.goto l) a w := ⟨rfl, h⟩
theorem jumpR_1 {l : Nat} (h : Q .ret a w) : Exit.jump l J Q .ret a w := h
theorem jumpN_1 {l : Nat} (h : Q .normal a w) : Exit.jump l J Q .normal a w := h
end
/-! ### rto_Of: function 101 -/
noncomputable def rto_Of.l0 : Nat → Int → Int → Int → Int → Option (Int)
 | 0, _, _, _, _ => none
 | k + 1, x7, x8, x22, x23 => if x23 < x22 then (if x8 = x7 then (some x8) else (rto_Of.l0 k x7 (mn (wrap64 (2 * x8)) x7) x22 (wrap64 (x23 + 1)))) else (some x8)
noncomputable def rto_Of.f (k : Nat) (a0_0 : Bool) (a0_1 : Int) (a0_2 : Int) (a1_0 : Int) (a1_1 : Int) (a1_2 : Int) (a1_3 : Int) (a1_4 : Int) (a1_5 : Int) (a1_6 : Int) (a2 : Int) : Option (Int) := (rto_within.f a1_5).bind fun t274 => ((rto_Base.f k a0_0 a0_1 a0_2 a1_0 a1_1 a1_2 a1_3 a1_4 a1_5 a1_6).bind fun t275 => ((rto_within.f a1_4).bind fun t276 => (rto_Of.l0 k t274 (mn (mx t275 t276) t274) (mx a2 0) 0)))
def rto_Of.T2 : Bool × List (List Nat × List Nat) := (true, [([], []), ([], []), ([0, 1], [0, 1]), ([], []), ([3], [3]), ([4, 2], [4]), ([2, 5], [2, 5]), ([], []), ([6, 7], [6, 7]), ([8, 5, 0, 1, 2, 3, 4, 5, 6, 7, 8], [8])])
def rto_Of.B2 : List Nat := [0, 0, 3, 0, 8, 31, 63, 0, 255, 511]
theorem rto_Of.tab2 : rtab .any (opsOf Tryz.f101 2) = rto_Of.T2 := by kernel_rfl
theorem rto_Of.bits2 : waitsOk rto_Of.T2.2 rto_Of.B2 = true := by kernel_rfl
set_option maxHeartbeats 8000000 in
set_option maxRecDepth 100000 in
theorem rto_Of.calls (k : Nat) (a0_0 : Bool) (a0_1 : Int) (a0_2 : Int) (a1_0 : Int) (a1_1 : Int) (a1_2 : Int) (a1_3 : Int) (a1_4 : Int) (a1_5 : Int) (a1_6 : Int) (a2 : Int) (r : Int) (w : World) (h : rto_Of.f k a0_0 a0_1 a0_2 a1_0 a1_1 a1_2 a1_3 a1_4 a1_5 a1_6 a2 = some r) :
  Calls Tryz.prog 101 #[.agg #[.bool a0_0, .int .i64 a0_1, .int .i64 a0_2], .agg #[.int .i64 a1_0, .int .i64 a1_1, .int .i64 a1_2, .int .i64 a1_3, .int .i64 a1_4, .int .i64 a1_5, .int .i64 a1_6], .int .i64 a2] w fun e w' => e = .returned (.int .i64 r) ∧ Below w.heap.size w w' := by
 have hu39 := Tryz.underlying39; have hu33 := Tryz.underlying33; have HB := Aside0.mk (Below.refl w.heap.size w); have H : ((rto_within.f a1_5).bind fun t274 => ((rto_Base.f k a0_0 a0_1 a0_2 a1_0 a1_1 a1_2 a1_3 a1_4 a1_5 a1_6).bind fun t275 => ((rto_within.f a1_4).bind fun t276 => (rto_Of.l0 k t274 (mn (mx t275 t276) t274) (mx a2 0) 0)))) = some r := h; clear h; replace H := Option.bind_eq_some_iff.mp H; obtain ⟨t274, A40, H⟩ := H; replace H : ((rto_Base.f k a0_0 a0_1 a0_2 a1_0 a1_1 a1_2 a1_3 a1_4 a1_5 a1_6).bind fun t275 => ((rto_within.f a1_4).bind fun t276 => (rto_Of.l0 k t274 (mn (mx t275 t276) t274) (mx a2 0) 0))) = some r := H; have A4 := Aside0.mk A40; clear A40; replace H := Option.bind_eq_some_iff.mp H; obtain ⟨t275, A50, H⟩ := H; replace H : ((rto_within.f a1_4).bind fun t276 => (rto_Of.l0 k t274 (mn (mx t275 t276) t274) (mx a2 0) 0)) = some r := H; have A5 := Aside0.mk A50; clear A50; replace H := Option.bind_eq_some_iff.mp H; obtain ⟨t276, A60, H⟩ := H; replace H : (rto_Of.l0 k t274 (mn (mx t275 t276) t274) (mx a2 0) 0) = some r := H; have A6 := Aside0.mk A60; clear A60
 obtain ⟨ji7, hji7⟩ : ∃ j_ : Int, (mx t275 t276) = j_ := ⟨_, rfl⟩
 replace H : (rto_Of.l0 k t274 (mn (ji7) t274) (mx a2 0) 0) = some r := by first | (rw [hji7] at H; exact H) | (simp only [hji7] at H ⊢; exact H)
 (try rw [hji7] at A4)
 (try rw [hji7] at A5)
 (try rw [hji7] at A6)
 have hji7_ : (if t275 < t276 then t276 else t275) = ji7 := hji7
 obtain ⟨ji8, hji8⟩ : ∃ j_ : Int, (mn (ji7) t274) = j_ := ⟨_, rfl⟩
 replace H : (rto_Of.l0 k t274 ji8 (mx a2 0) 0) = some r := by first | (rw [hji8] at H; exact H) | (simp only [hji8] at H ⊢; exact H)
 (try rw [hji8] at A4)
 (try rw [hji8] at A5)
 (try rw [hji8] at A6)
 have hji8_ : (if t274 < (ji7) then t274 else (ji7)) = ji8 := hji8
 obtain ⟨ji9, hji9⟩ : ∃ j_ : Int, (mx a2 0) = j_ := ⟨_, rfl⟩
 replace H : (rto_Of.l0 k t274 ji8 ji9 0) = some r := by first | (rw [hji9] at H; exact H) | (simp only [hji9] at H ⊢; exact H)
 (try rw [hji9] at A4)
 (try rw [hji9] at A5)
 (try rw [hji9] at A6)
 (try (have hji9l : 0 ≤ ji9 := by (rw [← hji9]; unfold mx; (repeat' split) <;> omega)))
 (try (have hji9m : 0 ≤ ji9 := by omega))
 have hji9_ : (if a2 < 0 then 0 else a2) = ji9 := hji9; have H' := Aside0.mk H; clear H
 go_enter Tryz.func101, Tryz.ntmps101
 try go_wp2_with (first | (with_reducible refine scopeF_1 0 rfl ?_) | (with_reducible refine wp_label ?_) | (with_reducible refine wp_goto ?_) | (with_reducible refine jumpG_1 ?_) | (with_reducible refine jumpR_1 ?_) | (with_reducible refine jumpN_1 ?_) | ((with_reducible refine gate_dst (N := 3) rfl ?_); refine box_event ?hg (N := 3) ?hd (cs := #[.bool a0_0, .int .i64 a0_1, .int .i64 a0_2]) (t := 39) ?hr ?_; (case hd => rfl); (case hg => rfl); (case hr => first | (go_simp; done) | (go_simp; rfl)); intro gb272 hg w10 hbox hb; have BK272 := Aside0.mk (hbox); obtain ⟨GW272, nHB⟩ := geA hg hb; have GE272 := GW272; replace HB := nHB; clear nHB; clear hb hbox hg) | ((with_reducible refine gate_dst (N := 4) rfl ?_); refine box_event ?hg (N := 4) ?hd (cs := #[.int .i64 a1_0, .int .i64 a1_1, .int .i64 a1_2, .int .i64 a1_3, .int .i64 a1_4, .int .i64 a1_5, .int .i64 a1_6]) (t := 33) ?hr ?_; (case hd => rfl); (case hg => rfl); (case hr => first | (go_simp; done) | (go_simp; rfl)); intro gb273 hg w11 hbox hb; have BK273 := Aside0.mk (hbox); obtain ⟨GW273, nHB⟩ := geA hg hb; have GE273 := GW273; obtain ⟨NB272_273, NB273_272, nBK⟩ := nbA BK272 hg hb; replace BK272 := nBK; clear nBK; replace HB := nHB; clear nHB; clear hb hbox hg; have hnb12 := NB273_272.out; have hnc12 := NB272_273.out; have hcz13_0 := czZ BK273 0 (.int .i64 a1_0); have hcz13_1 := czZ BK273 1 (.int .i64 a1_1); have hcz13_2 := czZ BK273 2 (.int .i64 a1_2); have hcz13_3 := czZ BK273 3 (.int .i64 a1_3); have hcz13_4 := czZ BK273 4 (.int .i64 a1_4); have hcz13_5 := czZ BK273 5 (.int .i64 a1_5); have hcz13_6 := czZ BK273 6 (.int .i64 a1_6); have hfz13_0 := blk_frozen BK273.out 0; have hfz13_1 := blk_frozen BK273.out 1; have hfz13_2 := blk_frozen BK273.out 2; have hfz13_3 := blk_frozen BK273.out 3; have hfz13_4 := blk_frozen BK273.out 4; have hfz13_5 := blk_frozen BK273.out 5; have hfz13_6 := blk_frozen BK273.out 6) | ((with_reducible refine gate_callee (f := 144) rfl ?_); refine goesLA_ (some 11) rfl rfl Tryz.func144 rfl #[.int .i64 a1_5] rfl ?_; (with_reducible refine (rto_within.calls a1_5 t274 _ A4.out).mono ?_); rintro e w14 ⟨rfl, hb⟩; refine ⟨_, rfl, ?_⟩; replace BK272 := bdZ BK272 hb; replace BK273 := bdZ BK273 hb; replace HB := stA hb; clear hb))
 replace BK272 := Aside0.mk (blk_drew BK272.out); replace BK273 := Aside0.mk (blk_drew BK273.out); replace HB := Aside0.mk (below_drew1 HB.out); refine start_ (n := 10) (S := fun w' => w'.cell? ⟨gb272, 0, none⟩ = some (.bool a0_0) ∧ w'.cell? ⟨gb272, 1, none⟩ = some (.int .i64 a0_1) ∧ w'.cell? ⟨gb272, 2, none⟩ = some (.int .i64 a0_2) ∧ w'.cell? ⟨gb273, 0, none⟩ = some (.int .i64 a1_0) ∧ w'.cell? ⟨gb273, 1, none⟩ = some (.int .i64 a1_1) ∧ w'.cell? ⟨gb273, 2, none⟩ = some (.int .i64 a1_2) ∧ w'.cell? ⟨gb273, 3, none⟩ = some (.int .i64 a1_3) ∧ w'.cell? ⟨gb273, 4, none⟩ = some (.int .i64 a1_4) ∧ w'.cell? ⟨gb273, 5, none⟩ = some (.int .i64 a1_5) ∧ w'.cell? ⟨gb273, 6, none⟩ = some (.int .i64 a1_6)) (ds := []) #[N,N,N,N,N,N,N,N,N,N] (by kernel_rfl) rfl rfl ⟨(blk_cell BK272.out 0).trans rfl, (blk_cell BK272.out 1).trans rfl, (blk_cell BK272.out 2).trans rfl, (blk_cell BK273.out 0).trans rfl, (blk_cell BK273.out 1).trans rfl, (blk_cell BK273.out 2).trans rfl, (blk_cell BK273.out 3).trans rfl, (blk_cell BK273.out 4).trans rfl, (blk_cell BK273.out 5).trans rfl, (blk_cell BK273.out 6).trans rfl⟩ (fun hHeld => ?_); refine with_tabW rto_Of.tab2 rto_Of.bits2 (fun HT_ HW_ => ?_)
 generalize w14.drew = w15 at BK272 BK273 HB hHeld ⊢
 refine pureA_ (i := 3) (N := some 15) #[N,N,N,Y,N,N,N,N,N,N] rfl rfl (any_of HT_.out (by kernel_rfl)) ?_
 refine pureA_ (i := 7) (N := some 19) #[N,N,N,Y,N,N,N,Y,N,N] rfl rfl (any_of HT_.out (by kernel_rfl)) ?_
 refine take_ (i := 0) (N := some 12) (v := ?_) (a' := ?_) #[Y,N,N,Y,N,N,N,Y,N,N] rfl rfl (take_ofW HT_.out HW_.out (by kernel_rfl)) (fun _ _ _ h => h) (Or.inl ⟨by rfl, ?_⟩) hHeld ?_ ?_; rotate_left
 ·rintro w' ⟨s0, s1, s2, s3, s4, s5, s6, s7, s8, s9⟩; go_simp
  with_reducible rfl
 rotate_left
 ·simp only [Act.put, sA, sB, sC, i64_w, i32_w]
  rfl
 refine take_ (i := 1) (N := some 13) (v := ?_) (a' := ?_) #[Y,Y,N,Y,N,N,N,Y,N,N] rfl rfl (take_ofW HT_.out HW_.out (by kernel_rfl)) (fun _ _ _ h => h) (Or.inl ⟨by rfl, ?_⟩) hHeld ?_ ?_; rotate_left
 ·rintro w' ⟨s0, s1, s2, s3, s4, s5, s6, s7, s8, s9⟩; go_simp
  with_reducible rfl
 rotate_left
 ·simp only [Act.put, sA, sB, sC, i64_w, i32_w]
  rfl
 refine take_ (i := 4) (N := some 16) (v := ?_) (a' := ?_) #[Y,Y,N,Y,Y,N,N,Y,N,N] rfl rfl (take_ofW HT_.out HW_.out (by kernel_rfl)) (fun _ _ _ h => h) (Or.inl ⟨by rfl, ?_⟩) hHeld ?_ ?_; rotate_left
 ·rintro w' ⟨s0, s1, s2, s3, s4, s5, s6, s7, s8, s9⟩; go_simp
  with_reducible rfl
 rotate_left
 ·simp only [Act.put, sA, sB, sC, i64_w, i32_w]
  rfl
 refine one_ (i := 2) (N := some 14) #[Y,Y,Y,Y,Y,N,N,Y,N,N] rfl rfl (one_of HT_.out (by kernel_rfl)) (by decide) (fun K hK => ?_); refine goesA_ Tryz.func146 rfl #[.agg #[.bool a0_0, .int .i64 a0_1, .int .i64 a0_2], .agg #[.int .i64 a1_0, .int .i64 a1_1, .int .i64 a1_2, .int .i64 a1_3, .int .i64 a1_4, .int .i64 a1_5, .int .i64 a1_6]] (by rfl) rfl rfl ?_
 with_reducible refine (rto_Base.calls k a0_0 a0_1 a0_2 a1_0 a1_1 a1_2 a1_3 a1_4 a1_5 a1_6 t275 _ A5.out).mono ?_
 rintro e w16 ⟨rfl, hb⟩; refine ⟨_, rfl, ?_⟩; replace BK272 := bbZ BK272 hb; replace BK273 := bbZ BK273 hb; replace HB := Aside0.mk (below_step HB.out hb); clear hb; refine hK.out _ _ ⟨(blk_cell BK272.out 0).trans rfl, (blk_cell BK272.out 1).trans rfl, (blk_cell BK272.out 2).trans rfl, (blk_cell BK273.out 0).trans rfl, (blk_cell BK273.out 1).trans rfl, (blk_cell BK273.out 2).trans rfl, (blk_cell BK273.out 3).trans rfl, (blk_cell BK273.out 4).trans rfl, (blk_cell BK273.out 5).trans rfl, (blk_cell BK273.out 6).trans rfl⟩ (fun hHeld => ?_); clear hK K; refine normA_ (some 14) ?_
 refine one_ (i := 5) (N := some 17) #[Y,Y,Y,Y,Y,Y,N,Y,N,N] rfl rfl (one_of HT_.out (by kernel_rfl)) (by decide) (fun K hK => ?_); refine goesA_ Tryz.func144 rfl #[.int .i64 a1_4] (by rfl) rfl rfl ?_
 with_reducible refine (rto_within.calls a1_4 t276 _ A6.out).mono ?_
 rintro e w17 ⟨rfl, hb⟩; refine ⟨_, rfl, ?_⟩; replace BK272 := bbZ BK272 hb; replace BK273 := bbZ BK273 hb; replace HB := Aside0.mk (below_step HB.out hb); clear hb; refine hK.out _ _ ⟨(blk_cell BK272.out 0).trans rfl, (blk_cell BK272.out 1).trans rfl, (blk_cell BK272.out 2).trans rfl, (blk_cell BK273.out 0).trans rfl, (blk_cell BK273.out 1).trans rfl, (blk_cell BK273.out 2).trans rfl, (blk_cell BK273.out 3).trans rfl, (blk_cell BK273.out 4).trans rfl, (blk_cell BK273.out 5).trans rfl, (blk_cell BK273.out 6).trans rfl⟩ (fun hHeld => ?_); clear hK K; refine normA_ (some 17) ?_
 refine pureA_ (i := 6) (N := some 18) #[Y,Y,Y,Y,Y,Y,Y,Y,N,N] rfl rfl (any_of HT_.out (by kernel_rfl)) ?_
 refine pureA_ (i := 8) (N := some 20) #[Y,Y,Y,Y,Y,Y,Y,Y,Y,N] rfl rfl (any_of HT_.out (by kernel_rfl)) ?_
 refine pureA_ (i := 9) (N := some 8) #[Y,Y,Y,Y,Y,Y,Y,Y,Y,Y] rfl rfl (any_of HT_.out (by kernel_rfl)) ?_
 refine done_ (done_of HT_.out (by kernel_rfl)) ?_
 try go_wp2_with (first | (with_reducible refine wp_label ?_) | (with_reducible refine jumpG_1 ?_) | (with_reducible refine jumpR_1 ?_) | (with_reducible refine jumpN_1 ?_))
 go_loopg [8, 23] k (fun kq v8 v23 w' => ∃ (x8_1 : Int) (x23_1 : Int), v8 = .int .i64 x8_1 ∧ v23 = .int .i64 x23_1 ∧ Aside0 (rto_Of.l0 kq t274 x8_1 ji9 x23_1 = some r) ∧ Aside0 (kq ≤ k) ∧ Aside0 (w'.heap[gb272]? = some (.cells #[.bool a0_0, .int .i64 a0_1, .int .i64 a0_2] 39 (0, 0))) ∧ Aside0 (w'.heap[gb273]? = some (.cells #[.int .i64 a1_0, .int .i64 a1_1, .int .i64 a1_2, .int .i64 a1_3, .int .i64 a1_4, .int .i64 a1_5, .int .i64 a1_6] 33 (0, 0))) ∧ Aside0 (Below w.heap.size w w'))
 case atStart => exact ⟨(ji8), (0), (by first | rfl | (simp; done) | (simp only [← hji8] <;> (first | rfl | simp)) | (simp [*]; done)), (by first | rfl | (simp; done) | (simp [*]; done)), H', ⟨Nat.le_refl _⟩, ⟨by (with_reducible repeat first | apply blk_drewN | apply blk_drew | apply blk_alloc); exact BK272.out⟩, ⟨by (with_reducible repeat first | apply blk_drewN | apply blk_drew | apply blk_alloc); exact BK273.out⟩, ⟨by repeat (first | (with_reducible first | exact HB.out | apply below_alloc | apply pw_below_drewN | apply below_drew1 | refine below_set ?_ (Aside0.out (by assumption))) | exact HB.out)⟩⟩
 case round =>
  clear H'
  try clear c1
  try clear p2
  try clear c10
  try clear c12
  try clear c14
  try clear hcz13_0
  try clear hcz13_1
  try clear hcz13_2
  try clear hcz13_3
  try clear hcz13_4
  try clear hcz13_5
  try clear hcz13_6
  try clear hfz13_0
  try clear hfz13_1
  try clear hfz13_2
  try clear hfz13_3
  try clear hfz13_4
  try clear hfz13_5
  try clear hfz13_6
  obtain ⟨x8_1, x23_1, rfl, rfl, HA, HK1, BK272, BK273, HB⟩ := hrel
  cases gk with
  | zero => exact absurd HA.out (by simp [rto_Of.l0])
  | succ k1 =>
   have H := HA.out; clear HA; simp only [rto_Of.l0] at H
   by_cases c18 : x23_1 < ji9
   ·rw [if_pos c18] at H
    have c18b0 : decide (x23_1 < ji9) = true := decide_eq_true c18; clear c18
    by_cases c19 : x8_1 = t274
    ·rw [if_pos c19] at H
     have c19b0 : (x8_1 == t274) = true := beq_iff_eq.mpr c19; have c19b1 : (x8_1 != t274) = false := bne_eq_false_iff_eq.mpr c19; clear c19; obtain rfl := Option.some.inj H
     go_wp2_with (first | (with_reducible refine wp_label ?_) | (with_reducible refine jumpR_1 ?_) | (with_reducible refine jumpN_1 ?_))
     (try with_reducible refine jumpR_1 ?_); go_ret
     exact ⟨by first | rfl | (simp [errW_none, errW_some] <;> rfl) | (simp only [← hji7, ← hji8, ← hji9]; first | rfl | (simp [errW_none, errW_some] <;> rfl)) | (simp [*, errW_none, errW_some] <;> rfl), by repeat (first | (with_reducible first | exact HB.out | apply below_alloc | apply pw_below_drewN | apply below_drew1 | refine below_set ?_ (Aside0.out (by assumption))) | exact HB.out)⟩
    ·rw [if_neg c19] at H
     have c19b0 : (x8_1 == t274) = false := beq_eq_false_iff_ne.mpr c19; have c19b1 : (x8_1 != t274) = true := bne_iff_ne.mpr c19
     obtain ⟨ji20, hji20⟩ : ∃ j_ : Int, (mn (wrap64 (2 * x8_1)) t274) = j_ := ⟨_, rfl⟩
     replace H : (rto_Of.l0 k1 t274 ji20 ji9 (wrap64 (x23_1 + 1))) = some r := by first | (rw [hji20] at H; exact H) | (simp only [hji20] at H ⊢; exact H)
     have hji20_ : (if t274 < (wrap64 (2 * x8_1)) then t274 else (wrap64 (2 * x8_1))) = ji20 := hji20; have H' := Aside0.mk H; clear H
     go_wp2_with (first | (with_reducible refine wp_label ?_) | (with_reducible refine jumpR_1 ?_) | (with_reducible refine jumpN_1 ?_))
     go_roundg k1
     case measure => have := HK1.out; omega
     case rel => exact ⟨(ji20), (wrap64 (x23_1 + 1)), (by first | rfl | (simp; done) | (simp only [← hji20] <;> (first | rfl | simp)) | (simp [*]; done)), (by first | rfl | (simp; done) | (simp [*]; done)), H', ⟨by have := HK1.out; omega⟩, ⟨by (with_reducible repeat first | apply blk_drewN | apply blk_drew | apply blk_alloc); exact BK272.out⟩, ⟨by (with_reducible repeat first | apply blk_drewN | apply blk_drew | apply blk_alloc); exact BK273.out⟩, ⟨by repeat (first | (with_reducible first | exact HB.out | apply below_alloc | apply pw_below_drewN | apply below_drew1 | refine below_set ?_ (Aside0.out (by assumption))) | exact HB.out)⟩⟩
   ·rw [if_neg c18] at H
    have c18b0 : decide (x23_1 < ji9) = false := decide_eq_false c18; clear c18; obtain rfl := Option.some.inj H
    go_wp2_with (first | (with_reducible refine wp_label ?_) | (with_reducible refine jumpR_1 ?_) | (with_reducible refine jumpN_1 ?_))
    (try with_reducible refine jumpR_1 ?_); go_ret
    exact ⟨by first | rfl | (simp [errW_none, errW_some] <;> rfl) | (simp only [← hji7, ← hji8, ← hji9]; first | rfl | (simp [errW_none, errW_some] <;> rfl)) | (simp [*, errW_none, errW_some] <;> rfl), by repeat (first | (with_reducible first | exact HB.out | apply below_alloc | apply pw_below_drewN | apply below_drew1 | refine below_set ?_ (Aside0.out (by assumption))) | exact HB.out)⟩

end Go.Proofs.YtfahbgkoldoflaaGreatDoor.Px
