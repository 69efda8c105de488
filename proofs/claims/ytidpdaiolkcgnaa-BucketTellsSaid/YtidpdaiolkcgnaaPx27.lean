/- Printed by a program of this session (wip/tool/px.py), over the kit's print: for each Go function a Lean function, and the proof that the machine's call answers as that function says. Conditions: none beside what the theorems state. -/
import Derived.Test.YtidpdaiolkcgnaaPx0
import Derived.Test.YtidpdaiolkcgnaaPx1
import Derived.Test.YtidpdaiolkcgnaaPx4
import Derived.Test.YtidpdaiolkcgnaaPx6
import Derived.Test.YtidpdaiolkcgnaaPx26
import Derived.Test.YtidpdaiolkcgnaaSpec
namespace Go.Proofs.Ytidpdaiolkcgnaa.Px
open Go.RowKit Go.Proofs.YtidpdaiolkcgnaaW.PrintWords Go.Proofs.YtidpdaiolkcgnaaW.PrintLast Go.Proofs.YtidpdaiolkcgnaaW.PrintMore
attribute [local go_sem] max2_int min2_int max_two min_two max_three min_three max_four min_four   -- for this text's walks alone
set_option linter.unusedVariables false
set_option linter.unusedSimpArgs false

attribute [local go_sem high] eqA23
/-! ### bucket_Wait: function 16 -/
noncomputable def bucket_Wait.j0 : Nat → Int → Int → Bool → Option (Int)
 | 0, _, _, _ => none
 | k + 1, x2, x7, x16 => if x16 = true then (some 0) else (if x2 < 1 then (some 1099511627776) else ((bucket_taken.f x2).bind fun t264 => ((frac_CeilS.f x7 1 t264).bind fun bt265 => (some (mn bt265.1 1099511627776)))))
noncomputable def bucket_Wait.f (k : Nat) (a0_0 : Int) (a0_1 : Int) (a1 : Int) (a2 : Int) : Option (Int) := (safe_Mul.f (mx a1 0) 1000000).bind fun t261 => ((safe_SubS.f t261 a0_1).bind fun t262 => ((bucket_CheckS.f a0_0 a0_1).bind fun t263 => (if t263 = true then (bucket_Wait.j0 k a2 t262 (decide (t262 ≤ 0))) else (bucket_Wait.j0 k a2 t262 true))))
theorem bucket_Wait.mono_l : ∀ k, (∀ y0 y1 y2, LeO (bucket_Wait.j0 k y0 y1 y2) (bucket_Wait.j0 (k + 1) y0 y1 y2))
 | 0 => fun _ _ _ r h => by simp [bucket_Wait.j0] at h
 | k + 1 => by
  have ih0 := bucket_Wait.mono_l k
  ·intro y0 y1 y2
   unfold bucket_Wait.j0
   repeat' first
   | (with_reducible exact ih0 _ _ _)
   | (with_reducible exact LeO.refl _)
   | (with_reducible exact LeO.none _)
   | (with_reducible refine LeO.ite ?_ ?_)
   | (with_reducible refine LeO.bind ?_ (fun _ => ?_))
   | exact ih0 _ _ _
   | exact LeO.none _
   | refine LeO.ite ?_ ?_
   | refine LeO.bind ?_ (fun _ => ?_)
theorem bucket_Wait.mono : ∀ a0 a1 a2 a3 k, LeO (bucket_Wait.f k a0 a1 a2 a3) (bucket_Wait.f (k + 1) a0 a1 a2 a3) := by
 intro a0 a1 a2 a3 k; have ih0 := bucket_Wait.mono_l k
 unfold bucket_Wait.f
 repeat' first
   | (with_reducible exact ih0 _ _ _)
   | (with_reducible exact LeO.refl _)
   | (with_reducible exact LeO.none _)
   | (with_reducible refine LeO.ite ?_ ?_)
   | (with_reducible refine LeO.bind ?_ (fun _ => ?_))
   | exact ih0 _ _ _
   | exact LeO.none _
   | refine LeO.ite ?_ ?_
   | refine LeO.bind ?_ (fun _ => ?_)
set_option maxHeartbeats 8000000 in
set_option maxRecDepth 100000 in
theorem bucket_Wait.calls (k : Nat) (a0_0 : Int) (a0_1 : Int) (a1 : Int) (a2 : Int) (r : Int) (w : World) (h : bucket_Wait.f k a0_0 a0_1 a1 a2 = some r) :
  Calls Try.prog 16 #[.agg #[.int .i64 a0_0, .int .i64 a0_1], .int .i64 a1, .int .i64 a2] w fun e w' => e = .returned (.int .i64 r) ∧ Below w.heap.size w w' := by
 have hu23 := Try.underlying23; have HB := Aside0.mk (Below.refl w.heap.size w); have H : ((safe_Mul.f (mx a1 0) 1000000).bind fun t261 => ((safe_SubS.f t261 a0_1).bind fun t262 => ((bucket_CheckS.f a0_0 a0_1).bind fun t263 => (if t263 = true then (bucket_Wait.j0 k a2 t262 (decide (t262 ≤ 0))) else (bucket_Wait.j0 k a2 t262 true))))) = some r := h; clear h
 obtain ⟨ji4, hji4⟩ : ∃ j_ : Int, (mx a1 0) = j_ := ⟨_, rfl⟩
 replace H : ((safe_Mul.f (ji4) 1000000).bind fun t261 => ((safe_SubS.f t261 a0_1).bind fun t262 => ((bucket_CheckS.f a0_0 a0_1).bind fun t263 => (if t263 = true then (bucket_Wait.j0 k a2 t262 (decide (t262 ≤ 0))) else (bucket_Wait.j0 k a2 t262 true))))) = some r := by first | (rw [hji4] at H; exact H) | (simp only [hji4] at H ⊢; exact H)
 (try (have hji4l : 0 ≤ ji4 := by (rw [← hji4]; unfold mx; (repeat' split) <;> omega)))
 (try (have hji4m : 0 ≤ ji4 := by omega))
 have hji4_ : (if a1 < 0 then 0 else a1) = ji4 := hji4; replace H := Option.bind_eq_some_iff.mp H; obtain ⟨t261, A50, H⟩ := H; (try dsimp only at H); have A5 := Aside0.mk A50; clear A50; replace H := Option.bind_eq_some_iff.mp H; obtain ⟨t262, A60, H⟩ := H; replace H : ((bucket_CheckS.f a0_0 a0_1).bind fun t263 => (if t263 = true then (bucket_Wait.j0 k a2 t262 (decide (t262 ≤ 0))) else (bucket_Wait.j0 k a2 t262 true))) = some r := H; have A6 := Aside0.mk A60; clear A60; have HC7 := Aside0.mk H; clear H
 go_enter Try.func16, Try.ntmps16
 try go_wp2_with (first | ((with_reducible refine gate_dst (N := 3) rfl ?_); refine box_event ?hg (N := 3) ?hd (cs := #[.int .i64 a0_0, .int .i64 a0_1]) (t := 23) ?hr ?_; (case hd => rfl); (case hg => rfl); (case hr => first | (go_simp; done) | (go_simp; rfl)); intro gb260 hg w8 hbox hb; have BK260 := Aside0.mk (hbox); obtain ⟨GW260, nHB⟩ := geA hg hb; have GE260 := GW260; replace HB := nHB; clear nHB; clear hb hbox hg))
 replace BK260 := Aside0.mk (blk_drew BK260.out); replace HB := Aside0.mk (below_drew1 HB.out); refine start_ (n := 7) (S := fun w' => w'.cell? ⟨gb260, 0, none⟩ = some (.int .i64 a0_0) ∧ w'.cell? ⟨gb260, 1, none⟩ = some (.int .i64 a0_1)) (ds := []) #[N,N,N,N,N,N,N] (by kernel_rfl) rfl rfl ⟨(blk_cell BK260.out 0).trans rfl, (blk_cell BK260.out 1).trans rfl⟩ (fun hHeld => ?_)
 generalize w8.drew = w9 at BK260 HB hHeld ⊢
 refine pureA_ (i := 0) (N := some 10) #[Y,N,N,N,N,N,N] rfl rfl (by kernel_rfl) ?_
 refine pureA_ (i := 1) (N := some 11) #[Y,Y,N,N,N,N,N] rfl rfl (by kernel_rfl) ?_
 refine pureA_ (i := 3) (N := some 13) #[Y,Y,N,Y,N,N,N] rfl rfl (by kernel_rfl) ?_
 refine take_ (i := 4) (N := some 14) (v := ?_) (a' := ?_) #[Y,Y,N,Y,Y,N,N] rfl rfl (by kernel_rfl) (fun _ _ _ h => h) (Or.inl ⟨by rfl, ?_⟩) hHeld ?_ ?_; rotate_left
 ·rintro w' ⟨s0, s1⟩; go_simp
  with_reducible rfl
 rotate_left
 ·simp only [Act.put, sA, sB, sC, i64_w, i32_w]
  rfl
 refine one_ (i := 2) (N := some 12) #[Y,Y,Y,Y,Y,N,N] rfl rfl (by kernel_rfl) (by decide) (fun K hK => ?_); refine goes_ Try.func23 (by kernel_rfl) rfl #[.int .i64 ji4, .int .i64 1000000] (by rfl) rfl rfl (by (try simp only [List.map_toArray, List.map_cons, List.map_nil]); first | done | (simp only [hji4]; rfl) | rfl | (simp only [List.length_drop, List.length_take]; rfl)) ?_
 with_reducible refine (safe_Mul.calls ji4 1000000 t261 _ A5.out).mono ?_
 rintro e w10 ⟨rfl, hb⟩; refine ⟨_, rfl, ?_⟩; replace BK260 := bbZ BK260 hb; replace HB := Aside0.mk (below_step HB.out hb); clear hb; refine hK.out _ _ ⟨(blk_cell BK260.out 0).trans rfl, (blk_cell BK260.out 1).trans rfl⟩ (fun hHeld => ?_); clear hK K; refine normA_ (some 12) ?_
 refine one_ (i := 5) (N := some 15) #[Y,Y,Y,Y,Y,Y,N] rfl rfl (by kernel_rfl) (by decide) (fun K hK => ?_); refine goesA_ Try.func31 rfl #[.int .i64 t261, .int .i64 a0_1] (by rfl) rfl rfl ?_
 with_reducible refine (safe_SubS.calls t261 a0_1 t262 _ A6.out).mono ?_
 rintro e w11 ⟨rfl, hb⟩; refine ⟨_, rfl, ?_⟩; replace BK260 := bbZ BK260 hb; replace HB := Aside0.mk (below_step HB.out hb); clear hb; refine hK.out _ _ ⟨(blk_cell BK260.out 0).trans rfl, (blk_cell BK260.out 1).trans rfl⟩ (fun hHeld => ?_); clear hK K; refine normA_ (some 15) ?_
 refine pureA_ (i := 6) (N := some 7) #[Y,Y,Y,Y,Y,Y,Y] rfl rfl (by kernel_rfl) ?_
 refine done_ (by kernel_rfl) ?_
 go_upto_region 2 with (fail)
 go_cut [16] (fun v16 wc => ∃ (kq : Nat) (x16_6 : Bool), v16 = .bool x16_6 ∧ Aside0 (bucket_Wait.j0 kq a2 t262 x16_6 = some r) ∧ Aside0 (kq ≤ k) ∧ Aside0 (wc.heap[gb260]? = some (.cells #[.int .i64 a0_0, .int .i64 a0_1] 23 (0, 0))) ∧ Aside0 (Below w.heap.size w wc))
 case first =>
  have H := HC7.out; clear HC7; replace H := Option.bind_eq_some_iff.mp H; obtain ⟨t263, A120, H⟩ := H; replace H : (if t263 = true then (bucket_Wait.j0 k a2 t262 (decide (t262 ≤ 0))) else (bucket_Wait.j0 k a2 t262 true)) = some r := H; have A12 := Aside0.mk A120; clear A120
  by_cases c13 : t263 = true
  ·subst c13
   have H1 : (bucket_Wait.j0 k a2 t262 (decide (t262 ≤ 0))) = some r := by rw [if_pos rfl] at H; exact H
   clear H; have H := H1; clear H1; have H' := Aside0.mk H; clear H; have hcz14_0 := czZ BK260 0 (.int .i64 a0_0); have hcz14_1 := czZ BK260 1 (.int .i64 a0_1); have hfz14_0 := blk_frozen BK260.out 0; have hfz14_1 := blk_frozen BK260.out 1
   go_wp2_with (first | ((with_reducible refine gate_callee (f := 14) rfl ?_); refine goesLA_ (some 18) rfl rfl Try.func14 rfl #[.agg #[.int .i64 a0_0, .int .i64 a0_1]] rfl ?_; (with_reducible refine (bucket_CheckS.calls a0_0 a0_1 true _ A12.out).mono ?_); rintro e w15 ⟨rfl, hb⟩; refine ⟨_, rfl, ?_⟩; replace BK260 := bdZ BK260 hb; replace HB := stA hb; clear hb))
   go_meet
   case rel => exact ⟨_, (decide (t262 ≤ 0)), (by first | rfl | (simp; done) | (simp [*]; done)), H', ⟨by first | omega | exact Nat.le_refl _⟩, ⟨by (with_reducible repeat first | apply blk_drewN | apply blk_drew | apply blk_alloc); exact BK260.out⟩, ⟨by repeat (first | (with_reducible first | exact HB.out | apply below_alloc | apply pw_below_drewN | apply below_drew1 | refine below_set ?_ GE260.out) | exact HB.out)⟩⟩
  ·replace c13 := Bool.eq_false_iff.mpr c13
   subst c13
   have H1 : (bucket_Wait.j0 k a2 t262 true) = some r := by rw [if_neg (show ¬ (false = true) by decide)] at H; exact H
   clear H; have H := H1; clear H1; have H' := Aside0.mk H; clear H; have hcz16_0 := czZ BK260 0 (.int .i64 a0_0); have hcz16_1 := czZ BK260 1 (.int .i64 a0_1); have hfz16_0 := blk_frozen BK260.out 0; have hfz16_1 := blk_frozen BK260.out 1
   go_wp2_with (first | ((with_reducible refine gate_callee (f := 14) rfl ?_); refine goesLA_ (some 18) rfl rfl Try.func14 rfl #[.agg #[.int .i64 a0_0, .int .i64 a0_1]] rfl ?_; (with_reducible refine (bucket_CheckS.calls a0_0 a0_1 false _ A12.out).mono ?_); rintro e w17 ⟨rfl, hb⟩; refine ⟨_, rfl, ?_⟩; replace BK260 := bdZ BK260 hb; replace HB := stA hb; clear hb))
   go_meet
   case rel => exact ⟨_, (true), (by first | rfl | (simp; done) | (simp [*]; done)), H', ⟨by first | omega | exact Nat.le_refl _⟩, ⟨by (with_reducible repeat first | apply blk_drewN | apply blk_drew | apply blk_alloc); exact BK260.out⟩, ⟨by repeat (first | (with_reducible first | exact HB.out | apply below_alloc | apply pw_below_drewN | apply below_drew1 | refine below_set ?_ GE260.out) | exact HB.out)⟩⟩
 case rest =>
  clear HC7
  try clear c1
  try clear c2
  try clear p2
  try clear c3
  try clear c13
  try clear c14
  try clear c16
  try clear hcz14_0
  try clear hcz14_1
  try clear hcz16_0
  try clear hcz16_1
  try clear hfz14_0
  try clear hfz14_1
  try clear hfz16_0
  try clear hfz16_1
  obtain ⟨kq, x16_6, rfl, HA, HJ6, BK260, HB⟩ := hcut
  cases kq with
  | zero => exact absurd HA.out (by simp [bucket_Wait.j0])
  | succ kj6 =>
   have H := HA.out; clear HA; simp only [bucket_Wait.j0] at H
   by_cases c18 : x16_6 = true
   ·subst c18
    have H1 : (some 0) = some r := by rw [if_pos rfl] at H; exact H
    clear H; have H := H1; clear H1; obtain rfl := Option.some.inj H
    go_wp2
    go_ret
    exact ⟨by first | rfl | (simp [errW_none, errW_some] <;> rfl) | (simp only [← hji4]; first | rfl | (simp [errW_none, errW_some] <;> rfl)) | (simp [*, errW_none, errW_some] <;> rfl), by repeat (first | (with_reducible first | exact HB.out | apply below_alloc | apply pw_below_drewN | apply below_drew1 | refine below_set ?_ GE260.out) | exact HB.out)⟩
   ·replace c18 := Bool.eq_false_iff.mpr c18
    subst c18
    have H1 : (if a2 < 1 then (some 1099511627776) else ((bucket_taken.f a2).bind fun t264 => ((frac_CeilS.f t262 1 t264).bind fun bt265 => (some (mn bt265.1 1099511627776))))) = some r := by rw [if_neg (show ¬ (false = true) by decide)] at H; exact H
    clear H; have H := H1; clear H1
    by_cases c19 : a2 < 1
    ·rw [if_pos c19] at H
     have c19b0 : decide (a2 < 1) = true := decide_eq_true c19; clear c19; obtain rfl := Option.some.inj H
     go_wp2
     go_ret
     exact ⟨by first | rfl | (simp [errW_none, errW_some] <;> rfl) | (simp only [← hji4]; first | rfl | (simp [errW_none, errW_some] <;> rfl)) | (simp [*, errW_none, errW_some] <;> rfl), by repeat (first | (with_reducible first | exact HB.out | apply below_alloc | apply pw_below_drewN | apply below_drew1 | refine below_set ?_ GE260.out) | exact HB.out)⟩
    ·rw [if_neg c19] at H
     have c19b0 : decide (a2 < 1) = false := decide_eq_false c19; clear c19; replace H := Option.bind_eq_some_iff.mp H; obtain ⟨t264, A200, H⟩ := H; replace H : ((frac_CeilS.f t262 1 t264).bind fun bt265 => (some (mn bt265.1 1099511627776))) = some r := H; have A20 := Aside0.mk A200; clear A200; replace H := Option.bind_eq_some_iff.mp H; obtain ⟨⟨t265, t266⟩, A210, H⟩ := H; replace H : (some (mn t265 1099511627776)) = some r := H; have A21 := Aside0.mk A210; clear A210
     obtain ⟨ji22, hji22⟩ : ∃ j_ : Int, (mn t265 1099511627776) = j_ := ⟨_, rfl⟩
     replace H : (some ji22) = some r := by first | (rw [hji22] at H; exact H) | (simp only [hji22] at H ⊢; exact H)
     (try rw [hji22] at A20)
     (try rw [hji22] at A21)
     (try (have hji22h : ji22 ≤ 1099511627776 := by (rw [← hji22]; unfold mn; (repeat' split) <;> omega)))
     (try (have hji22g : ji22 ≤ 64 := by omega))
     have hji22_ : (if 1099511627776 < t265 then 1099511627776 else t265) = ji22 := hji22; obtain rfl := Option.some.inj H
     go_wp2_with (first | ((with_reducible refine gate_callee (f := 21) rfl ?_); refine goesLA_ (some 30) rfl rfl Try.func21 rfl #[.int .i64 a2] rfl ?_; (with_reducible refine (bucket_taken.calls a2 t264 _ A20.out).mono ?_); rintro e w23 ⟨rfl, hb⟩; refine ⟨_, rfl, ?_⟩; replace BK260 := bdZ BK260 hb; replace HB := stA hb; clear hb) | ((with_reducible refine gate_callee (f := 32) rfl ?_); refine goesLA_ (some 31) rfl rfl Try.func32 rfl #[.int .i64 t262, .int .i64 1, .int .i64 t264] rfl ?_; (with_reducible refine (frac_CeilS.calls t262 1 t264 t265 t266 _ A21.out).mono ?_); rintro e w24 ⟨rfl, hb⟩; refine ⟨_, rfl, ?_⟩; replace BK260 := bdZ BK260 hb; replace HB := stA hb; clear hb))
     go_ret
     exact ⟨by first | rfl | (simp [errW_none, errW_some] <;> rfl) | (simp only [← hji4, ← hji22]; first | rfl | (simp [errW_none, errW_some] <;> rfl)) | (simp [*, errW_none, errW_some] <;> rfl), by repeat (first | (with_reducible first | exact HB.out | apply below_alloc | apply pw_below_drewN | apply below_drew1 | refine below_set ?_ GE260.out) | exact HB.out)⟩

/-! ### bucket_WaitS: pure, behind function 16 -/
section
open Go.Proofs.Ytidpdaiolkcgnaa.Sp
noncomputable def bucket_WaitS.f (t : Int) (h : Int) (n : Int) (r : Int) : Option (Int) := need (I h ∧ I n ∧ I r) (some (waitB t h n r))
theorem bucket_WaitS.eq {t : Int} {h : Int} {n : Int} {r : Int} (h1 : I h) (h2 : I n) (h3 : I r) : bucket_WaitS.f t h n r = some (waitB t h n r) := need_pos ⟨h1, h2, h3⟩
theorem bucket_Wait.main {t : Int} {h : Int} {n : Int} {r : Int} (h1 : I h) (h2 : I n) (h3 : I r) : bucket_Wait.f 1 t h n r = some (waitB t h n r) := by
 unfold bucket_Wait.f
 simp only [bucket_Wait.j0]
 have e : mx n 0 = if n < 0 then 0 else n := rfl
 have i0 : I (if n < 0 then 0 else n) := by split <;> omega
 have p0 : 0 ≤ (if n < 0 then 0 else n) := by split <;> omega
 rw [e, safe_Mul.eq i0 (by omega), bucket_CheckS.eq]
 simp only [Option.bind_some]
 unfold waitB needB
 have q0 : 0 ≤ near ((if n < 0 then 0 else n) * 1000000) ∧ near ((if n < 0 then 0 else n) * 1000000) ≤ 9223372036854775807 := by unfold near; split <;> (try split) <;> omega
 generalize near ((if n < 0 then 0 else n) * 1000000) = q at *
 rw [safe_SubS.eq (by omega) h1]
 simp only [Option.bind_some]
 by_cases c : bOk t h = true
 ·obtain ⟨b1, b2, b3, b4⟩ := bOk_iff.1 c
  rw [if_pos c, near_in (v := q - h) (by omega)]
  by_cases l : q - h ≤ 0
  ·rw [if_pos (decide_eq_true l), if_neg (by omega)]
  ·rw [if_neg (by simp; omega), if_pos (show bOk t h = true ∧ h < q from ⟨c, by omega⟩)]
   by_cases r1 : r < 1
   ·rw [if_pos r1, if_pos r1]
   ·rw [if_neg r1, if_neg r1]
    unfold bucket_taken.f
    rw [safe_ClampS.eq h3 (by omega) (by omega)]
    simp only [Option.bind_some]
    have k : 1 ≤ clamp r 0 1099511627776 ∧ clamp r 0 1099511627776 ≤ 1099511627776 := by unfold clamp; (repeat' split) <;> omega
    generalize clamp r 0 1099511627776 = d at *
    have v := ceil_up (q - h) (show 0 < d by omega); have v1 := Int.ediv_nonneg (show 0 ≤ q - h + (d - 1) by omega) (show 0 ≤ d by omega)
    have v2 : (q - h + (d - 1)) / d ≤ q - h := by
     apply Int.ediv_le_of_le_mul (by omega)
     have := Int.mul_le_mul_of_nonneg_left (a := 1) (b := d) (c := q - h - 1) (by omega) (by omega)
     have e3 : (q - h) * d = (q - h - 1) * d + d := by rw [Int.sub_mul (q - h) 1 d]; omega
     omega
    rw [frac_CeilS.eq (by omega) (by omega) (by omega), ceilQ_in (by omega) (by rw [Int.mul_one, v]; omega)]
    simp only [Option.bind_some, Int.mul_one]
    rfl
 ·rw [if_neg c, if_pos trivial, if_neg (fun x => c x.1)]
end
theorem bucket_WaitS.calls (a0_0 : Int) (a0_1 : Int) (a1 : Int) (a2 : Int) (r : Int) (w : World) (h : bucket_WaitS.f a0_0 a0_1 a1 a2 = some r) :
  Calls Try.prog 16 #[.agg #[.int .i64 a0_0, .int .i64 a0_1], .int .i64 a1, .int .i64 a2] w fun e w' => e = .returned (.int .i64 r) ∧ Below w.heap.size w w' := by
 obtain ⟨hc, h⟩ := Go.Proofs.Ytidpdaiolkcgnaa.Sp.need_some h; obtain ⟨h1, h2, h3⟩ := hc; exact bucket_Wait.calls 1 a0_0 a0_1 a1 a2 r w (by rw [bucket_Wait.main h1 h2 h3]; exact h)

/-! ### sawtoothlaw18_awake: function 9 -/
noncomputable def sawtoothlaw18_awake.f  : Option (Bool) := (bucket_FillS.f 0 0 3000 1000 5).bind fun bt267 => ((bucket_FillS.f bt267.1 bt267.2.1 9000 1000 5).bind fun bt271 => ((bucket_FillS.f bt271.1 bt271.2.1 8000 1000 5).bind fun bt275 => ((bucket_TakeS.f bt271.1 bt271.2.1 4).bind fun bt279 => ((bucket_TakeS.f bt279.1 bt279.2.1 2).bind fun bt283 => ((bucket_TakeS.f bt279.1 bt279.2.1 0).bind fun bt287 => ((bucket_FillS.f 0 (-1) 5 5 5).bind fun bt291 => (if bt267.2.2 = 0 then (if (bt267.1 == 3000 && (bt267.2.1 == 3000000)) = true then (if bt271.2.2 = 0 then (if (bt271.1 == 9000 && (bt271.2.1 == 5000000)) = true then (if bt275.2.2 = 50 then (if bt279.2.2 = 0 then (if bt279.2.1 = 1000000 then (if bt283.2.2 = 203 then (if bt287.2.2 = 201 then (if bt291.2.2 = 201 then ((bucket_BytesS.f bt271.1 bt271.2.1).bind fun t295 => (if t295 = 5 then ((bucket_WaitS.f bt279.1 bt279.2.1 3 1000).bind fun t296 => (if t296 = 2000 then ((bucket_WaitS.f bt279.1 bt279.2.1 1 0).bind fun t297 => (if t297 = 0 then ((bucket_WaitS.f bt279.1 bt279.2.1 2 0).bind fun t298 => (if t298 = 1099511627776 then ((bucket_WaitS.f bt279.1 bt279.2.1 2 3).bind fun t299 => (if t299 = 333334 then ((bucket_CheckS.f bt279.1 bt279.2.1).bind fun t300 => (if t300 = true then ((bucket_CheckS.f (-1) 0).bind fun t301 => (some (!t301))) else (none))) else (none))) else (none))) else (none))) else (none))) else (none))) else (none)) else (none)) else (none)) else (none)) else (none)) else (none)) else (none)) else (none)) else (none)) else (none))))))))
set_option maxHeartbeats 8000000 in
set_option maxRecDepth 100000 in
theorem sawtoothlaw18_awake.calls  (r : Bool) (w : World) (h : sawtoothlaw18_awake.f  = some r) :
  Calls Try.prog 9 #[] w fun e w' => e = .returned (.bool r) ∧ Below w.heap.size w w' := by
 have hu23 := Try.underlying23; have HB := Aside0.mk (Below.refl w.heap.size w); have H : ((bucket_FillS.f 0 0 3000 1000 5).bind fun bt267 => ((bucket_FillS.f bt267.1 bt267.2.1 9000 1000 5).bind fun bt271 => ((bucket_FillS.f bt271.1 bt271.2.1 8000 1000 5).bind fun bt275 => ((bucket_TakeS.f bt271.1 bt271.2.1 4).bind fun bt279 => ((bucket_TakeS.f bt279.1 bt279.2.1 2).bind fun bt283 => ((bucket_TakeS.f bt279.1 bt279.2.1 0).bind fun bt287 => ((bucket_FillS.f 0 (-1) 5 5 5).bind fun bt291 => (if bt267.2.2 = 0 then (if (bt267.1 == 3000 && (bt267.2.1 == 3000000)) = true then (if bt271.2.2 = 0 then (if (bt271.1 == 9000 && (bt271.2.1 == 5000000)) = true then (if bt275.2.2 = 50 then (if bt279.2.2 = 0 then (if bt279.2.1 = 1000000 then (if bt283.2.2 = 203 then (if bt287.2.2 = 201 then (if bt291.2.2 = 201 then ((bucket_BytesS.f bt271.1 bt271.2.1).bind fun t295 => (if t295 = 5 then ((bucket_WaitS.f bt279.1 bt279.2.1 3 1000).bind fun t296 => (if t296 = 2000 then ((bucket_WaitS.f bt279.1 bt279.2.1 1 0).bind fun t297 => (if t297 = 0 then ((bucket_WaitS.f bt279.1 bt279.2.1 2 0).bind fun t298 => (if t298 = 1099511627776 then ((bucket_WaitS.f bt279.1 bt279.2.1 2 3).bind fun t299 => (if t299 = 333334 then ((bucket_CheckS.f bt279.1 bt279.2.1).bind fun t300 => (if t300 = true then ((bucket_CheckS.f (-1) 0).bind fun t301 => (some (!t301))) else (none))) else (none))) else (none))) else (none))) else (none))) else (none))) else (none)) else (none)) else (none)) else (none)) else (none)) else (none)) else (none)) else (none)) else (none)) else (none))))))))) = some r := h; clear h; replace H := Option.bind_eq_some_iff.mp H; obtain ⟨⟨t267, t268, t269⟩, A10, H⟩ := H; (try dsimp only at H); have A1 := Aside0.mk A10; clear A10; replace H := Option.bind_eq_some_iff.mp H; obtain ⟨⟨t271, t272, t273⟩, A20, H⟩ := H; (try dsimp only at H); have A2 := Aside0.mk A20; clear A20; replace H := Option.bind_eq_some_iff.mp H; obtain ⟨⟨t275, t276, t277⟩, A30, H⟩ := H; (try dsimp only at H); have A3 := Aside0.mk A30; clear A30; replace H := Option.bind_eq_some_iff.mp H; obtain ⟨⟨t279, t280, t281⟩, A40, H⟩ := H; (try dsimp only at H); have A4 := Aside0.mk A40; clear A40; replace H := Option.bind_eq_some_iff.mp H; obtain ⟨⟨t283, t284, t285⟩, A50, H⟩ := H; (try dsimp only at H); have A5 := Aside0.mk A50; clear A50; replace H := Option.bind_eq_some_iff.mp H; obtain ⟨⟨t287, t288, t289⟩, A60, H⟩ := H; (try dsimp only at H); have A6 := Aside0.mk A60; clear A60; replace H := Option.bind_eq_some_iff.mp H; obtain ⟨⟨t291, t292, t293⟩, A70, H⟩ := H; (try dsimp only at H); have A7 := Aside0.mk A70; clear A70
 by_cases c8 : t269 = 0
 ·rw [if_pos c8] at H
  have c8b0 : (t269 == 0) = true := beq_iff_eq.mpr c8; have c8b1 : (t269 != 0) = false := bne_eq_false_iff_eq.mpr c8; clear c8
  by_cases c9 : (t267 == 3000 && (t268 == 3000000)) = true
  ·rw [if_pos c9] at H
   have c9b0 : (t267 == 3000 && (t268 == 3000000)) = true := c9
   (try (have c9b1 : decide (t267 = 3000 && (t268 == 3000000)) = true := by simpa using c9))
   (try (have c9b2 : (t267 == 3000 && (t268 == 3000000)) = true := by simpa using c9))
   clear c9
   by_cases c10 : t273 = 0
   ·rw [if_pos c10] at H
    have c10b0 : (t273 == 0) = true := beq_iff_eq.mpr c10; have c10b1 : (t273 != 0) = false := bne_eq_false_iff_eq.mpr c10; clear c10
    by_cases c11 : (t271 == 9000 && (t272 == 5000000)) = true
    ·rw [if_pos c11] at H
     have c11b0 : (t271 == 9000 && (t272 == 5000000)) = true := c11
     (try (have c11b1 : decide (t271 = 9000 && (t272 == 5000000)) = true := by simpa using c11))
     (try (have c11b2 : (t271 == 9000 && (t272 == 5000000)) = true := by simpa using c11))
     clear c11
     by_cases c12 : t277 = 50
     ·rw [if_pos c12] at H
      have c12b0 : (t277 == 50) = true := beq_iff_eq.mpr c12; have c12b1 : (t277 != 50) = false := bne_eq_false_iff_eq.mpr c12; clear c12
      by_cases c13 : t281 = 0
      ·rw [if_pos c13] at H
       have c13b0 : (t281 == 0) = true := beq_iff_eq.mpr c13; have c13b1 : (t281 != 0) = false := bne_eq_false_iff_eq.mpr c13; clear c13
       by_cases c14 : t280 = 1000000
       ·rw [if_pos c14] at H
        have c14b0 : (t280 == 1000000) = true := beq_iff_eq.mpr c14; have c14b1 : (t280 != 1000000) = false := bne_eq_false_iff_eq.mpr c14; clear c14
        by_cases c15 : t285 = 203
        ·rw [if_pos c15] at H
         have c15b0 : (t285 == 203) = true := beq_iff_eq.mpr c15; have c15b1 : (t285 != 203) = false := bne_eq_false_iff_eq.mpr c15; clear c15
         by_cases c16 : t289 = 201
         ·rw [if_pos c16] at H
          have c16b0 : (t289 == 201) = true := beq_iff_eq.mpr c16; have c16b1 : (t289 != 201) = false := bne_eq_false_iff_eq.mpr c16; clear c16
          by_cases c17 : t293 = 201
          ·rw [if_pos c17] at H
           have c17b0 : (t293 == 201) = true := beq_iff_eq.mpr c17; have c17b1 : (t293 != 201) = false := bne_eq_false_iff_eq.mpr c17; clear c17; replace H := Option.bind_eq_some_iff.mp H; obtain ⟨t295, A180, H⟩ := H; (try dsimp only at H); have A18 := Aside0.mk A180; clear A180
           by_cases c19 : t295 = 5
           ·rw [if_pos c19] at H
            have c19b0 : (t295 == 5) = true := beq_iff_eq.mpr c19; have c19b1 : (t295 != 5) = false := bne_eq_false_iff_eq.mpr c19; clear c19; replace H := Option.bind_eq_some_iff.mp H; obtain ⟨t296, A200, H⟩ := H; (try dsimp only at H); have A20 := Aside0.mk A200; clear A200
            by_cases c21 : t296 = 2000
            ·rw [if_pos c21] at H
             have c21b0 : (t296 == 2000) = true := beq_iff_eq.mpr c21; have c21b1 : (t296 != 2000) = false := bne_eq_false_iff_eq.mpr c21; clear c21; replace H := Option.bind_eq_some_iff.mp H; obtain ⟨t297, A220, H⟩ := H; (try dsimp only at H); have A22 := Aside0.mk A220; clear A220
             by_cases c23 : t297 = 0
             ·rw [if_pos c23] at H
              have c23b0 : (t297 == 0) = true := beq_iff_eq.mpr c23; have c23b1 : (t297 != 0) = false := bne_eq_false_iff_eq.mpr c23; clear c23; replace H := Option.bind_eq_some_iff.mp H; obtain ⟨t298, A240, H⟩ := H; (try dsimp only at H); have A24 := Aside0.mk A240; clear A240
              by_cases c25 : t298 = 1099511627776
              ·rw [if_pos c25] at H
               have c25b0 : (t298 == 1099511627776) = true := beq_iff_eq.mpr c25; have c25b1 : (t298 != 1099511627776) = false := bne_eq_false_iff_eq.mpr c25; clear c25; replace H := Option.bind_eq_some_iff.mp H; obtain ⟨t299, A260, H⟩ := H; replace H : (if t299 = 333334 then ((bucket_CheckS.f t279 t280).bind fun t300 => (if t300 = true then ((bucket_CheckS.f (-1) 0).bind fun t301 => (some (!t301))) else (none))) else (none)) = some r := H; have A26 := Aside0.mk A260; clear A260
               by_cases c27 : t299 = 333334
               ·rw [if_pos c27] at H
                have c27b0 : (t299 == 333334) = true := beq_iff_eq.mpr c27; have c27b1 : (t299 != 333334) = false := bne_eq_false_iff_eq.mpr c27; clear c27; replace H := Option.bind_eq_some_iff.mp H; obtain ⟨t300, A280, H⟩ := H; replace H : (if t300 = true then ((bucket_CheckS.f (-1) 0).bind fun t301 => (some (!t301))) else (none)) = some r := H; have A28 := Aside0.mk A280; clear A280
                by_cases c29 : t300 = true
                ·subst c29
                 have H1 : ((bucket_CheckS.f (-1) 0).bind fun t301 => (some (!t301))) = some r := by rw [if_pos rfl] at H; exact H
                 clear H; have H := H1; clear H1; replace H := Option.bind_eq_some_iff.mp H; obtain ⟨t301, A300, H⟩ := H; replace H : (some (!t301)) = some r := H; have A30 := Aside0.mk A300; clear A300; obtain rfl := Option.some.inj H
                 go_enter Try.func9, Try.ntmps9
                 go_wp2_with (first | ((with_reducible refine gate_callee (f := 10) rfl ?_); refine goesLA_ (some 17) rfl rfl Try.func10 rfl #[.agg #[.int .i64 0, .int .i64 0], .int .i64 3000, .int .i64 1000, .int .i64 5] rfl ?_; (with_reducible refine (bucket_FillS.calls 0 0 3000 1000 5 t267 t268 t269 _ A1.out).mono ?_); rintro e w31 ⟨rfl, hb⟩; refine ⟨_, rfl, ?_⟩; replace HB := stA hb; clear hb) | ((with_reducible refine gate_dst (N := 1) rfl ?_); refine box_event ?hg (N := 1) ?hd (cs := #[.int .i64 0, .int .i64 0]) (t := 23) ?hr ?_; (case hd => rfl); (case hg => rfl); (case hr => first | (go_simp; done) | (go_simp; rfl)); intro gb270 hg w32 hbox hb; have BK270 := Aside0.mk (hbox); obtain ⟨GW270, nHB⟩ := geA hg hb; have GE270 := GW270; replace HB := nHB; clear nHB; clear hb hbox hg; have hcz33_0 := czZ BK270 0 (.int .i64 0); have hcz33_1 := czZ BK270 1 (.int .i64 0); have hfz33_0 := blk_frozen BK270.out 0; have hfz33_1 := blk_frozen BK270.out 1) | ((with_reducible refine gate_callee (f := 10) rfl ?_); refine goesLA_ (some 22) rfl rfl Try.func10 rfl #[.agg #[.int .i64 t267, .int .i64 t268], .int .i64 9000, .int .i64 1000, .int .i64 5] rfl ?_; (with_reducible refine (bucket_FillS.calls t267 t268 9000 1000 5 t271 t272 t273 _ A2.out).mono ?_); rintro e w34 ⟨rfl, hb⟩; refine ⟨_, rfl, ?_⟩; replace BK270 := Aside0.mk (blk_below (g := gb270) (o := .cells #[.int .i64 t267, .int .i64 t268] 23 (0, 0)) (by (with_reducible repeat first | apply blk_drewN | apply blk_drew | apply blk_alloc); refine blk_put (cs := #[.int .i64 t267, .int .i64 0]) ?_ 1 _ rfl; (with_reducible repeat first | apply blk_drewN | apply blk_drew | apply blk_alloc); refine blk_put (cs := #[.int .i64 0, .int .i64 0]) ?_ 0 _ rfl; (with_reducible repeat first | apply blk_drewN | apply blk_drew | apply blk_alloc); exact BK270.out) hb); replace HB := stA hb; clear hb) | ((with_reducible refine gate_dst (N := 3) rfl ?_); refine box_event ?hg (N := 3) ?hd (cs := #[.int .i64 0, .int .i64 0]) (t := 23) ?hr ?_; (case hd => rfl); (case hg => rfl); (case hr => first | (go_simp; done) | (go_simp; rfl)); intro gb274 hg w35 hbox hb; have BK274 := Aside0.mk (hbox); obtain ⟨GW274, nHB⟩ := geA hg hb; have GE274 := GW274; obtain ⟨NB270_274, NB274_270, nBK⟩ := nbA BK270 hg hb; replace BK270 := nBK; clear nBK; replace HB := nHB; clear nHB; clear hb hbox hg; have hnb36 := NB274_270.out; have hnc36 := NB270_274.out; have hcz37_0 := czZ BK274 0 (.int .i64 0); have hcz37_1 := czZ BK274 1 (.int .i64 0); have hfz37_0 := blk_frozen BK274.out 0; have hfz37_1 := blk_frozen BK274.out 1) | ((with_reducible refine gate_callee (f := 10) rfl ?_); refine goesLA_ (some 27) rfl rfl Try.func10 rfl #[.agg #[.int .i64 t271, .int .i64 t272], .int .i64 8000, .int .i64 1000, .int .i64 5] rfl ?_; (with_reducible refine (bucket_FillS.calls t271 t272 8000 1000 5 t275 t276 t277 _ A3.out).mono ?_); rintro e w38 ⟨rfl, hb⟩; refine ⟨_, rfl, ?_⟩; replace BK270 := bfZ BK270 (fun h_ => by (with_reducible repeat first | apply blk_drewN | apply blk_drew | apply blk_alloc | refine farZ ?_ NB270_274 _); exact h_) hb; replace BK274 := Aside0.mk (blk_below (g := gb274) (o := .cells #[.int .i64 t271, .int .i64 t272] 23 (0, 0)) (by (with_reducible repeat first | apply blk_drewN | apply blk_drew | apply blk_alloc); refine blk_put (cs := #[.int .i64 t271, .int .i64 0]) ?_ 1 _ rfl; (with_reducible repeat first | apply blk_drewN | apply blk_drew | apply blk_alloc); refine blk_put (cs := #[.int .i64 0, .int .i64 0]) ?_ 0 _ rfl; (with_reducible repeat first | apply blk_drewN | apply blk_drew | apply blk_alloc); exact BK274.out) hb); replace HB := stA hb; clear hb) | ((with_reducible refine gate_dst (N := 5) rfl ?_); refine box_event ?hg (N := 5) ?hd (cs := #[.int .i64 0, .int .i64 0]) (t := 23) ?hr ?_; (case hd => rfl); (case hg => rfl); (case hr => first | (go_simp; done) | (go_simp; rfl)); intro gb278 hg w39 hbox hb; have BK278 := Aside0.mk (hbox); obtain ⟨GW278, nHB⟩ := geA hg hb; have GE278 := GW278; obtain ⟨NB270_278, NB278_270, nBK⟩ := nbA BK270 hg hb; replace BK270 := nBK; clear nBK; obtain ⟨NB274_278, NB278_274, nBK⟩ := nbA BK274 hg hb; replace BK274 := nBK; clear nBK; replace HB := nHB; clear nHB; clear hb hbox hg; have hnb40 := NB278_270.out; have hnc40 := NB270_278.out; have hnb41 := NB278_274.out; have hnc41 := NB274_278.out; have hcz42_0 := czZ BK278 0 (.int .i64 0); have hcz42_1 := czZ BK278 1 (.int .i64 0); have hfz42_0 := blk_frozen BK278.out 0; have hfz42_1 := blk_frozen BK278.out 1; have hcz43_0 := czZ BK274 0 (.int .i64 t271); have hcz43_1 := czZ BK274 1 (.int .i64 t272); have hfz43_0 := blk_frozen BK274.out 0; have hfz43_1 := blk_frozen BK274.out 1) | ((with_reducible refine gate_callee (f := 12) rfl ?_); refine goesLA_ (some 32) rfl rfl Try.func12 rfl #[.agg #[.int .i64 t271, .int .i64 t272], .int .i64 4] rfl ?_; (with_reducible refine (bucket_TakeS.calls t271 t272 4 t279 t280 t281 _ A4.out).mono ?_); rintro e w44 ⟨rfl, hb⟩; refine ⟨_, rfl, ?_⟩; replace BK270 := bfZ BK270 (fun h_ => by (with_reducible repeat first | apply blk_drewN | apply blk_drew | apply blk_alloc | refine farZ ?_ NB270_278 _); exact h_) hb; replace BK274 := bfZ BK274 (fun h_ => by (with_reducible repeat first | apply blk_drewN | apply blk_drew | apply blk_alloc | refine farZ ?_ NB274_278 _); exact h_) hb; replace BK278 := Aside0.mk (blk_below (g := gb278) (o := .cells #[.int .i64 t275, .int .i64 t276] 23 (0, 0)) (by (with_reducible repeat first | apply blk_drewN | apply blk_drew | apply blk_alloc); refine blk_put (cs := #[.int .i64 t275, .int .i64 0]) ?_ 1 _ rfl; (with_reducible repeat first | apply blk_drewN | apply blk_drew | apply blk_alloc); refine blk_put (cs := #[.int .i64 0, .int .i64 0]) ?_ 0 _ rfl; (with_reducible repeat first | apply blk_drewN | apply blk_drew | apply blk_alloc); exact BK278.out) hb); replace HB := stA hb; clear hb) | ((with_reducible refine gate_dst (N := 7) rfl ?_); refine box_event ?hg (N := 7) ?hd (cs := #[.int .i64 0, .int .i64 0]) (t := 23) ?hr ?_; (case hd => rfl); (case hg => rfl); (case hr => first | (go_simp; done) | (go_simp; rfl)); intro gb282 hg w45 hbox hb; have BK282 := Aside0.mk (hbox); obtain ⟨GW282, nHB⟩ := geA hg hb; have GE282 := GW282; obtain ⟨NB270_282, NB282_270, nBK⟩ := nbA BK270 hg hb; replace BK270 := nBK; clear nBK; obtain ⟨NB274_282, NB282_274, nBK⟩ := nbA BK274 hg hb; replace BK274 := nBK; clear nBK; obtain ⟨NB278_282, NB282_278, nBK⟩ := nbA BK278 hg hb; replace BK278 := nBK; clear nBK; replace HB := nHB; clear nHB; clear hb hbox hg; have hnb46 := NB282_270.out; have hnc46 := NB270_282.out; have hnb47 := NB282_274.out; have hnc47 := NB274_282.out; have hnb48 := NB282_278.out; have hnc48 := NB278_282.out; have hcz49_0 := czZ BK282 0 (.int .i64 0); have hcz49_1 := czZ BK282 1 (.int .i64 0); have hfz49_0 := blk_frozen BK282.out 0; have hfz49_1 := blk_frozen BK282.out 1) | ((with_reducible refine gate_callee (f := 12) rfl ?_); refine goesLA_ (some 37) rfl rfl Try.func12 rfl #[.agg #[.int .i64 t279, .int .i64 t280], .int .i64 2] rfl ?_; (with_reducible refine (bucket_TakeS.calls t279 t280 2 t283 t284 t285 _ A5.out).mono ?_); rintro e w50 ⟨rfl, hb⟩; refine ⟨_, rfl, ?_⟩; replace BK270 := bfZ BK270 (fun h_ => by (with_reducible repeat first | apply blk_drewN | apply blk_drew | apply blk_alloc | refine farZ ?_ NB270_282 _); exact h_) hb; replace BK274 := bfZ BK274 (fun h_ => by (with_reducible repeat first | apply blk_drewN | apply blk_drew | apply blk_alloc | refine farZ ?_ NB274_282 _); exact h_) hb; replace BK278 := bfZ BK278 (fun h_ => by (with_reducible repeat first | apply blk_drewN | apply blk_drew | apply blk_alloc | refine farZ ?_ NB278_282 _); exact h_) hb; replace BK282 := Aside0.mk (blk_below (g := gb282) (o := .cells #[.int .i64 t279, .int .i64 t280] 23 (0, 0)) (by (with_reducible repeat first | apply blk_drewN | apply blk_drew | apply blk_alloc); refine blk_put (cs := #[.int .i64 t279, .int .i64 0]) ?_ 1 _ rfl; (with_reducible repeat first | apply blk_drewN | apply blk_drew | apply blk_alloc); refine blk_put (cs := #[.int .i64 0, .int .i64 0]) ?_ 0 _ rfl; (with_reducible repeat first | apply blk_drewN | apply blk_drew | apply blk_alloc); exact BK282.out) hb); replace HB := stA hb; clear hb) | ((with_reducible refine gate_dst (N := 9) rfl ?_); refine box_event ?hg (N := 9) ?hd (cs := #[.int .i64 0, .int .i64 0]) (t := 23) ?hr ?_; (case hd => rfl); (case hg => rfl); (case hr => first | (go_simp; done) | (go_simp; rfl)); intro gb286 hg w51 hbox hb; have BK286 := Aside0.mk (hbox); obtain ⟨GW286, nHB⟩ := geA hg hb; have GE286 := GW286; obtain ⟨NB270_286, NB286_270, nBK⟩ := nbA BK270 hg hb; replace BK270 := nBK; clear nBK; obtain ⟨NB274_286, NB286_274, nBK⟩ := nbA BK274 hg hb; replace BK274 := nBK; clear nBK; obtain ⟨NB278_286, NB286_278, nBK⟩ := nbA BK278 hg hb; replace BK278 := nBK; clear nBK; obtain ⟨NB282_286, NB286_282, nBK⟩ := nbA BK282 hg hb; replace BK282 := nBK; clear nBK; replace HB := nHB; clear nHB; clear hb hbox hg; have hnb52 := NB286_270.out; have hnc52 := NB270_286.out; have hnb53 := NB286_274.out; have hnc53 := NB274_286.out; have hnb54 := NB286_278.out; have hnc54 := NB278_286.out; have hnb55 := NB286_282.out; have hnc55 := NB282_286.out; have hcz56_0 := czZ BK286 0 (.int .i64 0); have hcz56_1 := czZ BK286 1 (.int .i64 0); have hfz56_0 := blk_frozen BK286.out 0; have hfz56_1 := blk_frozen BK286.out 1; have hcz57_0 := czZ BK282 0 (.int .i64 t279); have hcz57_1 := czZ BK282 1 (.int .i64 t280); have hfz57_0 := blk_frozen BK282.out 0; have hfz57_1 := blk_frozen BK282.out 1) | ((with_reducible refine gate_callee (f := 12) rfl ?_); refine goesLA_ (some 42) rfl rfl Try.func12 rfl #[.agg #[.int .i64 t279, .int .i64 t280], .int .i64 0] rfl ?_; (with_reducible refine (bucket_TakeS.calls t279 t280 0 t287 t288 t289 _ A6.out).mono ?_); rintro e w58 ⟨rfl, hb⟩; refine ⟨_, rfl, ?_⟩; replace BK270 := bfZ BK270 (fun h_ => by (with_reducible repeat first | apply blk_drewN | apply blk_drew | apply blk_alloc | refine farZ ?_ NB270_286 _); exact h_) hb; replace BK274 := bfZ BK274 (fun h_ => by (with_reducible repeat first | apply blk_drewN | apply blk_drew | apply blk_alloc | refine farZ ?_ NB274_286 _); exact h_) hb; replace BK278 := bfZ BK278 (fun h_ => by (with_reducible repeat first | apply blk_drewN | apply blk_drew | apply blk_alloc | refine farZ ?_ NB278_286 _); exact h_) hb; replace BK282 := bfZ BK282 (fun h_ => by (with_reducible repeat first | apply blk_drewN | apply blk_drew | apply blk_alloc | refine farZ ?_ NB282_286 _); exact h_) hb; replace BK286 := Aside0.mk (blk_below (g := gb286) (o := .cells #[.int .i64 t283, .int .i64 t284] 23 (0, 0)) (by (with_reducible repeat first | apply blk_drewN | apply blk_drew | apply blk_alloc); refine blk_put (cs := #[.int .i64 t283, .int .i64 0]) ?_ 1 _ rfl; (with_reducible repeat first | apply blk_drewN | apply blk_drew | apply blk_alloc); refine blk_put (cs := #[.int .i64 0, .int .i64 0]) ?_ 0 _ rfl; (with_reducible repeat first | apply blk_drewN | apply blk_drew | apply blk_alloc); exact BK286.out) hb); replace HB := stA hb; clear hb) | ((with_reducible refine gate_dst (N := 11) rfl ?_); refine box_event ?hg (N := 11) ?hd (cs := #[.int .i64 0, .int .i64 0]) (t := 23) ?hr ?_; (case hd => rfl); (case hg => rfl); (case hr => first | (go_simp; done) | (go_simp; rfl)); intro gb290 hg w59 hbox hb; have BK290 := Aside0.mk (hbox); obtain ⟨GW290, nHB⟩ := geA hg hb; have GE290 := GW290; obtain ⟨NB270_290, NB290_270, nBK⟩ := nbA BK270 hg hb; replace BK270 := nBK; clear nBK; obtain ⟨NB274_290, NB290_274, nBK⟩ := nbA BK274 hg hb; replace BK274 := nBK; clear nBK; obtain ⟨NB278_290, NB290_278, nBK⟩ := nbA BK278 hg hb; replace BK278 := nBK; clear nBK; obtain ⟨NB282_290, NB290_282, nBK⟩ := nbA BK282 hg hb; replace BK282 := nBK; clear nBK; obtain ⟨NB286_290, NB290_286, nBK⟩ := nbA BK286 hg hb; replace BK286 := nBK; clear nBK; replace HB := nHB; clear nHB; clear hb hbox hg; have hnb60 := NB290_270.out; have hnc60 := NB270_290.out; have hnb61 := NB290_274.out; have hnc61 := NB274_290.out; have hnb62 := NB290_278.out; have hnc62 := NB278_290.out; have hnb63 := NB290_282.out; have hnc63 := NB282_290.out; have hnb64 := NB290_286.out; have hnc64 := NB286_290.out; have hcz65_0 := czZ BK290 0 (.int .i64 0); have hcz65_1 := czZ BK290 1 (.int .i64 0); have hfz65_0 := blk_frozen BK290.out 0; have hfz65_1 := blk_frozen BK290.out 1) | ((with_reducible refine gate_callee (f := 10) rfl ?_); refine goesLA_ (some 47) rfl rfl Try.func10 rfl #[.agg #[.int .i64 0, .int .i64 (-1)], .int .i64 5, .int .i64 5, .int .i64 5] rfl ?_; (with_reducible refine (bucket_FillS.calls 0 (-1) 5 5 5 t291 t292 t293 _ A7.out).mono ?_); rintro e w66 ⟨rfl, hb⟩; refine ⟨_, rfl, ?_⟩; replace BK270 := bfZ BK270 (fun h_ => by (with_reducible repeat first | apply blk_drewN | apply blk_drew | apply blk_alloc | refine farZ ?_ NB270_290 _); exact h_) hb; replace BK274 := bfZ BK274 (fun h_ => by (with_reducible repeat first | apply blk_drewN | apply blk_drew | apply blk_alloc | refine farZ ?_ NB274_290 _); exact h_) hb; replace BK278 := bfZ BK278 (fun h_ => by (with_reducible repeat first | apply blk_drewN | apply blk_drew | apply blk_alloc | refine farZ ?_ NB278_290 _); exact h_) hb; replace BK282 := bfZ BK282 (fun h_ => by (with_reducible repeat first | apply blk_drewN | apply blk_drew | apply blk_alloc | refine farZ ?_ NB282_290 _); exact h_) hb; replace BK286 := bfZ BK286 (fun h_ => by (with_reducible repeat first | apply blk_drewN | apply blk_drew | apply blk_alloc | refine farZ ?_ NB286_290 _); exact h_) hb; replace BK290 := Aside0.mk (blk_below (g := gb290) (o := .cells #[.int .i64 t287, .int .i64 t288] 23 (0, 0)) (by (with_reducible repeat first | apply blk_drewN | apply blk_drew | apply blk_alloc); refine blk_put (cs := #[.int .i64 t287, .int .i64 0]) ?_ 1 _ rfl; (with_reducible repeat first | apply blk_drewN | apply blk_drew | apply blk_alloc); refine blk_put (cs := #[.int .i64 0, .int .i64 0]) ?_ 0 _ rfl; (with_reducible repeat first | apply blk_drewN | apply blk_drew | apply blk_alloc); exact BK290.out) hb); replace HB := stA hb; clear hb) | ((with_reducible refine gate_dst (N := 13) rfl ?_); refine box_event ?hg (N := 13) ?hd (cs := #[.int .i64 0, .int .i64 0]) (t := 23) ?hr ?_; (case hd => rfl); (case hg => rfl); (case hr => first | (go_simp; done) | (go_simp; rfl)); intro gb294 hg w67 hbox hb; have BK294 := Aside0.mk (hbox); obtain ⟨GW294, nHB⟩ := geA hg hb; have GE294 := GW294; obtain ⟨NB270_294, NB294_270, nBK⟩ := nbA BK270 hg hb; replace BK270 := nBK; clear nBK; obtain ⟨NB274_294, NB294_274, nBK⟩ := nbA BK274 hg hb; replace BK274 := nBK; clear nBK; obtain ⟨NB278_294, NB294_278, nBK⟩ := nbA BK278 hg hb; replace BK278 := nBK; clear nBK; obtain ⟨NB282_294, NB294_282, nBK⟩ := nbA BK282 hg hb; replace BK282 := nBK; clear nBK; obtain ⟨NB286_294, NB294_286, nBK⟩ := nbA BK286 hg hb; replace BK286 := nBK; clear nBK; obtain ⟨NB290_294, NB294_290, nBK⟩ := nbA BK290 hg hb; replace BK290 := nBK; clear nBK; replace HB := nHB; clear nHB; clear hb hbox hg; have hnb68 := NB294_270.out; have hnc68 := NB270_294.out; have hnb69 := NB294_274.out; have hnc69 := NB274_294.out; have hnb70 := NB294_278.out; have hnc70 := NB278_294.out; have hnb71 := NB294_282.out; have hnc71 := NB282_294.out; have hnb72 := NB294_286.out; have hnc72 := NB286_294.out; have hnb73 := NB294_290.out; have hnc73 := NB290_294.out; have hcz74_0 := czZ BK294 0 (.int .i64 0); have hcz74_1 := czZ BK294 1 (.int .i64 0); have hfz74_0 := blk_frozen BK294.out 0; have hfz74_1 := blk_frozen BK294.out 1; have hcz75_0 := czZ BK270 0 (.int .i64 t267); have hcz75_1 := czZ BK270 1 (.int .i64 t268); have hfz75_0 := blk_frozen BK270.out 0; have hfz75_1 := blk_frozen BK270.out 1; have hcz76_0 := czZ BK274 0 (.int .i64 t271); have hcz76_1 := czZ BK274 1 (.int .i64 t272); have hfz76_0 := blk_frozen BK274.out 0; have hfz76_1 := blk_frozen BK274.out 1; have hcz77_0 := czZ BK282 0 (.int .i64 t279); have hcz77_1 := czZ BK282 1 (.int .i64 t280); have hfz77_0 := blk_frozen BK282.out 0; have hfz77_1 := blk_frozen BK282.out 1) | (go_at_call 18; (with_reducible refine (bucket_BytesS.calls t271 t272 t295 _ A18.out).mono ?_); rintro e w78 ⟨rfl, hb⟩; replace BK270 := bfZ BK270 (fun h_ => by (with_reducible repeat first | apply blk_drewN | apply blk_drew | apply blk_alloc | refine farZ ?_ NB270_294 _); exact h_) hb; replace BK274 := bfZ BK274 (fun h_ => by (with_reducible repeat first | apply blk_drewN | apply blk_drew | apply blk_alloc | refine farZ ?_ NB274_294 _); exact h_) hb; replace BK278 := bfZ BK278 (fun h_ => by (with_reducible repeat first | apply blk_drewN | apply blk_drew | apply blk_alloc | refine farZ ?_ NB278_294 _); exact h_) hb; replace BK282 := bfZ BK282 (fun h_ => by (with_reducible repeat first | apply blk_drewN | apply blk_drew | apply blk_alloc | refine farZ ?_ NB282_294 _); exact h_) hb; replace BK286 := bfZ BK286 (fun h_ => by (with_reducible repeat first | apply blk_drewN | apply blk_drew | apply blk_alloc | refine farZ ?_ NB286_294 _); exact h_) hb; replace BK290 := bfZ BK290 (fun h_ => by (with_reducible repeat first | apply blk_drewN | apply blk_drew | apply blk_alloc | refine farZ ?_ NB290_294 _); exact h_) hb; replace BK294 := Aside0.mk (blk_below (g := gb294) (o := .cells #[.int .i64 t291, .int .i64 t292] 23 (0, 0)) (by (with_reducible repeat first | apply blk_drewN | apply blk_drew | apply blk_alloc); refine blk_put (cs := #[.int .i64 t291, .int .i64 0]) ?_ 1 _ rfl; (with_reducible repeat first | apply blk_drewN | apply blk_drew | apply blk_alloc); refine blk_put (cs := #[.int .i64 0, .int .i64 0]) ?_ 0 _ rfl; (with_reducible repeat first | apply blk_drewN | apply blk_drew | apply blk_alloc); exact BK294.out) hb); replace HB := stA hb; clear hb; have hcz79_0 := czZ BK282 0 (.int .i64 t279); have hcz79_1 := czZ BK282 1 (.int .i64 t280); have hfz79_0 := blk_frozen BK282.out 0; have hfz79_1 := blk_frozen BK282.out 1) | (go_at_call 16; (with_reducible refine (bucket_WaitS.calls t279 t280 3 1000 t296 _ A20.out).mono ?_); rintro e w80 ⟨rfl, hb⟩; replace BK270 := bdZ BK270 hb; replace BK274 := bdZ BK274 hb; replace BK278 := bdZ BK278 hb; replace BK282 := bdZ BK282 hb; replace BK286 := bdZ BK286 hb; replace BK290 := bdZ BK290 hb; replace BK294 := bdZ BK294 hb; replace HB := stA hb; clear hb; have hcz81_0 := czZ BK282 0 (.int .i64 t279); have hcz81_1 := czZ BK282 1 (.int .i64 t280); have hfz81_0 := blk_frozen BK282.out 0; have hfz81_1 := blk_frozen BK282.out 1) | (go_at_call 16; (with_reducible refine (bucket_WaitS.calls t279 t280 1 0 t297 _ A22.out).mono ?_); rintro e w82 ⟨rfl, hb⟩; replace BK270 := bdZ BK270 hb; replace BK274 := bdZ BK274 hb; replace BK278 := bdZ BK278 hb; replace BK282 := bdZ BK282 hb; replace BK286 := bdZ BK286 hb; replace BK290 := bdZ BK290 hb; replace BK294 := bdZ BK294 hb; replace HB := stA hb; clear hb; have hcz83_0 := czZ BK282 0 (.int .i64 t279); have hcz83_1 := czZ BK282 1 (.int .i64 t280); have hfz83_0 := blk_frozen BK282.out 0; have hfz83_1 := blk_frozen BK282.out 1) | (go_at_call 16; (with_reducible refine (bucket_WaitS.calls t279 t280 2 0 t298 _ A24.out).mono ?_); rintro e w84 ⟨rfl, hb⟩; replace BK270 := bdZ BK270 hb; replace BK274 := bdZ BK274 hb; replace BK278 := bdZ BK278 hb; replace BK282 := bdZ BK282 hb; replace BK286 := bdZ BK286 hb; replace BK290 := bdZ BK290 hb; replace BK294 := bdZ BK294 hb; replace HB := stA hb; clear hb; have hcz85_0 := czZ BK282 0 (.int .i64 t279); have hcz85_1 := czZ BK282 1 (.int .i64 t280); have hfz85_0 := blk_frozen BK282.out 0; have hfz85_1 := blk_frozen BK282.out 1) | (go_at_call 16; (with_reducible refine (bucket_WaitS.calls t279 t280 2 3 t299 _ A26.out).mono ?_); rintro e w86 ⟨rfl, hb⟩; replace BK270 := bdZ BK270 hb; replace BK274 := bdZ BK274 hb; replace BK278 := bdZ BK278 hb; replace BK282 := bdZ BK282 hb; replace BK286 := bdZ BK286 hb; replace BK290 := bdZ BK290 hb; replace BK294 := bdZ BK294 hb; replace HB := stA hb; clear hb; have hcz87_0 := czZ BK282 0 (.int .i64 t279); have hcz87_1 := czZ BK282 1 (.int .i64 t280); have hfz87_0 := blk_frozen BK282.out 0; have hfz87_1 := blk_frozen BK282.out 1) | (go_at_call 14; (with_reducible refine (bucket_CheckS.calls t279 t280 true _ A28.out).mono ?_); rintro e w88 ⟨rfl, hb⟩; replace BK270 := bdZ BK270 hb; replace BK274 := bdZ BK274 hb; replace BK278 := bdZ BK278 hb; replace BK282 := bdZ BK282 hb; replace BK286 := bdZ BK286 hb; replace BK290 := bdZ BK290 hb; replace BK294 := bdZ BK294 hb; replace HB := stA hb; clear hb) | (go_at_call 14; (with_reducible refine (bucket_CheckS.calls (-1) 0 t301 _ A30.out).mono ?_); rintro e w89 ⟨rfl, hb⟩; replace BK270 := bdZ BK270 hb; replace BK274 := bdZ BK274 hb; replace BK278 := bdZ BK278 hb; replace BK282 := bdZ BK282 hb; replace BK286 := bdZ BK286 hb; replace BK290 := bdZ BK290 hb; replace BK294 := bdZ BK294 hb; replace HB := stA hb; clear hb))
                 go_ret
                 exact ⟨by first | rfl | (simp [errW_none, errW_some] <;> rfl) | (simp [*, errW_none, errW_some] <;> rfl), by repeat (first | (with_reducible first | exact HB.out | apply below_alloc | apply pw_below_drewN | apply below_drew1 | refine below_set ?_ (Aside0.out (by assumption))) | exact HB.out)⟩
                ·replace c29 := Bool.eq_false_iff.mpr c29
                 subst c29
                 have H1 : (none) = some r := by rw [if_neg (show ¬ (false = true) by decide)] at H; exact H
                 clear H; have H := H1; clear H1; exact absurd H (by simp)
               ·rw [if_neg c27] at H
                exact absurd H (by simp)
              ·rw [if_neg c25] at H
               exact absurd H (by simp)
             ·rw [if_neg c23] at H
              exact absurd H (by simp)
            ·rw [if_neg c21] at H
             exact absurd H (by simp)
           ·rw [if_neg c19] at H
            exact absurd H (by simp)
          ·rw [if_neg c17] at H
           exact absurd H (by simp)
         ·rw [if_neg c16] at H
          exact absurd H (by simp)
        ·rw [if_neg c15] at H
         exact absurd H (by simp)
       ·rw [if_neg c14] at H
        exact absurd H (by simp)
      ·rw [if_neg c13] at H
       exact absurd H (by simp)
     ·rw [if_neg c12] at H
      exact absurd H (by simp)
    ·rw [if_neg c11] at H
     exact absurd H (by simp)
   ·rw [if_neg c10] at H
    exact absurd H (by simp)
  ·rw [if_neg c9] at H
   exact absurd H (by simp)
 ·rw [if_neg c8] at H
  exact absurd H (by simp)

/-! ### sawtoothlaw18_awakeS: pure, behind function 9 -/
section
open Go.Proofs.Ytidpdaiolkcgnaa.Sp
noncomputable def sawtoothlaw18_awakeS.f  : Option (Bool) := some true
theorem sawtoothlaw18_awakeS.eq   : sawtoothlaw18_awakeS.f  = some true := rfl
theorem sawtoothlaw18_awake.main   : sawtoothlaw18_awake.f  = some true := by
 unfold sawtoothlaw18_awake.f
 have f1 : fillB 0 0 3000 1000 5 = (3000, 3000000, 0) := by simp [fillB, fillH, topB, bOk, clamp, near]
 have f2 : fillB 3000 3000000 9000 1000 5 = (9000, 5000000, 0) := by simp [fillB, fillH, topB, bOk, clamp, near]
 have f3 : fillB 9000 5000000 8000 1000 5 = (9000, 5000000, 50) := by simp [fillB, fillH, topB, bOk, clamp, near]
 have f4 : fillB 0 (-1) 5 5 5 = (0, -1, 201) := by simp [fillB, bOk]
 have t1 : tkB 9000 5000000 4 = (9000, 1000000, 0) := by simp [tkB, bOk]
 have t2 : tkB 9000 1000000 2 = (9000, 1000000, 203) := by simp [tkB, bOk]
 have t3 : tkB 9000 1000000 0 = (9000, 1000000, 201) := by simp [tkB, bOk]
 have b1 : bytesB 9000 5000000 = 5 := by simp [bytesB, bOk]
 have w1 : waitB 9000 1000000 3 1000 = 2000 := by simp [waitB, needB, bOk, clamp, near]
 have w2 : waitB 9000 1000000 1 0 = 0 := by simp [waitB, needB, bOk, clamp, near]
 have w3 : waitB 9000 1000000 2 0 = 1099511627776 := by simp [waitB, needB, bOk, clamp, near]
 have w4 : waitB 9000 1000000 2 3 = 333334 := by simp [waitB, needB, bOk, clamp, near]
 rw [bucket_FillS.eq (by omega) (by omega) (by omega) (by omega) (by omega), f1]
 simp only [Option.bind_some]
 rw [bucket_FillS.eq (by omega) (by omega) (by omega) (by omega) (by omega), f2]
 simp only [Option.bind_some]
 rw [bucket_FillS.eq (by omega) (by omega) (by omega) (by omega) (by omega), f3]
 simp only [Option.bind_some]
 rw [bucket_TakeS.eq (by omega), t1]
 simp only [Option.bind_some]
 rw [bucket_TakeS.eq (by omega), t2]
 simp only [Option.bind_some]
 rw [bucket_TakeS.eq (by omega), t3]
 simp only [Option.bind_some]
 rw [bucket_FillS.eq (by omega) (by omega) (by omega) (by omega) (by omega), f4]
 simp only [Option.bind_some]
 rw [bucket_BytesS.eq, b1, bucket_WaitS.eq (by omega) (by omega) (by omega), w1, bucket_WaitS.eq (by omega) (by omega) (by omega), w2, bucket_WaitS.eq (by omega) (by omega) (by omega), w3, bucket_WaitS.eq (by omega) (by omega) (by omega), w4, bucket_CheckS.eq, bucket_CheckS.eq]
 simp [bOk]
end
theorem sawtoothlaw18_awakeS.calls  (r : Bool) (w : World) (h : sawtoothlaw18_awakeS.f  = some r) :
  Calls Try.prog 9 #[] w fun e w' => e = .returned (.bool r) ∧ Below w.heap.size w w' := by
 exact sawtoothlaw18_awake.calls  r w (by rw [sawtoothlaw18_awake.main ]; exact h)

/-! ### sawtoothref05_Check: function 30 -/
noncomputable def sawtoothref05_Check.f (a0 : Int) : Option (Bool) := if a0 ≥ 0 then (some (decide (a0 ≤ 1099511627776))) else (some false)
set_option maxHeartbeats 8000000 in
set_option maxRecDepth 100000 in
theorem sawtoothref05_Check.calls (a0 : Int) (r : Bool) (w : World) (h : sawtoothref05_Check.f a0 = some r) :
  Calls Try.prog 30 #[.int .i64 a0] w fun e w' => e = .returned (.bool r) ∧ Drawn0 w w' := by
 have H : (if a0 ≥ 0 then (some (decide (a0 ≤ 1099511627776))) else (some false)) = some r := h; clear h
 by_cases c2 : a0 ≥ 0
 ·rw [if_pos c2] at H
  have c2b0 : decide (0 ≤ a0) = true := decide_eq_true c2; clear c2; obtain rfl := Option.some.inj H
  go_enter Try.func30, Try.ntmps30
  go_wp2
  go_ret
  exact ⟨by first | rfl | (simp; done) | (simp [*]; done), by repeat (first | exact Drawn0.refl _ | apply Drawn0.step)⟩
 ·rw [if_neg c2] at H
  have c2b0 : decide (0 ≤ a0) = false := decide_eq_false c2; clear c2; obtain rfl := Option.some.inj H
  go_enter Try.func30, Try.ntmps30
  go_wp2
  go_ret
  exact ⟨by first | rfl | (simp; done) | (simp [*]; done), by repeat (first | exact Drawn0.refl _ | apply Drawn0.step)⟩

/-! ### sawtoothref18_Check: function 15 -/
noncomputable def sawtoothref18_Check.f (a0_0 : Int) (a0_1 : Int) : Option (Bool) := (sawtoothref05_Check.f a0_0).bind fun t303 => (if t303 = true then (if a0_1 ≥ 0 then (some (decide (a0_1 ≤ 1152921504606846976))) else (some false)) else (some false))
set_option maxHeartbeats 8000000 in
set_option maxRecDepth 100000 in
theorem sawtoothref18_Check.calls (a0_0 : Int) (a0_1 : Int) (r : Bool) (w : World) (h : sawtoothref18_Check.f a0_0 a0_1 = some r) :
  Calls Try.prog 15 #[.agg #[.int .i64 a0_0, .int .i64 a0_1]] w fun e w' => e = .returned (.bool r) ∧ Below w.heap.size w w' := by
 have hu23 := Try.underlying23; have HB := Aside0.mk (Below.refl w.heap.size w); have H : ((sawtoothref05_Check.f a0_0).bind fun t303 => (if t303 = true then (if a0_1 ≥ 0 then (some (decide (a0_1 ≤ 1152921504606846976))) else (some false)) else (some false))) = some r := h; clear h; replace H := Option.bind_eq_some_iff.mp H; obtain ⟨t303, A20, H⟩ := H; replace H : (if t303 = true then (if a0_1 ≥ 0 then (some (decide (a0_1 ≤ 1152921504606846976))) else (some false)) else (some false)) = some r := H; have A2 := Aside0.mk A20; clear A20
 by_cases c3 : t303 = true
 ·subst c3
  have H1 : (if a0_1 ≥ 0 then (some (decide (a0_1 ≤ 1152921504606846976))) else (some false)) = some r := by rw [if_pos rfl] at H; exact H
  clear H; have H := H1; clear H1
  by_cases c4 : a0_1 ≥ 0
  ·rw [if_pos c4] at H
   have c4b0 : decide (0 ≤ a0_1) = true := decide_eq_true c4; clear c4; obtain rfl := Option.some.inj H
   go_enter Try.func15, Try.ntmps15
   go_wp2_with (first | ((with_reducible refine gate_dst (N := 1) rfl ?_); refine box_event ?hg (N := 1) ?hd (cs := #[.int .i64 a0_0, .int .i64 a0_1]) (t := 23) ?hr ?_; (case hd => rfl); (case hg => rfl); (case hr => first | (go_simp; done) | (go_simp; rfl)); intro gb302 hg w5 hbox hb; have BK302 := Aside0.mk (hbox); obtain ⟨GW302, nHB⟩ := geA hg hb; have GE302 := GW302; replace HB := nHB; clear nHB; clear hb hbox hg; have hcz6_0 := czZ BK302 0 (.int .i64 a0_0); have hcz6_1 := czZ BK302 1 (.int .i64 a0_1); have hfz6_0 := blk_frozen BK302.out 0; have hfz6_1 := blk_frozen BK302.out 1) | ((with_reducible refine gate_callee (f := 30) rfl ?_); refine goesLA_ (some 6) rfl rfl Try.func30 rfl #[.int .i64 a0_0] rfl ?_; (with_reducible refine (sawtoothref05_Check.calls a0_0 true _ A2.out).mono ?_); rintro e w' ⟨rfl, ⟨nd, rfl⟩⟩; refine ⟨_, rfl, ?_⟩))
   go_ret
   exact ⟨by first | rfl | (simp [errW_none, errW_some] <;> rfl) | (simp [*, errW_none, errW_some] <;> rfl), by repeat (first | (with_reducible first | exact HB.out | apply below_alloc | apply pw_below_drewN | apply below_drew1 | refine below_set ?_ GE302.out) | exact HB.out)⟩
  ·rw [if_neg c4] at H
   have c4b0 : decide (0 ≤ a0_1) = false := decide_eq_false c4; clear c4; obtain rfl := Option.some.inj H
   go_enter Try.func15, Try.ntmps15
   go_wp2_with (first | ((with_reducible refine gate_dst (N := 1) rfl ?_); refine box_event ?hg (N := 1) ?hd (cs := #[.int .i64 a0_0, .int .i64 a0_1]) (t := 23) ?hr ?_; (case hd => rfl); (case hg => rfl); (case hr => first | (go_simp; done) | (go_simp; rfl)); intro gb302 hg w7 hbox hb; have BK302 := Aside0.mk (hbox); obtain ⟨GW302, nHB⟩ := geA hg hb; have GE302 := GW302; replace HB := nHB; clear nHB; clear hb hbox hg; have hcz8_0 := czZ BK302 0 (.int .i64 a0_0); have hcz8_1 := czZ BK302 1 (.int .i64 a0_1); have hfz8_0 := blk_frozen BK302.out 0; have hfz8_1 := blk_frozen BK302.out 1) | ((with_reducible refine gate_callee (f := 30) rfl ?_); refine goesLA_ (some 6) rfl rfl Try.func30 rfl #[.int .i64 a0_0] rfl ?_; (with_reducible refine (sawtoothref05_Check.calls a0_0 true _ A2.out).mono ?_); rintro e w' ⟨rfl, ⟨nd, rfl⟩⟩; refine ⟨_, rfl, ?_⟩))
   go_ret
   exact ⟨by first | rfl | (simp [errW_none, errW_some] <;> rfl) | (simp [*, errW_none, errW_some] <;> rfl), by repeat (first | (with_reducible first | exact HB.out | apply below_alloc | apply pw_below_drewN | apply below_drew1 | refine below_set ?_ GE302.out) | exact HB.out)⟩
 ·replace c3 := Bool.eq_false_iff.mpr c3
  subst c3
  have H1 : (some false) = some r := by rw [if_neg (show ¬ (false = true) by decide)] at H; exact H
  clear H; have H := H1; clear H1; obtain rfl := Option.some.inj H
  go_enter Try.func15, Try.ntmps15
  go_wp2_with (first | ((with_reducible refine gate_dst (N := 1) rfl ?_); refine box_event ?hg (N := 1) ?hd (cs := #[.int .i64 a0_0, .int .i64 a0_1]) (t := 23) ?hr ?_; (case hd => rfl); (case hg => rfl); (case hr => first | (go_simp; done) | (go_simp; rfl)); intro gb302 hg w9 hbox hb; have BK302 := Aside0.mk (hbox); obtain ⟨GW302, nHB⟩ := geA hg hb; have GE302 := GW302; replace HB := nHB; clear nHB; clear hb hbox hg; have hcz10_0 := czZ BK302 0 (.int .i64 a0_0); have hcz10_1 := czZ BK302 1 (.int .i64 a0_1); have hfz10_0 := blk_frozen BK302.out 0; have hfz10_1 := blk_frozen BK302.out 1) | ((with_reducible refine gate_callee (f := 30) rfl ?_); refine goesLA_ (some 6) rfl rfl Try.func30 rfl #[.int .i64 a0_0] rfl ?_; (with_reducible refine (sawtoothref05_Check.calls a0_0 false _ A2.out).mono ?_); rintro e w' ⟨rfl, ⟨nd, rfl⟩⟩; refine ⟨_, rfl, ?_⟩))
  go_ret
  exact ⟨by first | rfl | (simp [errW_none, errW_some] <;> rfl) | (simp [*, errW_none, errW_some] <;> rfl), by repeat (first | (with_reducible first | exact HB.out | apply below_alloc | apply pw_below_drewN | apply below_drew1 | refine below_set ?_ GE302.out) | exact HB.out)⟩

/-! ### sawtoothref18_CheckS: pure, behind function 15 -/
section
open Go.Proofs.Ytidpdaiolkcgnaa.Sp
noncomputable def sawtoothref18_CheckS.f (t : Int) (h : Int) : Option (Bool) := some (bOk t h)
theorem sawtoothref18_CheckS.eq {t : Int} {h : Int}  : sawtoothref18_CheckS.f t h = some (bOk t h) := rfl
theorem sawtoothref18_Check.main {t : Int} {h : Int}  : sawtoothref18_Check.f t h = some (bOk t h) := by
 unfold sawtoothref18_Check.f sawtoothref05_Check.f bOk
 by_cases c1 : 0 ≤ t <;> by_cases c2 : t ≤ 1099511627776 <;> by_cases c3 : 0 ≤ h <;> simp [c1, c2, c3]
end
theorem sawtoothref18_CheckS.calls (a0_0 : Int) (a0_1 : Int) (r : Bool) (w : World) (h : sawtoothref18_CheckS.f a0_0 a0_1 = some r) :
  Calls Try.prog 15 #[.agg #[.int .i64 a0_0, .int .i64 a0_1]] w fun e w' => e = .returned (.bool r) ∧ Below w.heap.size w w' := by
 exact sawtoothref18_Check.calls a0_0 a0_1 r w (by rw [sawtoothref18_Check.main ]; exact h)

/-! ### sawtoothref05_Step: function 24 -/
noncomputable def sawtoothref05_Step.j0 : Nat → Int → Int → Bool → Option (Int × Int)
 | 0, _, _, _ => none
 | k + 1, x0, x1, x11 => if x11 = true then (some (x0, 51)) else (if x1 < x0 then (some (x0, 50)) else (some (x1, 0)))
noncomputable def sawtoothref05_Step.f (k : Nat) (a0 : Int) (a1 : Int) : Option (Int × Int) := if a1 < 0 then (sawtoothref05_Step.j0 k a0 a1 true) else (sawtoothref05_Step.j0 k a0 a1 (decide (a1 > 1099511627776)))
theorem sawtoothref05_Step.mono_l : ∀ k, (∀ y0 y1 y2, LeO (sawtoothref05_Step.j0 k y0 y1 y2) (sawtoothref05_Step.j0 (k + 1) y0 y1 y2))
 | 0 => fun _ _ _ r h => by simp [sawtoothref05_Step.j0] at h
 | k + 1 => by
  have ih0 := sawtoothref05_Step.mono_l k
  ·intro y0 y1 y2
   unfold sawtoothref05_Step.j0
   repeat' first
   | (with_reducible exact ih0 _ _ _)
   | (with_reducible exact LeO.refl _)
   | (with_reducible exact LeO.none _)
   | (with_reducible refine LeO.ite ?_ ?_)
   | (with_reducible refine LeO.bind ?_ (fun _ => ?_))
   | exact ih0 _ _ _
   | exact LeO.none _
   | refine LeO.ite ?_ ?_
   | refine LeO.bind ?_ (fun _ => ?_)
theorem sawtoothref05_Step.mono : ∀ a0 a1 k, LeO (sawtoothref05_Step.f k a0 a1) (sawtoothref05_Step.f (k + 1) a0 a1) := by
 intro a0 a1 k; have ih0 := sawtoothref05_Step.mono_l k
 unfold sawtoothref05_Step.f
 repeat' first
   | (with_reducible exact ih0 _ _ _)
   | (with_reducible exact LeO.refl _)
   | (with_reducible exact LeO.none _)
   | (with_reducible refine LeO.ite ?_ ?_)
   | (with_reducible refine LeO.bind ?_ (fun _ => ?_))
   | exact ih0 _ _ _
   | exact LeO.none _
   | refine LeO.ite ?_ ?_
   | refine LeO.bind ?_ (fun _ => ?_)
set_option maxHeartbeats 8000000 in
set_option maxRecDepth 100000 in
theorem sawtoothref05_Step.calls (k : Nat) (a0 : Int) (a1 : Int) (r1 : Int) (r2 : Int) (w : World) (h : sawtoothref05_Step.f k a0 a1 = some (r1, r2)) :
  Calls Try.prog 24 #[.int .i64 a0, .int .i64 a1] w fun e w' => e = .returned (.tuple #[.int .i64 r1, .int .i64 r2]) ∧ Drawn0 w w' := by
 have H : (if a1 < 0 then (sawtoothref05_Step.j0 k a0 a1 true) else (sawtoothref05_Step.j0 k a0 a1 (decide (a1 > 1099511627776)))) = some (r1, r2) := h; clear h; have HC3 := Aside0.mk H; clear H
 go_enter Try.func24, Try.ntmps24
 go_upto_region 1 with (fail)
 go_cut [11] (fun v11 wc => ∃ (kq : Nat) (x11_2 : Bool), v11 = .bool x11_2 ∧ Aside0 (sawtoothref05_Step.j0 kq a0 a1 x11_2 = some (r1, r2)) ∧ Aside0 (kq ≤ k) ∧ Drawn0 w wc)
 case first =>
  have H := HC3.out; clear HC3
  by_cases c4 : a1 < 0
  ·rw [if_pos c4] at H
   have c4b0 : decide (a1 < 0) = true := decide_eq_true c4; clear c4
   (first | rw [c4b0] | (simp only [i64_w, i32_w]; rw [c4b0]) | skip)
   have H' := Aside0.mk H; clear H
   go_wp2
   go_meet
   case rel => exact ⟨_, (true), (by first | rfl | (simp; done) | (simp [*]; done)), H', ⟨by first | omega | exact Nat.le_refl _⟩, by repeat (first | exact Drawn0.refl _ | apply Drawn0.step)⟩
  ·rw [if_neg c4] at H
   have c4b0 : decide (a1 < 0) = false := decide_eq_false c4; clear c4
   (first | rw [c4b0] | (simp only [i64_w, i32_w]; rw [c4b0]) | skip)
   have H' := Aside0.mk H; clear H
   go_wp2
   go_meet
   case rel => exact ⟨_, (decide (a1 > 1099511627776)), (by first | rfl | (simp; done) | (simp [*]; done)), H', ⟨by first | omega | exact Nat.le_refl _⟩, by repeat (first | exact Drawn0.refl _ | apply Drawn0.step)⟩
 case rest =>
  clear HC3
  try clear c2
  try clear p2
  try clear c4
  try clear c4b0
  obtain ⟨kq, x11_2, rfl, HA, HJ2, ⟨mc2, rfl⟩⟩ := hcut
  cases kq with
  | zero => exact absurd HA.out (by simp [sawtoothref05_Step.j0])
  | succ kj2 =>
   have H := HA.out; clear HA; simp only [sawtoothref05_Step.j0] at H
   by_cases c5 : x11_2 = true
   ·subst c5
    have H1 : (some (a0, 51)) = some (r1, r2) := by rw [if_pos rfl] at H; exact H
    clear H; have H := H1; clear H1; simp only [Option.some.injEq, Prod.mk.injEq] at H; obtain ⟨rfl, rfl⟩ := H
    go_wp2
    go_ret2
    exact ⟨by first | rfl | (simp; done) | (simp [*]; done), by repeat (first | exact Drawn0.refl _ | apply Drawn0.step)⟩
   ·replace c5 := Bool.eq_false_iff.mpr c5
    subst c5
    have H1 : (if a1 < a0 then (some (a0, 50)) else (some (a1, 0))) = some (r1, r2) := by rw [if_neg (show ¬ (false = true) by decide)] at H; exact H
    clear H; have H := H1; clear H1
    by_cases c6 : a1 < a0
    ·rw [if_pos c6] at H
     have c6b0 : decide (a1 < a0) = true := decide_eq_true c6; clear c6; simp only [Option.some.injEq, Prod.mk.injEq] at H; obtain ⟨rfl, rfl⟩ := H
     go_wp2
     go_ret2
     exact ⟨by first | rfl | (simp; done) | (simp [*]; done), by repeat (first | exact Drawn0.refl _ | apply Drawn0.step)⟩
    ·rw [if_neg c6] at H
     have c6b0 : decide (a1 < a0) = false := decide_eq_false c6; clear c6; simp only [Option.some.injEq, Prod.mk.injEq] at H; obtain ⟨rfl, rfl⟩ := H
     go_wp2
     go_ret2
     exact ⟨by first | rfl | (simp; done) | (simp [*]; done), by repeat (first | exact Drawn0.refl _ | apply Drawn0.step)⟩

/-! ### sawtoothref05_StepS: pure, behind function 24 -/
section
open Go.Proofs.Ytidpdaiolkcgnaa.Sp
noncomputable def sawtoothref05_StepS.f (a : Int) (b : Int) : Option (Int × Int) := some (if 0 ≤ b ∧ b ≤ 1099511627776 then (if b < a then (a, 50) else (b, 0)) else (a, 51))
theorem sawtoothref05_StepS.eq {a : Int} {b : Int}  : sawtoothref05_StepS.f a b = some (if 0 ≤ b ∧ b ≤ 1099511627776 then (if b < a then (a, 50) else (b, 0)) else (a, 51)) := rfl
theorem sawtoothref05_Step.main {a : Int} {b : Int}  : sawtoothref05_Step.f 1 a b = some (if 0 ≤ b ∧ b ≤ 1099511627776 then (if b < a then (a, 50) else (b, 0)) else (a, 51)) := by
 unfold sawtoothref05_Step.f
 simp only [sawtoothref05_Step.j0]
 by_cases x : b < 0
 ·have y : ¬ (0 ≤ b ∧ b ≤ 1099511627776) := by omega
  rw [if_pos x, if_neg y]; rfl
 ·rw [if_neg x]
  by_cases y : b > 1099511627776
  ·have z : ¬ (0 ≤ b ∧ b ≤ 1099511627776) := by omega
   rw [if_pos (decide_eq_true y), if_neg z]
  ·have z : 0 ≤ b ∧ b ≤ 1099511627776 := by omega
   rw [if_neg (show ¬ decide (b > 1099511627776) = true by simp; omega), if_pos z]; split <;> rfl
end
theorem sawtoothref05_StepS.calls (a0 : Int) (a1 : Int) (r1 : Int) (r2 : Int) (w : World) (h : sawtoothref05_StepS.f a0 a1 = some (r1, r2)) :
  Calls Try.prog 24 #[.int .i64 a0, .int .i64 a1] w fun e w' => e = .returned (.tuple #[.int .i64 r1, .int .i64 r2]) ∧ Drawn0 w w' := by
 exact sawtoothref05_Step.calls 1 a0 a1 r1 r2 w (by rw [sawtoothref05_Step.main ]; exact h)

/-! ### sawtoothref01_Plus: function 41 -/
noncomputable def sawtoothref01_Plus.f (a0 : Int) (a1 : Int) : Option (Int × Int) := if a1 > 0 then (if a0 > (wrap64 (9223372036854775807 - a1)) then (some (0, 10)) else (if a1 < 0 then (if a0 < (wrap64 ((-9223372036854775808) - a1)) then (some (0, 10)) else (some (wrap64 (a0 + a1), 0))) else (some (wrap64 (a0 + a1), 0)))) else (if a1 < 0 then (if a0 < (wrap64 ((-9223372036854775808) - a1)) then (some (0, 10)) else (some (wrap64 (a0 + a1), 0))) else (some (wrap64 (a0 + a1), 0)))
set_option maxHeartbeats 8000000 in
set_option maxRecDepth 100000 in
theorem sawtoothref01_Plus.calls (a0 : Int) (a1 : Int) (r1 : Int) (r2 : Int) (w : World) (h : sawtoothref01_Plus.f a0 a1 = some (r1, r2)) :
  Calls Try.prog 41 #[.int .i64 a0, .int .i64 a1] w fun e w' => e = .returned (.tuple #[.int .i64 r1, .int .i64 r2]) ∧ Drawn0 w w' := by
 have H : (if a1 > 0 then (if a0 > (wrap64 (9223372036854775807 - a1)) then (some (0, 10)) else (if a1 < 0 then (if a0 < (wrap64 ((-9223372036854775808) - a1)) then (some (0, 10)) else (some (wrap64 (a0 + a1), 0))) else (some (wrap64 (a0 + a1), 0)))) else (if a1 < 0 then (if a0 < (wrap64 ((-9223372036854775808) - a1)) then (some (0, 10)) else (some (wrap64 (a0 + a1), 0))) else (some (wrap64 (a0 + a1), 0)))) = some (r1, r2) := h; clear h
 by_cases c3 : a1 > 0
 ·rw [if_pos c3] at H
  have c3b0 : decide (0 < a1) = true := decide_eq_true c3; clear c3
  by_cases c4 : a0 > (wrap64 (9223372036854775807 - a1))
  ·rw [if_pos c4] at H
   have c4b0 : decide ((wrap64 (9223372036854775807 - a1)) < a0) = true := decide_eq_true c4; clear c4; simp only [Option.some.injEq, Prod.mk.injEq] at H; obtain ⟨rfl, rfl⟩ := H
   go_enter Try.func41, Try.ntmps41
   go_wp2
   go_ret2
   exact ⟨by first | rfl | (simp; done) | (simp [*]; done), by repeat (first | exact Drawn0.refl _ | apply Drawn0.step)⟩
  ·rw [if_neg c4] at H
   have c4b0 : decide ((wrap64 (9223372036854775807 - a1)) < a0) = false := decide_eq_false c4; clear c4
   by_cases c5 : a1 < 0
   ·rw [if_pos c5] at H
    have c5b0 : decide (a1 < 0) = true := decide_eq_true c5; clear c5
    by_cases c6 : a0 < (wrap64 ((-9223372036854775808) - a1))
    ·rw [if_pos c6] at H
     have c6b0 : decide (a0 < (wrap64 ((-9223372036854775808) - a1))) = true := decide_eq_true c6; clear c6; simp only [Option.some.injEq, Prod.mk.injEq] at H; obtain ⟨rfl, rfl⟩ := H
     go_enter Try.func41, Try.ntmps41
     go_wp2
     go_ret2
     exact ⟨by first | rfl | (simp; done) | (simp [*]; done), by repeat (first | exact Drawn0.refl _ | apply Drawn0.step)⟩
    ·rw [if_neg c6] at H
     have c6b0 : decide (a0 < (wrap64 ((-9223372036854775808) - a1))) = false := decide_eq_false c6; clear c6; simp only [Option.some.injEq, Prod.mk.injEq] at H; obtain ⟨rfl, rfl⟩ := H
     go_enter Try.func41, Try.ntmps41
     go_wp2
     go_ret2
     exact ⟨by first | rfl | (simp; done) | (simp [*]; done), by repeat (first | exact Drawn0.refl _ | apply Drawn0.step)⟩
   ·rw [if_neg c5] at H
    have c5b0 : decide (a1 < 0) = false := decide_eq_false c5; clear c5; simp only [Option.some.injEq, Prod.mk.injEq] at H; obtain ⟨rfl, rfl⟩ := H
    go_enter Try.func41, Try.ntmps41
    go_wp2
    go_ret2
    exact ⟨by first | rfl | (simp; done) | (simp [*]; done), by repeat (first | exact Drawn0.refl _ | apply Drawn0.step)⟩
 ·rw [if_neg c3] at H
  have c3b0 : decide (0 < a1) = false := decide_eq_false c3; clear c3
  by_cases c7 : a1 < 0
  ·rw [if_pos c7] at H
   have c7b0 : decide (a1 < 0) = true := decide_eq_true c7; clear c7
   by_cases c8 : a0 < (wrap64 ((-9223372036854775808) - a1))
   ·rw [if_pos c8] at H
    have c8b0 : decide (a0 < (wrap64 ((-9223372036854775808) - a1))) = true := decide_eq_true c8; clear c8; simp only [Option.some.injEq, Prod.mk.injEq] at H; obtain ⟨rfl, rfl⟩ := H
    go_enter Try.func41, Try.ntmps41
    go_wp2
    go_ret2
    exact ⟨by first | rfl | (simp; done) | (simp [*]; done), by repeat (first | exact Drawn0.refl _ | apply Drawn0.step)⟩
   ·rw [if_neg c8] at H
    have c8b0 : decide (a0 < (wrap64 ((-9223372036854775808) - a1))) = false := decide_eq_false c8; clear c8; simp only [Option.some.injEq, Prod.mk.injEq] at H; obtain ⟨rfl, rfl⟩ := H
    go_enter Try.func41, Try.ntmps41
    go_wp2
    go_ret2
    exact ⟨by first | rfl | (simp; done) | (simp [*]; done), by repeat (first | exact Drawn0.refl _ | apply Drawn0.step)⟩
  ·rw [if_neg c7] at H
   have c7b0 : decide (a1 < 0) = false := decide_eq_false c7; clear c7; simp only [Option.some.injEq, Prod.mk.injEq] at H; obtain ⟨rfl, rfl⟩ := H
   go_enter Try.func41, Try.ntmps41
   go_wp2
   go_ret2
   exact ⟨by first | rfl | (simp; done) | (simp [*]; done), by repeat (first | exact Drawn0.refl _ | apply Drawn0.step)⟩

end Go.Proofs.Ytidpdaiolkcgnaa.Px
