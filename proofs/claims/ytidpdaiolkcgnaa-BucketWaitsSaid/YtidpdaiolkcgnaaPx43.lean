/- Printed by a program of this session (wip/tool/px.py), over the kit's print: for each Go function a Lean function, and the proof that the machine's call answers as that function says. Conditions: none beside what the theorems state. -/
import Derived.Test.YtidpdaiolkcgnaaPx0
import Derived.Test.YtidpdaiolkcgnaaPx1
import Derived.Test.YtidpdaiolkcgnaaPx4
import Derived.Test.YtidpdaiolkcgnaaPx6
import Derived.Test.YtidpdaiolkcgnaaPx27
namespace Go.Proofs.Ytidpdaiolkcgnaa.Px
open Go.RowKit Go.Proofs.YtidpdaiolkcgnaaW.PrintWords Go.Proofs.YtidpdaiolkcgnaaW.PrintLast Go.Proofs.YtidpdaiolkcgnaaW.PrintMore
attribute [local go_sem] max2_int min2_int max_two min_two max_three min_three max_four min_four   -- for this text's walks alone
set_option linter.unusedVariables false
set_option linter.unusedSimpArgs false

attribute [local go_sem high] eqA23
/-! ### sawtoothlaw18_BucketWaits: function 5 -/
noncomputable def sawtoothlaw18_BucketWaits.j0 : Nat → Bool → Int → Int → Int → Bool → Int → Int → Option (Bool)
 | 0, _, _, _, _, _, _, _ => none
 | k + 1, x7, x8, x9, x10, x36, x510000, x510001 => if x36 = true then (if x7 = true then ((bucket_CheckS.f x510000 x510001).bind fun t513 => (if t513 = true then (some true) else (some (x10 == 0)))) else (none)) else ((bucket_FillS.f x510000 x510001 (wrap64 (x510000 + x10)) x8 x9).bind fun bt514 => ((bucket_FillS.f x510000 x510001 (wrap64 ((wrap64 (x510000 + (mx x10 1))) - 1)) x8 x9).bind fun bt518 => (if x7 = true then (if bt514.2.2 = 0 then (if bt518.2.2 = 0 then ((bucket_BytesS.f bt514.1 bt514.2.1).bind fun t522 => (if t522 ≥ x9 then (if x10 = 0 then (some true) else ((bucket_BytesS.f bt518.1 bt518.2.1).bind fun t523 => (some (decide (t523 < x9))))) else (none))) else (none)) else (none)) else (none))))
noncomputable def sawtoothlaw18_BucketWaits.f (k : Nat) (a0_0 : Int) (a0_1 : Int) (a1 : Int) (a2 : Int) : Option (Bool) := (sawtoothlaw18_awakeS.f).bind fun t510 => ((bucket_WaitS.f a0_0 a0_1 (wrap64 (a1)) (wrap64 (1 + (wrap64 (a2))))).bind fun t511 => ((bucket_CheckS.f a0_0 a0_1).bind fun t512 => (if t512 = true then (if a0_0 > 549755813888 then (sawtoothlaw18_BucketWaits.j0 k t510 (wrap64 (1 + (wrap64 (a2)))) (wrap64 (a1)) t511 true a0_0 a0_1) else (sawtoothlaw18_BucketWaits.j0 k t510 (wrap64 (1 + (wrap64 (a2)))) (wrap64 (a1)) t511 (decide (t511 > 274877906944)) a0_0 a0_1)) else (sawtoothlaw18_BucketWaits.j0 k t510 (wrap64 (1 + (wrap64 (a2)))) (wrap64 (a1)) t511 true a0_0 a0_1))))
theorem sawtoothlaw18_BucketWaits.mono_l : ∀ k, (∀ y0 y1 y2 y3 y4 y5 y6, LeO (sawtoothlaw18_BucketWaits.j0 k y0 y1 y2 y3 y4 y5 y6) (sawtoothlaw18_BucketWaits.j0 (k + 1) y0 y1 y2 y3 y4 y5 y6))
 | 0 => fun _ _ _ _ _ _ _ r h => by simp [sawtoothlaw18_BucketWaits.j0] at h
 | k + 1 => by
  have ih0 := sawtoothlaw18_BucketWaits.mono_l k
  ·intro y0 y1 y2 y3 y4 y5 y6
   unfold sawtoothlaw18_BucketWaits.j0
   repeat' first
   | (with_reducible exact ih0 _ _ _ _ _ _ _)
   | (with_reducible exact LeO.refl _)
   | (with_reducible exact LeO.none _)
   | (with_reducible refine LeO.ite ?_ ?_)
   | (with_reducible refine LeO.bind ?_ (fun _ => ?_))
   | exact ih0 _ _ _ _ _ _ _
   | exact LeO.none _
   | refine LeO.ite ?_ ?_
   | refine LeO.bind ?_ (fun _ => ?_)
theorem sawtoothlaw18_BucketWaits.mono : ∀ a0 a1 a2 a3 k, LeO (sawtoothlaw18_BucketWaits.f k a0 a1 a2 a3) (sawtoothlaw18_BucketWaits.f (k + 1) a0 a1 a2 a3) := by
 intro a0 a1 a2 a3 k; have ih0 := sawtoothlaw18_BucketWaits.mono_l k
 unfold sawtoothlaw18_BucketWaits.f
 repeat' first
   | (with_reducible exact ih0 _ _ _ _ _ _ _)
   | (with_reducible exact LeO.refl _)
   | (with_reducible exact LeO.none _)
   | (with_reducible refine LeO.ite ?_ ?_)
   | (with_reducible refine LeO.bind ?_ (fun _ => ?_))
   | exact ih0 _ _ _ _ _ _ _
   | exact LeO.none _
   | refine LeO.ite ?_ ?_
   | refine LeO.bind ?_ (fun _ => ?_)
set_option maxHeartbeats 8000000 in
set_option maxRecDepth 100000 in
theorem sawtoothlaw18_BucketWaits.calls (k : Nat) (a0_0 : Int) (a0_1 : Int) (a1 : Int) (a2 : Int) (r : Bool) (w : World) (h : sawtoothlaw18_BucketWaits.f k a0_0 a0_1 a1 a2 = some r) :
  Calls Try.prog 5 #[.agg #[.int .i64 a0_0, .int .i64 a0_1], .int .u16 a1, .int .u32 a2] w fun e w' => e = .returned (.bool r) ∧ Below w.heap.size w w' := by
 have hu23 := Try.underlying23; have HB := Aside0.mk (Below.refl w.heap.size w); have H : ((sawtoothlaw18_awakeS.f).bind fun t510 => ((bucket_WaitS.f a0_0 a0_1 (wrap64 (a1)) (wrap64 (1 + (wrap64 (a2))))).bind fun t511 => ((bucket_CheckS.f a0_0 a0_1).bind fun t512 => (if t512 = true then (if a0_0 > 549755813888 then (sawtoothlaw18_BucketWaits.j0 k t510 (wrap64 (1 + (wrap64 (a2)))) (wrap64 (a1)) t511 true a0_0 a0_1) else (sawtoothlaw18_BucketWaits.j0 k t510 (wrap64 (1 + (wrap64 (a2)))) (wrap64 (a1)) t511 (decide (t511 > 274877906944)) a0_0 a0_1)) else (sawtoothlaw18_BucketWaits.j0 k t510 (wrap64 (1 + (wrap64 (a2)))) (wrap64 (a1)) t511 true a0_0 a0_1))))) = some r := h; clear h; replace H := Option.bind_eq_some_iff.mp H; obtain ⟨t510, A40, H⟩ := H; (try dsimp only at H); have A4 := Aside0.mk A40; clear A40; replace H := Option.bind_eq_some_iff.mp H; obtain ⟨t511, A50, H⟩ := H; (try dsimp only at H); have A5 := Aside0.mk A50; clear A50; have HC6 := Aside0.mk H; clear H
 go_enter Try.func5, Try.ntmps5
 go_upto_region 5 with (first | ((with_reducible refine gate_dst (N := 3) rfl ?_); refine box_event ?hg (N := 3) ?hd (cs := #[.int .i64 a0_0, .int .i64 a0_1]) (t := 23) ?hr ?_; (case hd => rfl); (case hg => rfl); (case hr => first | (go_simp; done) | (go_simp; rfl)); intro gb509 hg w7 hbox hb; have BK509 := Aside0.mk (hbox); obtain ⟨GW509, nHB⟩ := geA hg hb; have GE509 := GW509; replace HB := nHB; clear nHB; clear hb hbox hg) | ((with_reducible refine gate_callee (f := 9) rfl ?_); refine goesLA_ (some 15) rfl rfl Try.func9 rfl #[] rfl ?_; (with_reducible refine (sawtoothlaw18_awakeS.calls  t510 _ A4.out).mono ?_); rintro e w8 ⟨rfl, hb⟩; refine ⟨_, rfl, ?_⟩; replace BK509 := bdZ BK509 hb; replace HB := stA hb; clear hb; have hcz9_0 := czZ BK509 0 (.int .i64 a0_0); have hcz9_1 := czZ BK509 1 (.int .i64 a0_1); have hfz9_0 := blk_frozen BK509.out 0; have hfz9_1 := blk_frozen BK509.out 1) | ((with_reducible refine gate_callee (f := 16) rfl ?_); refine goesLA_ (some 24) rfl rfl Try.func16 rfl #[.agg #[.int .i64 a0_0, .int .i64 a0_1], .int .i64 (wrap64 (a1)), .int .i64 (wrap64 (1 + (wrap64 (a2))))] rfl ?_; (with_reducible refine (bucket_WaitS.calls a0_0 a0_1 (wrap64 (a1)) (wrap64 (1 + (wrap64 (a2)))) t511 _ A5.out).mono ?_); rintro e w10 ⟨rfl, hb⟩; refine ⟨_, rfl, ?_⟩; replace BK509 := bdZ BK509 hb; replace HB := stA hb; clear hb))
 (try simp only [Act.put, sA, sB, sC])
 go_cut [36] (fun v36 wc => ∃ (kq : Nat) (x36_5 : Bool), v36 = .bool x36_5 ∧ Aside0 (sawtoothlaw18_BucketWaits.j0 kq t510 (wrap64 (1 + (wrap64 (a2)))) (wrap64 (a1)) t511 x36_5 a0_0 a0_1 = some r) ∧ Aside0 (kq ≤ k) ∧ Aside0 (wc.heap[gb509]? = some (.cells #[.int .i64 a0_0, .int .i64 a0_1] 23 (0, 0))) ∧ Aside0 (Below w.heap.size w wc))
 case first =>
  have H := HC6.out; clear HC6; replace H := Option.bind_eq_some_iff.mp H; obtain ⟨t512, A110, H⟩ := H; (try dsimp only at H); have A11 := Aside0.mk A110; clear A110
  by_cases c12 : t512 = true
  ·subst c12
   have H1 : (if a0_0 > 549755813888 then (sawtoothlaw18_BucketWaits.j0 k t510 (wrap64 (1 + (wrap64 (a2)))) (wrap64 (a1)) t511 true a0_0 a0_1) else (sawtoothlaw18_BucketWaits.j0 k t510 (wrap64 (1 + (wrap64 (a2)))) (wrap64 (a1)) t511 (decide (t511 > 274877906944)) a0_0 a0_1)) = some r := by rw [if_pos rfl] at H; exact H
   clear H; have H := H1; clear H1
   by_cases c13 : a0_0 > 549755813888
   ·rw [if_pos c13] at H
    have c13b0 : decide (549755813888 < a0_0) = true := decide_eq_true c13; clear c13
    (first | rw [c13b0] | (simp only [i64_w, i32_w]; rw [c13b0]) | skip)
    have H' := Aside0.mk H; clear H; have hcz14_0 := czZ BK509 0 (.int .i64 a0_0); have hcz14_1 := czZ BK509 1 (.int .i64 a0_1); have hfz14_0 := blk_frozen BK509.out 0; have hfz14_1 := blk_frozen BK509.out 1
    go_wp2_with (first | ((with_reducible refine gate_callee (f := 14) rfl ?_); refine goesLA_ (some 26) rfl rfl Try.func14 rfl #[.agg #[.int .i64 a0_0, .int .i64 a0_1]] rfl ?_; (with_reducible refine (bucket_CheckS.calls a0_0 a0_1 true _ A11.out).mono ?_); rintro e w15 ⟨rfl, hb⟩; refine ⟨_, rfl, ?_⟩; replace BK509 := bdZ BK509 hb; replace HB := stA hb; clear hb; have hcz16_0 := czZ BK509 0 (.int .i64 a0_0); have hcz16_1 := czZ BK509 1 (.int .i64 a0_1); have hfz16_0 := blk_frozen BK509.out 0; have hfz16_1 := blk_frozen BK509.out 1))
    go_meet
    case rel => exact ⟨_, (true), (by first | rfl | (simp; done) | (simp [*]; done)), H', ⟨by first | omega | exact Nat.le_refl _⟩, ⟨by (with_reducible repeat first | apply blk_drewN | apply blk_drew | apply blk_alloc); exact BK509.out⟩, ⟨by repeat (first | (with_reducible first | exact HB.out | apply below_alloc | apply pw_below_drewN | apply below_drew1 | refine below_set ?_ GE509.out) | exact HB.out)⟩⟩
   ·rw [if_neg c13] at H
    have c13b0 : decide (549755813888 < a0_0) = false := decide_eq_false c13; clear c13
    (first | rw [c13b0] | (simp only [i64_w, i32_w]; rw [c13b0]) | skip)
    have H' := Aside0.mk H; clear H; have hcz17_0 := czZ BK509 0 (.int .i64 a0_0); have hcz17_1 := czZ BK509 1 (.int .i64 a0_1); have hfz17_0 := blk_frozen BK509.out 0; have hfz17_1 := blk_frozen BK509.out 1
    go_wp2_with (first | ((with_reducible refine gate_callee (f := 14) rfl ?_); refine goesLA_ (some 26) rfl rfl Try.func14 rfl #[.agg #[.int .i64 a0_0, .int .i64 a0_1]] rfl ?_; (with_reducible refine (bucket_CheckS.calls a0_0 a0_1 true _ A11.out).mono ?_); rintro e w18 ⟨rfl, hb⟩; refine ⟨_, rfl, ?_⟩; replace BK509 := bdZ BK509 hb; replace HB := stA hb; clear hb; have hcz19_0 := czZ BK509 0 (.int .i64 a0_0); have hcz19_1 := czZ BK509 1 (.int .i64 a0_1); have hfz19_0 := blk_frozen BK509.out 0; have hfz19_1 := blk_frozen BK509.out 1))
    go_meet
    case rel => exact ⟨_, (decide (t511 > 274877906944)), (by first | rfl | (simp; done) | (simp [*]; done)), H', ⟨by first | omega | exact Nat.le_refl _⟩, ⟨by (with_reducible repeat first | apply blk_drewN | apply blk_drew | apply blk_alloc); exact BK509.out⟩, ⟨by repeat (first | (with_reducible first | exact HB.out | apply below_alloc | apply pw_below_drewN | apply below_drew1 | refine below_set ?_ GE509.out) | exact HB.out)⟩⟩
  ·replace c12 := Bool.eq_false_iff.mpr c12
   subst c12
   have H1 : (sawtoothlaw18_BucketWaits.j0 k t510 (wrap64 (1 + (wrap64 (a2)))) (wrap64 (a1)) t511 true a0_0 a0_1) = some r := by rw [if_neg (show ¬ (false = true) by decide)] at H; exact H
   clear H; have H := H1; clear H1; have H' := Aside0.mk H; clear H; have hcz20_0 := czZ BK509 0 (.int .i64 a0_0); have hcz20_1 := czZ BK509 1 (.int .i64 a0_1); have hfz20_0 := blk_frozen BK509.out 0; have hfz20_1 := blk_frozen BK509.out 1
   go_wp2_with (first | ((with_reducible refine gate_callee (f := 14) rfl ?_); refine goesLA_ (some 26) rfl rfl Try.func14 rfl #[.agg #[.int .i64 a0_0, .int .i64 a0_1]] rfl ?_; (with_reducible refine (bucket_CheckS.calls a0_0 a0_1 false _ A11.out).mono ?_); rintro e w21 ⟨rfl, hb⟩; refine ⟨_, rfl, ?_⟩; replace BK509 := bdZ BK509 hb; replace HB := stA hb; clear hb))
   go_meet
   case rel => exact ⟨_, (true), (by first | rfl | (simp; done) | (simp [*]; done)), H', ⟨by first | omega | exact Nat.le_refl _⟩, ⟨by (with_reducible repeat first | apply blk_drewN | apply blk_drew | apply blk_alloc); exact BK509.out⟩, ⟨by repeat (first | (with_reducible first | exact HB.out | apply below_alloc | apply pw_below_drewN | apply below_drew1 | refine below_set ?_ GE509.out) | exact HB.out)⟩⟩
 case rest =>
  clear HC6
  try clear c1
  try clear p2
  try clear c5
  try clear p6
  try clear c9
  try clear c12
  try clear c13
  try clear c13b0
  try clear c14
  try clear c16
  try clear hcz14_0
  try clear hcz14_1
  try clear hcz16_0
  try clear hcz16_1
  try clear hcz17_0
  try clear hcz17_1
  try clear hcz19_0
  try clear hcz19_1
  try clear hcz20_0
  try clear hcz20_1
  try clear hcz9_0
  try clear hcz9_1
  try clear hfz14_0
  try clear hfz14_1
  try clear hfz16_0
  try clear hfz16_1
  try clear hfz17_0
  try clear hfz17_1
  try clear hfz19_0
  try clear hfz19_1
  try clear hfz20_0
  try clear hfz20_1
  try clear hfz9_0
  try clear hfz9_1
  obtain ⟨kq, x36_5, rfl, HA, HJ5, BK509, HB⟩ := hcut
  cases kq with
  | zero => exact absurd HA.out (by simp [sawtoothlaw18_BucketWaits.j0])
  | succ kj5 =>
   have H := HA.out; clear HA; simp only [sawtoothlaw18_BucketWaits.j0] at H
   by_cases c22 : x36_5 = true
   ·subst c22
    have H1 : (if t510 = true then ((bucket_CheckS.f a0_0 a0_1).bind fun t513 => (if t513 = true then (some true) else (some (t511 == 0)))) else (none)) = some r := by rw [if_pos rfl] at H; exact H
    clear H; have H := H1; clear H1
    by_cases c23 : t510 = true
    ·subst c23
     have H1 : ((bucket_CheckS.f a0_0 a0_1).bind fun t513 => (if t513 = true then (some true) else (some (t511 == 0)))) = some r := by rw [if_pos rfl] at H; exact H
     clear H; have H := H1; clear H1; replace H := Option.bind_eq_some_iff.mp H; obtain ⟨t513, A240, H⟩ := H; replace H : (if t513 = true then (some true) else (some (t511 == 0))) = some r := H; have A24 := Aside0.mk A240; clear A240
     by_cases c25 : t513 = true
     ·subst c25
      have H1 : (some true) = some r := by rw [if_pos rfl] at H; exact H
      clear H; have H := H1; clear H1; obtain rfl := Option.some.inj H; have hcz26_0 : wc.cell? ⟨gb509, 0, none⟩ = some (.int .i64 a0_0) := (blk_cell BK509.out 0).trans rfl; have hcz26_1 : wc.cell? ⟨gb509, 1, none⟩ = some (.int .i64 a0_1) := (blk_cell BK509.out 1).trans rfl; have hfz26_0 := blk_frozen BK509.out 0; have hfz26_1 := blk_frozen BK509.out 1
      go_wp2_with (first | (go_at_call 14; (with_reducible refine (bucket_CheckS.calls a0_0 a0_1 true _ A24.out).mono ?_); rintro e w27 ⟨rfl, hb⟩; replace BK509 := bdZ BK509 hb; replace HB := stA hb; clear hb))
      go_ret
      exact ⟨by first | rfl | (simp [errW_none, errW_some] <;> rfl) | (simp [*, errW_none, errW_some] <;> rfl), by repeat (first | (with_reducible first | exact HB.out | apply below_alloc | apply pw_below_drewN | apply below_drew1 | refine below_set ?_ GE509.out) | exact HB.out)⟩
     ·replace c25 := Bool.eq_false_iff.mpr c25
      subst c25
      have H1 : (some (t511 == 0)) = some r := by rw [if_neg (show ¬ (false = true) by decide)] at H; exact H
      clear H; have H := H1; clear H1; obtain rfl := Option.some.inj H; have hcz28_0 : wc.cell? ⟨gb509, 0, none⟩ = some (.int .i64 a0_0) := (blk_cell BK509.out 0).trans rfl; have hcz28_1 : wc.cell? ⟨gb509, 1, none⟩ = some (.int .i64 a0_1) := (blk_cell BK509.out 1).trans rfl; have hfz28_0 := blk_frozen BK509.out 0; have hfz28_1 := blk_frozen BK509.out 1
      go_wp2_with (first | (go_at_call 14; (with_reducible refine (bucket_CheckS.calls a0_0 a0_1 false _ A24.out).mono ?_); rintro e w29 ⟨rfl, hb⟩; replace BK509 := bdZ BK509 hb; replace HB := stA hb; clear hb))
      go_ret
      exact ⟨by first | rfl | (simp [errW_none, errW_some] <;> rfl) | (simp [*, errW_none, errW_some] <;> rfl), by repeat (first | (with_reducible first | exact HB.out | apply below_alloc | apply pw_below_drewN | apply below_drew1 | refine below_set ?_ GE509.out) | exact HB.out)⟩
    ·replace c23 := Bool.eq_false_iff.mpr c23
     subst c23
     have H1 : (none) = some r := by rw [if_neg (show ¬ (false = true) by decide)] at H; exact H
     clear H; have H := H1; clear H1; exact absurd H (by simp)
   ·replace c22 := Bool.eq_false_iff.mpr c22
    subst c22
    have H1 : ((bucket_FillS.f a0_0 a0_1 (wrap64 (a0_0 + t511)) (wrap64 (1 + (wrap64 (a2)))) (wrap64 (a1))).bind fun bt514 => ((bucket_FillS.f a0_0 a0_1 (wrap64 ((wrap64 (a0_0 + (mx t511 1))) - 1)) (wrap64 (1 + (wrap64 (a2)))) (wrap64 (a1))).bind fun bt518 => (if t510 = true then (if bt514.2.2 = 0 then (if bt518.2.2 = 0 then ((bucket_BytesS.f bt514.1 bt514.2.1).bind fun t522 => (if t522 ≥ (wrap64 (a1)) then (if t511 = 0 then (some true) else ((bucket_BytesS.f bt518.1 bt518.2.1).bind fun t523 => (some (decide (t523 < (wrap64 (a1))))))) else (none))) else (none)) else (none)) else (none)))) = some r := by rw [if_neg (show ¬ (false = true) by decide)] at H; exact H
    clear H; have H := H1; clear H1; replace H := Option.bind_eq_some_iff.mp H; obtain ⟨⟨t514, t515, t516⟩, A300, H⟩ := H; (try dsimp only at H); have A30 := Aside0.mk A300; clear A300
    obtain ⟨ji31, hji31⟩ : ∃ j_ : Int, (mx t511 1) = j_ := ⟨_, rfl⟩
    replace H : ((bucket_FillS.f a0_0 a0_1 (wrap64 ((wrap64 (a0_0 + (ji31))) - 1)) (wrap64 (1 + (wrap64 (a2)))) (wrap64 (a1))).bind fun bt518 => (if t510 = true then (if t516 = 0 then (if bt518.2.2 = 0 then ((bucket_BytesS.f t514 t515).bind fun t522 => (if t522 ≥ (wrap64 (a1)) then (if t511 = 0 then (some true) else ((bucket_BytesS.f bt518.1 bt518.2.1).bind fun t523 => (some (decide (t523 < (wrap64 (a1))))))) else (none))) else (none)) else (none)) else (none))) = some r := by first | (rw [hji31] at H; exact H) | (simp only [hji31] at H ⊢; exact H)
    (try rw [hji31] at A30)
    have hji31_ : (if t511 < 1 then 1 else t511) = ji31 := hji31; replace H := Option.bind_eq_some_iff.mp H; obtain ⟨⟨t518, t519, t520⟩, A320, H⟩ := H; (try dsimp only at H); have A32 := Aside0.mk A320; clear A320
    by_cases c33 : t510 = true
    ·subst c33
     have H1 : (if t516 = 0 then (if t520 = 0 then ((bucket_BytesS.f t514 t515).bind fun t522 => (if t522 ≥ (wrap64 (a1)) then (if t511 = 0 then (some true) else ((bucket_BytesS.f t518 t519).bind fun t523 => (some (decide (t523 < (wrap64 (a1))))))) else (none))) else (none)) else (none)) = some r := by rw [if_pos rfl] at H; exact H
     clear H; have H := H1; clear H1
     by_cases c34 : t516 = 0
     ·rw [if_pos c34] at H
      have c34b0 : (t516 == 0) = true := beq_iff_eq.mpr c34; have c34b1 : (t516 != 0) = false := bne_eq_false_iff_eq.mpr c34; clear c34
      by_cases c35 : t520 = 0
      ·rw [if_pos c35] at H
       have c35b0 : (t520 == 0) = true := beq_iff_eq.mpr c35; have c35b1 : (t520 != 0) = false := bne_eq_false_iff_eq.mpr c35; clear c35; replace H := Option.bind_eq_some_iff.mp H; obtain ⟨t522, A360, H⟩ := H; replace H : (if t522 ≥ (wrap64 (a1)) then (if t511 = 0 then (some true) else ((bucket_BytesS.f t518 t519).bind fun t523 => (some (decide (t523 < (wrap64 (a1))))))) else (none)) = some r := H; have A36 := Aside0.mk A360; clear A360
       by_cases c37 : t522 ≥ (wrap64 (a1))
       ·rw [if_pos c37] at H
        have c37b0 : decide ((wrap64 (a1)) ≤ t522) = true := decide_eq_true c37; clear c37
        by_cases c38 : t511 = 0
        ·rw [if_pos c38] at H
         have c38b0 : (t511 == 0) = true := beq_iff_eq.mpr c38; have c38b1 : (t511 != 0) = false := bne_eq_false_iff_eq.mpr c38; clear c38; obtain rfl := Option.some.inj H; have hcz39_0 : wc.cell? ⟨gb509, 0, none⟩ = some (.int .i64 a0_0) := (blk_cell BK509.out 0).trans rfl; have hcz39_1 : wc.cell? ⟨gb509, 1, none⟩ = some (.int .i64 a0_1) := (blk_cell BK509.out 1).trans rfl; have hfz39_0 := blk_frozen BK509.out 0; have hfz39_1 := blk_frozen BK509.out 1
         go_wp2_with (first | ((with_reducible refine gate_callee (f := 10) rfl ?_); refine goesLA_ (some 54) rfl rfl Try.func10 rfl #[.agg #[.int .i64 a0_0, .int .i64 a0_1], .int .i64 (wrap64 (a0_0 + t511)), .int .i64 (wrap64 (1 + (wrap64 (a2)))), .int .i64 (wrap64 (a1))] rfl ?_; (with_reducible refine (bucket_FillS.calls a0_0 a0_1 (wrap64 (a0_0 + t511)) (wrap64 (1 + (wrap64 (a2)))) (wrap64 (a1)) t514 t515 t516 _ A30.out).mono ?_); rintro e w40 ⟨rfl, hb⟩; refine ⟨_, rfl, ?_⟩; replace BK509 := bdZ BK509 hb; replace HB := stA hb; clear hb) | ((with_reducible refine gate_dst (N := 11) rfl ?_); refine box_event ?hg (N := 11) ?hd (cs := #[.int .i64 0, .int .i64 0]) (t := 23) ?hr ?_; (case hd => rfl); (case hg => rfl); (case hr => first | (go_simp; done) | (go_simp; rfl)); intro gb517 hg w41 hbox hb; have BK517 := Aside0.mk (hbox); obtain ⟨GW517, nHB⟩ := geA hg hb; have GE517 := GW517; obtain ⟨NB509_517, NB517_509, nBK⟩ := nbA BK509 hg hb; replace BK509 := nBK; clear nBK; replace HB := nHB; clear nHB; clear hb hbox hg; have hnb42 := NB517_509.out; have hnc42 := NB509_517.out; have hcz43_0 := czZ BK517 0 (.int .i64 0); have hcz43_1 := czZ BK517 1 (.int .i64 0); have hfz43_0 := blk_frozen BK517.out 0; have hfz43_1 := blk_frozen BK517.out 1; have hcz44_0 := czZ BK509 0 (.int .i64 a0_0); have hcz44_1 := czZ BK509 1 (.int .i64 a0_1); have hfz44_0 := blk_frozen BK509.out 0; have hfz44_1 := blk_frozen BK509.out 1) | ((with_reducible refine gate_callee (f := 10) rfl ?_); refine goesL_ (some 67) rfl rfl Try.func10 (by kernel_rfl) rfl #[.agg #[.int .i64 a0_0, .int .i64 a0_1], .int .i64 (wrap64 ((wrap64 (a0_0 + (ji31))) - 1)), .int .i64 (wrap64 (1 + (wrap64 (a2)))), .int .i64 (wrap64 (a1))] rfl (by (try simp only [List.map_toArray, List.map_cons, List.map_nil]); first | done | (simp only [hji31]; rfl) | rfl | (simp only [List.length_drop, List.length_take]; rfl)) ?_; (with_reducible refine (bucket_FillS.calls a0_0 a0_1 (wrap64 ((wrap64 (a0_0 + (ji31))) - 1)) (wrap64 (1 + (wrap64 (a2)))) (wrap64 (a1)) t518 t519 t520 _ A32.out).mono ?_); rintro e w45 ⟨rfl, hb⟩; refine ⟨_, rfl, ?_⟩; replace BK509 := bfZ BK509 (fun h_ => by (with_reducible repeat first | apply blk_drewN | apply blk_drew | apply blk_alloc | refine farZ ?_ NB509_517 _); exact h_) hb; replace BK517 := Aside0.mk (blk_below (g := gb517) (o := .cells #[.int .i64 t514, .int .i64 t515] 23 (0, 0)) (by (with_reducible repeat first | apply blk_drewN | apply blk_drew | apply blk_alloc); refine blk_put (cs := #[.int .i64 t514, .int .i64 0]) ?_ 1 _ rfl; (with_reducible repeat first | apply blk_drewN | apply blk_drew | apply blk_alloc); refine blk_put (cs := #[.int .i64 0, .int .i64 0]) ?_ 0 _ rfl; (with_reducible repeat first | apply blk_drewN | apply blk_drew | apply blk_alloc); exact BK517.out) hb); replace HB := stA hb; clear hb) | ((with_reducible refine gate_dst (N := 13) rfl ?_); refine box_event ?hg (N := 13) ?hd (cs := #[.int .i64 0, .int .i64 0]) (t := 23) ?hr ?_; (case hd => rfl); (case hg => rfl); (case hr => first | (go_simp; done) | (go_simp; rfl)); intro gb521 hg w46 hbox hb; have BK521 := Aside0.mk (hbox); obtain ⟨GW521, nHB⟩ := geA hg hb; have GE521 := GW521; obtain ⟨NB509_521, NB521_509, nBK⟩ := nbA BK509 hg hb; replace BK509 := nBK; clear nBK; obtain ⟨NB517_521, NB521_517, nBK⟩ := nbA BK517 hg hb; replace BK517 := nBK; clear nBK; replace HB := nHB; clear nHB; clear hb hbox hg; have hnb47 := NB521_509.out; have hnc47 := NB509_521.out; have hnb48 := NB521_517.out; have hnc48 := NB517_521.out; have hcz49_0 := czZ BK521 0 (.int .i64 0); have hcz49_1 := czZ BK521 1 (.int .i64 0); have hfz49_0 := blk_frozen BK521.out 0; have hfz49_1 := blk_frozen BK521.out 1; have hcz50_0 := czZ BK517 0 (.int .i64 t514); have hcz50_1 := czZ BK517 1 (.int .i64 t515); have hfz50_0 := blk_frozen BK517.out 0; have hfz50_1 := blk_frozen BK517.out 1) | (go_at_call 18; (with_reducible refine (bucket_BytesS.calls t514 t515 t522 _ A36.out).mono ?_); rintro e w51 ⟨rfl, hb⟩; replace BK509 := bfZ BK509 (fun h_ => by (with_reducible repeat first | apply blk_drewN | apply blk_drew | apply blk_alloc | refine farZ ?_ NB509_521 _); exact h_) hb; replace BK517 := bfZ BK517 (fun h_ => by (with_reducible repeat first | apply blk_drewN | apply blk_drew | apply blk_alloc | refine farZ ?_ NB517_521 _); exact h_) hb; replace BK521 := Aside0.mk (blk_below (g := gb521) (o := .cells #[.int .i64 t518, .int .i64 t519] 23 (0, 0)) (by (with_reducible repeat first | apply blk_drewN | apply blk_drew | apply blk_alloc); refine blk_put (cs := #[.int .i64 t518, .int .i64 0]) ?_ 1 _ rfl; (with_reducible repeat first | apply blk_drewN | apply blk_drew | apply blk_alloc); refine blk_put (cs := #[.int .i64 0, .int .i64 0]) ?_ 0 _ rfl; (with_reducible repeat first | apply blk_drewN | apply blk_drew | apply blk_alloc); exact BK521.out) hb); replace HB := stA hb; clear hb))
         go_ret
         exact ⟨by first | rfl | (simp [errW_none, errW_some] <;> rfl) | (simp only [← hji31]; first | rfl | (simp [errW_none, errW_some] <;> rfl)) | (simp [*, errW_none, errW_some] <;> rfl), by repeat (first | (with_reducible first | exact HB.out | apply below_alloc | apply pw_below_drewN | apply below_drew1 | refine below_set ?_ (Aside0.out (by assumption))) | exact HB.out)⟩
        ·rw [if_neg c38] at H
         have c38b0 : (t511 == 0) = false := beq_eq_false_iff_ne.mpr c38; have c38b1 : (t511 != 0) = true := bne_iff_ne.mpr c38; replace H := Option.bind_eq_some_iff.mp H; obtain ⟨t523, A520, H⟩ := H; replace H : (some (decide (t523 < (wrap64 (a1))))) = some r := H; have A52 := Aside0.mk A520; clear A520; obtain rfl := Option.some.inj H; have hcz53_0 : wc.cell? ⟨gb509, 0, none⟩ = some (.int .i64 a0_0) := (blk_cell BK509.out 0).trans rfl; have hcz53_1 : wc.cell? ⟨gb509, 1, none⟩ = some (.int .i64 a0_1) := (blk_cell BK509.out 1).trans rfl; have hfz53_0 := blk_frozen BK509.out 0; have hfz53_1 := blk_frozen BK509.out 1
         go_wp2_with (first | ((with_reducible refine gate_callee (f := 10) rfl ?_); refine goesLA_ (some 54) rfl rfl Try.func10 rfl #[.agg #[.int .i64 a0_0, .int .i64 a0_1], .int .i64 (wrap64 (a0_0 + t511)), .int .i64 (wrap64 (1 + (wrap64 (a2)))), .int .i64 (wrap64 (a1))] rfl ?_; (with_reducible refine (bucket_FillS.calls a0_0 a0_1 (wrap64 (a0_0 + t511)) (wrap64 (1 + (wrap64 (a2)))) (wrap64 (a1)) t514 t515 t516 _ A30.out).mono ?_); rintro e w54 ⟨rfl, hb⟩; refine ⟨_, rfl, ?_⟩; replace BK509 := bdZ BK509 hb; replace HB := stA hb; clear hb) | ((with_reducible refine gate_dst (N := 11) rfl ?_); refine box_event ?hg (N := 11) ?hd (cs := #[.int .i64 0, .int .i64 0]) (t := 23) ?hr ?_; (case hd => rfl); (case hg => rfl); (case hr => first | (go_simp; done) | (go_simp; rfl)); intro gb517 hg w55 hbox hb; have BK517 := Aside0.mk (hbox); obtain ⟨GW517, nHB⟩ := geA hg hb; have GE517 := GW517; obtain ⟨NB509_517, NB517_509, nBK⟩ := nbA BK509 hg hb; replace BK509 := nBK; clear nBK; replace HB := nHB; clear nHB; clear hb hbox hg; have hnb56 := NB517_509.out; have hnc56 := NB509_517.out; have hcz57_0 := czZ BK517 0 (.int .i64 0); have hcz57_1 := czZ BK517 1 (.int .i64 0); have hfz57_0 := blk_frozen BK517.out 0; have hfz57_1 := blk_frozen BK517.out 1; have hcz58_0 := czZ BK509 0 (.int .i64 a0_0); have hcz58_1 := czZ BK509 1 (.int .i64 a0_1); have hfz58_0 := blk_frozen BK509.out 0; have hfz58_1 := blk_frozen BK509.out 1) | ((with_reducible refine gate_callee (f := 10) rfl ?_); refine goesL_ (some 67) rfl rfl Try.func10 (by kernel_rfl) rfl #[.agg #[.int .i64 a0_0, .int .i64 a0_1], .int .i64 (wrap64 ((wrap64 (a0_0 + (ji31))) - 1)), .int .i64 (wrap64 (1 + (wrap64 (a2)))), .int .i64 (wrap64 (a1))] rfl (by (try simp only [List.map_toArray, List.map_cons, List.map_nil]); first | done | (simp only [hji31]; rfl) | rfl | (simp only [List.length_drop, List.length_take]; rfl)) ?_; (with_reducible refine (bucket_FillS.calls a0_0 a0_1 (wrap64 ((wrap64 (a0_0 + (ji31))) - 1)) (wrap64 (1 + (wrap64 (a2)))) (wrap64 (a1)) t518 t519 t520 _ A32.out).mono ?_); rintro e w59 ⟨rfl, hb⟩; refine ⟨_, rfl, ?_⟩; replace BK509 := bfZ BK509 (fun h_ => by (with_reducible repeat first | apply blk_drewN | apply blk_drew | apply blk_alloc | refine farZ ?_ NB509_517 _); exact h_) hb; replace BK517 := Aside0.mk (blk_below (g := gb517) (o := .cells #[.int .i64 t514, .int .i64 t515] 23 (0, 0)) (by (with_reducible repeat first | apply blk_drewN | apply blk_drew | apply blk_alloc); refine blk_put (cs := #[.int .i64 t514, .int .i64 0]) ?_ 1 _ rfl; (with_reducible repeat first | apply blk_drewN | apply blk_drew | apply blk_alloc); refine blk_put (cs := #[.int .i64 0, .int .i64 0]) ?_ 0 _ rfl; (with_reducible repeat first | apply blk_drewN | apply blk_drew | apply blk_alloc); exact BK517.out) hb); replace HB := stA hb; clear hb) | ((with_reducible refine gate_dst (N := 13) rfl ?_); refine box_event ?hg (N := 13) ?hd (cs := #[.int .i64 0, .int .i64 0]) (t := 23) ?hr ?_; (case hd => rfl); (case hg => rfl); (case hr => first | (go_simp; done) | (go_simp; rfl)); intro gb521 hg w60 hbox hb; have BK521 := Aside0.mk (hbox); obtain ⟨GW521, nHB⟩ := geA hg hb; have GE521 := GW521; obtain ⟨NB509_521, NB521_509, nBK⟩ := nbA BK509 hg hb; replace BK509 := nBK; clear nBK; obtain ⟨NB517_521, NB521_517, nBK⟩ := nbA BK517 hg hb; replace BK517 := nBK; clear nBK; replace HB := nHB; clear nHB; clear hb hbox hg; have hnb61 := NB521_509.out; have hnc61 := NB509_521.out; have hnb62 := NB521_517.out; have hnc62 := NB517_521.out; have hcz63_0 := czZ BK521 0 (.int .i64 0); have hcz63_1 := czZ BK521 1 (.int .i64 0); have hfz63_0 := blk_frozen BK521.out 0; have hfz63_1 := blk_frozen BK521.out 1; have hcz64_0 := czZ BK517 0 (.int .i64 t514); have hcz64_1 := czZ BK517 1 (.int .i64 t515); have hfz64_0 := blk_frozen BK517.out 0; have hfz64_1 := blk_frozen BK517.out 1) | (go_at_call 18; (with_reducible refine (bucket_BytesS.calls t514 t515 t522 _ A36.out).mono ?_); rintro e w65 ⟨rfl, hb⟩; replace BK509 := bfZ BK509 (fun h_ => by (with_reducible repeat first | apply blk_drewN | apply blk_drew | apply blk_alloc | refine farZ ?_ NB509_521 _); exact h_) hb; replace BK517 := bfZ BK517 (fun h_ => by (with_reducible repeat first | apply blk_drewN | apply blk_drew | apply blk_alloc | refine farZ ?_ NB517_521 _); exact h_) hb; replace BK521 := Aside0.mk (blk_below (g := gb521) (o := .cells #[.int .i64 t518, .int .i64 t519] 23 (0, 0)) (by (with_reducible repeat first | apply blk_drewN | apply blk_drew | apply blk_alloc); refine blk_put (cs := #[.int .i64 t518, .int .i64 0]) ?_ 1 _ rfl; (with_reducible repeat first | apply blk_drewN | apply blk_drew | apply blk_alloc); refine blk_put (cs := #[.int .i64 0, .int .i64 0]) ?_ 0 _ rfl; (with_reducible repeat first | apply blk_drewN | apply blk_drew | apply blk_alloc); exact BK521.out) hb); replace HB := stA hb; clear hb; have hcz66_0 := czZ BK521 0 (.int .i64 t518); have hcz66_1 := czZ BK521 1 (.int .i64 t519); have hfz66_0 := blk_frozen BK521.out 0; have hfz66_1 := blk_frozen BK521.out 1) | (go_at_call 18; (with_reducible refine (bucket_BytesS.calls t518 t519 t523 _ A52.out).mono ?_); rintro e w67 ⟨rfl, hb⟩; replace BK509 := bdZ BK509 hb; replace BK517 := bdZ BK517 hb; replace BK521 := bdZ BK521 hb; replace HB := stA hb; clear hb))
         go_ret
         exact ⟨by first | rfl | (simp [errW_none, errW_some] <;> rfl) | (simp only [← hji31]; first | rfl | (simp [errW_none, errW_some] <;> rfl)) | (simp [*, errW_none, errW_some] <;> rfl), by repeat (first | (with_reducible first | exact HB.out | apply below_alloc | apply pw_below_drewN | apply below_drew1 | refine below_set ?_ (Aside0.out (by assumption))) | exact HB.out)⟩
       ·rw [if_neg c37] at H
        exact absurd H (by simp)
      ·rw [if_neg c35] at H
       exact absurd H (by simp)
     ·rw [if_neg c34] at H
      exact absurd H (by simp)
    ·replace c33 := Bool.eq_false_iff.mpr c33
     subst c33
     have H1 : (none) = some r := by rw [if_neg (show ¬ (false = true) by decide)] at H; exact H
     clear H; have H := H1; clear H1; exact absurd H (by simp)

/-! ### sawtoothlaw18_BucketParts: function 6 -/
noncomputable def sawtoothlaw18_BucketParts.j0 : Nat → Int → Int → Int → Int → Bool → Bool → Int → Int → Option (Bool)
 | 0, _, _, _, _, _, _, _, _ => none
 | k + 1, x1, x2, x3, x4, x11, x26, x525000, x525001 => if x26 = true then (some x11) else ((bucket_FillS.f x525000 x525001 (wrap64 (x525000 + (wrap64 (x1)))) x3 x4).bind fun bt527 => ((bucket_FillS.f bt527.1 bt527.2.1 (wrap64 (bt527.1 + (wrap64 (x2)))) x3 x4).bind fun bt531 => ((bucket_FillS.f x525000 x525001 (wrap64 ((wrap64 (x525000 + (wrap64 (x1)))) + (wrap64 (x2)))) x3 x4).bind fun bt535 => (if x11 = true then (if bt527.2.2 = 0 then (if bt531.2.2 = 0 then (if bt535.2.2 = 0 then (if (bt531.1 == bt535.1 && (bt531.2.1 == bt535.2.1)) = true then (some (decide (bt527.2.1 ≥ x525001))) else (none)) else (none)) else (none)) else (none)) else (none)))))
noncomputable def sawtoothlaw18_BucketParts.f (k : Nat) (a0_0 : Int) (a0_1 : Int) (a1 : Int) (a2 : Int) (a3 : Int) (a4 : Int) : Option (Bool) := (sawtoothlaw18_awakeS.f).bind fun t525 => ((bucket_CheckS.f a0_0 a0_1).bind fun t526 => (if t526 = true then (sawtoothlaw18_BucketParts.j0 k a1 a2 a3 a4 t525 (decide (a0_0 > 274877906944)) a0_0 a0_1) else (sawtoothlaw18_BucketParts.j0 k a1 a2 a3 a4 t525 true a0_0 a0_1)))
theorem sawtoothlaw18_BucketParts.mono_l : ∀ k, (∀ y0 y1 y2 y3 y4 y5 y6 y7, LeO (sawtoothlaw18_BucketParts.j0 k y0 y1 y2 y3 y4 y5 y6 y7) (sawtoothlaw18_BucketParts.j0 (k + 1) y0 y1 y2 y3 y4 y5 y6 y7))
 | 0 => fun _ _ _ _ _ _ _ _ r h => by simp [sawtoothlaw18_BucketParts.j0] at h
 | k + 1 => by
  have ih0 := sawtoothlaw18_BucketParts.mono_l k
  ·intro y0 y1 y2 y3 y4 y5 y6 y7
   unfold sawtoothlaw18_BucketParts.j0
   repeat' first
   | (with_reducible exact ih0 _ _ _ _ _ _ _ _)
   | (with_reducible exact LeO.refl _)
   | (with_reducible exact LeO.none _)
   | (with_reducible refine LeO.ite ?_ ?_)
   | (with_reducible refine LeO.bind ?_ (fun _ => ?_))
   | exact ih0 _ _ _ _ _ _ _ _
   | exact LeO.none _
   | refine LeO.ite ?_ ?_
   | refine LeO.bind ?_ (fun _ => ?_)
theorem sawtoothlaw18_BucketParts.mono : ∀ a0 a1 a2 a3 a4 a5 k, LeO (sawtoothlaw18_BucketParts.f k a0 a1 a2 a3 a4 a5) (sawtoothlaw18_BucketParts.f (k + 1) a0 a1 a2 a3 a4 a5) := by
 intro a0 a1 a2 a3 a4 a5 k; have ih0 := sawtoothlaw18_BucketParts.mono_l k
 unfold sawtoothlaw18_BucketParts.f
 repeat' first
   | (with_reducible exact ih0 _ _ _ _ _ _ _ _)
   | (with_reducible exact LeO.refl _)
   | (with_reducible exact LeO.none _)
   | (with_reducible refine LeO.ite ?_ ?_)
   | (with_reducible refine LeO.bind ?_ (fun _ => ?_))
   | exact ih0 _ _ _ _ _ _ _ _
   | exact LeO.none _
   | refine LeO.ite ?_ ?_
   | refine LeO.bind ?_ (fun _ => ?_)
set_option maxHeartbeats 8000000 in
set_option maxRecDepth 100000 in
theorem sawtoothlaw18_BucketParts.calls (k : Nat) (a0_0 : Int) (a0_1 : Int) (a1 : Int) (a2 : Int) (a3 : Int) (a4 : Int) (r : Bool) (w : World) (h : sawtoothlaw18_BucketParts.f k a0_0 a0_1 a1 a2 a3 a4 = some r) :
  Calls Try.prog 6 #[.agg #[.int .i64 a0_0, .int .i64 a0_1], .int .u32 a1, .int .u32 a2, .int .i64 a3, .int .i64 a4] w fun e w' => e = .returned (.bool r) ∧ Below w.heap.size w w' := by
 have hu23 := Try.underlying23; have HB := Aside0.mk (Below.refl w.heap.size w); have H : ((sawtoothlaw18_awakeS.f).bind fun t525 => ((bucket_CheckS.f a0_0 a0_1).bind fun t526 => (if t526 = true then (sawtoothlaw18_BucketParts.j0 k a1 a2 a3 a4 t525 (decide (a0_0 > 274877906944)) a0_0 a0_1) else (sawtoothlaw18_BucketParts.j0 k a1 a2 a3 a4 t525 true a0_0 a0_1)))) = some r := h; clear h; replace H := Option.bind_eq_some_iff.mp H; obtain ⟨t525, A60, H⟩ := H; (try dsimp only at H); have A6 := Aside0.mk A60; clear A60; have HC7 := Aside0.mk H; clear H
 go_enter Try.func6, Try.ntmps6
 go_upto_region 2 with (first | ((with_reducible refine gate_dst (N := 5) rfl ?_); refine box_event ?hg (N := 5) ?hd (cs := #[.int .i64 a0_0, .int .i64 a0_1]) (t := 23) ?hr ?_; (case hd => rfl); (case hg => rfl); (case hr => first | (go_simp; done) | (go_simp; rfl)); intro gb524 hg w8 hbox hb; have BK524 := Aside0.mk (hbox); obtain ⟨GW524, nHB⟩ := geA hg hb; have GE524 := GW524; replace HB := nHB; clear nHB; clear hb hbox hg) | ((with_reducible refine gate_callee (f := 9) rfl ?_); refine goesLA_ (some 18) rfl rfl Try.func9 rfl #[] rfl ?_; (with_reducible refine (sawtoothlaw18_awakeS.calls  t525 _ A6.out).mono ?_); rintro e w9 ⟨rfl, hb⟩; refine ⟨_, rfl, ?_⟩; replace BK524 := bdZ BK524 hb; replace HB := stA hb; clear hb))
 (try simp only [Act.put, sA, sB, sC])
 go_cut [26] (fun v26 wc => ∃ (kq : Nat) (x26_6 : Bool), v26 = .bool x26_6 ∧ Aside0 (sawtoothlaw18_BucketParts.j0 kq a1 a2 a3 a4 t525 x26_6 a0_0 a0_1 = some r) ∧ Aside0 (kq ≤ k) ∧ Aside0 (wc.heap[gb524]? = some (.cells #[.int .i64 a0_0, .int .i64 a0_1] 23 (0, 0))) ∧ Aside0 (Below w.heap.size w wc))
 case first =>
  have H := HC7.out; clear HC7; replace H := Option.bind_eq_some_iff.mp H; obtain ⟨t526, A100, H⟩ := H; replace H : (if t526 = true then (sawtoothlaw18_BucketParts.j0 k a1 a2 a3 a4 t525 (decide (a0_0 > 274877906944)) a0_0 a0_1) else (sawtoothlaw18_BucketParts.j0 k a1 a2 a3 a4 t525 true a0_0 a0_1)) = some r := H; have A10 := Aside0.mk A100; clear A100
  by_cases c11 : t526 = true
  ·subst c11
   have H1 : (sawtoothlaw18_BucketParts.j0 k a1 a2 a3 a4 t525 (decide (a0_0 > 274877906944)) a0_0 a0_1) = some r := by rw [if_pos rfl] at H; exact H
   clear H; have H := H1; clear H1; have H' := Aside0.mk H; clear H; have hcz12_0 := czZ BK524 0 (.int .i64 a0_0); have hcz12_1 := czZ BK524 1 (.int .i64 a0_1); have hfz12_0 := blk_frozen BK524.out 0; have hfz12_1 := blk_frozen BK524.out 1
   go_wp2_with (first | ((with_reducible refine gate_callee (f := 14) rfl ?_); refine goesLA_ (some 20) rfl rfl Try.func14 rfl #[.agg #[.int .i64 a0_0, .int .i64 a0_1]] rfl ?_; (with_reducible refine (bucket_CheckS.calls a0_0 a0_1 true _ A10.out).mono ?_); rintro e w13 ⟨rfl, hb⟩; refine ⟨_, rfl, ?_⟩; replace BK524 := bdZ BK524 hb; replace HB := stA hb; clear hb; have hcz14_0 := czZ BK524 0 (.int .i64 a0_0); have hcz14_1 := czZ BK524 1 (.int .i64 a0_1); have hfz14_0 := blk_frozen BK524.out 0; have hfz14_1 := blk_frozen BK524.out 1))
   go_meet
   case rel => exact ⟨_, (decide (a0_0 > 274877906944)), (by first | rfl | (simp; done) | (simp [*]; done)), H', ⟨by first | omega | exact Nat.le_refl _⟩, ⟨by (with_reducible repeat first | apply blk_drewN | apply blk_drew | apply blk_alloc); exact BK524.out⟩, ⟨by repeat (first | (with_reducible first | exact HB.out | apply below_alloc | apply pw_below_drewN | apply below_drew1 | refine below_set ?_ GE524.out) | exact HB.out)⟩⟩
  ·replace c11 := Bool.eq_false_iff.mpr c11
   subst c11
   have H1 : (sawtoothlaw18_BucketParts.j0 k a1 a2 a3 a4 t525 true a0_0 a0_1) = some r := by rw [if_neg (show ¬ (false = true) by decide)] at H; exact H
   clear H; have H := H1; clear H1; have H' := Aside0.mk H; clear H; have hcz15_0 := czZ BK524 0 (.int .i64 a0_0); have hcz15_1 := czZ BK524 1 (.int .i64 a0_1); have hfz15_0 := blk_frozen BK524.out 0; have hfz15_1 := blk_frozen BK524.out 1
   go_wp2_with (first | ((with_reducible refine gate_callee (f := 14) rfl ?_); refine goesLA_ (some 20) rfl rfl Try.func14 rfl #[.agg #[.int .i64 a0_0, .int .i64 a0_1]] rfl ?_; (with_reducible refine (bucket_CheckS.calls a0_0 a0_1 false _ A10.out).mono ?_); rintro e w16 ⟨rfl, hb⟩; refine ⟨_, rfl, ?_⟩; replace BK524 := bdZ BK524 hb; replace HB := stA hb; clear hb))
   go_meet
   case rel => exact ⟨_, (true), (by first | rfl | (simp; done) | (simp [*]; done)), H', ⟨by first | omega | exact Nat.le_refl _⟩, ⟨by (with_reducible repeat first | apply blk_drewN | apply blk_drew | apply blk_alloc); exact BK524.out⟩, ⟨by repeat (first | (with_reducible first | exact HB.out | apply below_alloc | apply pw_below_drewN | apply below_drew1 | refine below_set ?_ GE524.out) | exact HB.out)⟩⟩
 case rest =>
  clear HC7
  try clear c1
  try clear p2
  try clear c6
  try clear c9
  try clear c11
  try clear c14
  try clear hcz12_0
  try clear hcz12_1
  try clear hcz14_0
  try clear hcz14_1
  try clear hcz15_0
  try clear hcz15_1
  try clear hfz12_0
  try clear hfz12_1
  try clear hfz14_0
  try clear hfz14_1
  try clear hfz15_0
  try clear hfz15_1
  obtain ⟨kq, x26_6, rfl, HA, HJ6, BK524, HB⟩ := hcut
  cases kq with
  | zero => exact absurd HA.out (by simp [sawtoothlaw18_BucketParts.j0])
  | succ kj6 =>
   have H := HA.out; clear HA; simp only [sawtoothlaw18_BucketParts.j0] at H
   by_cases c17 : x26_6 = true
   ·subst c17
    have H1 : (some t525) = some r := by rw [if_pos rfl] at H; exact H
    clear H; have H := H1; clear H1; obtain rfl := Option.some.inj H
    go_wp2
    go_ret
    exact ⟨by first | rfl | (simp [errW_none, errW_some] <;> rfl) | (simp [*, errW_none, errW_some] <;> rfl), by repeat (first | (with_reducible first | exact HB.out | apply below_alloc | apply pw_below_drewN | apply below_drew1 | refine below_set ?_ GE524.out) | exact HB.out)⟩
   ·replace c17 := Bool.eq_false_iff.mpr c17
    subst c17
    have H1 : ((bucket_FillS.f a0_0 a0_1 (wrap64 (a0_0 + (wrap64 (a1)))) a3 a4).bind fun bt527 => ((bucket_FillS.f bt527.1 bt527.2.1 (wrap64 (bt527.1 + (wrap64 (a2)))) a3 a4).bind fun bt531 => ((bucket_FillS.f a0_0 a0_1 (wrap64 ((wrap64 (a0_0 + (wrap64 (a1)))) + (wrap64 (a2)))) a3 a4).bind fun bt535 => (if t525 = true then (if bt527.2.2 = 0 then (if bt531.2.2 = 0 then (if bt535.2.2 = 0 then (if (bt531.1 == bt535.1 && (bt531.2.1 == bt535.2.1)) = true then (some (decide (bt527.2.1 ≥ a0_1))) else (none)) else (none)) else (none)) else (none)) else (none))))) = some r := by rw [if_neg (show ¬ (false = true) by decide)] at H; exact H
    clear H; have H := H1; clear H1; replace H := Option.bind_eq_some_iff.mp H; obtain ⟨⟨t527, t528, t529⟩, A180, H⟩ := H; (try dsimp only at H); have A18 := Aside0.mk A180; clear A180; replace H := Option.bind_eq_some_iff.mp H; obtain ⟨⟨t531, t532, t533⟩, A190, H⟩ := H; (try dsimp only at H); have A19 := Aside0.mk A190; clear A190; replace H := Option.bind_eq_some_iff.mp H; obtain ⟨⟨t535, t536, t537⟩, A200, H⟩ := H; (try dsimp only at H); have A20 := Aside0.mk A200; clear A200
    by_cases c21 : t525 = true
    ·subst c21
     have H1 : (if t529 = 0 then (if t533 = 0 then (if t537 = 0 then (if (t531 == t535 && (t532 == t536)) = true then (some (decide (t528 ≥ a0_1))) else (none)) else (none)) else (none)) else (none)) = some r := by rw [if_pos rfl] at H; exact H
     clear H; have H := H1; clear H1
     by_cases c22 : t529 = 0
     ·rw [if_pos c22] at H
      have c22b0 : (t529 == 0) = true := beq_iff_eq.mpr c22; have c22b1 : (t529 != 0) = false := bne_eq_false_iff_eq.mpr c22; clear c22
      by_cases c23 : t533 = 0
      ·rw [if_pos c23] at H
       have c23b0 : (t533 == 0) = true := beq_iff_eq.mpr c23; have c23b1 : (t533 != 0) = false := bne_eq_false_iff_eq.mpr c23; clear c23
       by_cases c24 : t537 = 0
       ·rw [if_pos c24] at H
        have c24b0 : (t537 == 0) = true := beq_iff_eq.mpr c24; have c24b1 : (t537 != 0) = false := bne_eq_false_iff_eq.mpr c24; clear c24
        by_cases c25 : (t531 == t535 && (t532 == t536)) = true
        ·rw [if_pos c25] at H
         have c25b0 : (t531 == t535 && (t532 == t536)) = true := c25
         (try (have c25b1 : decide (t531 = t535 && (t532 == t536)) = true := by simpa using c25))
         (try (have c25b2 : (t531 == t535 && (t532 == t536)) = true := by simpa using c25))
         clear c25; obtain rfl := Option.some.inj H; have hcz26_0 : wc.cell? ⟨gb524, 0, none⟩ = some (.int .i64 a0_0) := (blk_cell BK524.out 0).trans rfl; have hcz26_1 : wc.cell? ⟨gb524, 1, none⟩ = some (.int .i64 a0_1) := (blk_cell BK524.out 1).trans rfl; have hfz26_0 := blk_frozen BK524.out 0; have hfz26_1 := blk_frozen BK524.out 1
         go_wp2_with (first | ((with_reducible refine gate_callee (f := 10) rfl ?_); refine goesLA_ (some 37) rfl rfl Try.func10 rfl #[.agg #[.int .i64 a0_0, .int .i64 a0_1], .int .i64 (wrap64 (a0_0 + (wrap64 (a1)))), .int .i64 a3, .int .i64 a4] rfl ?_; (with_reducible refine (bucket_FillS.calls a0_0 a0_1 (wrap64 (a0_0 + (wrap64 (a1)))) a3 a4 t527 t528 t529 _ A18.out).mono ?_); rintro e w27 ⟨rfl, hb⟩; refine ⟨_, rfl, ?_⟩; replace BK524 := bdZ BK524 hb; replace HB := stA hb; clear hb) | ((with_reducible refine gate_dst (N := 12) rfl ?_); refine box_event ?hg (N := 12) ?hd (cs := #[.int .i64 0, .int .i64 0]) (t := 23) ?hr ?_; (case hd => rfl); (case hg => rfl); (case hr => first | (go_simp; done) | (go_simp; rfl)); intro gb530 hg w28 hbox hb; have BK530 := Aside0.mk (hbox); obtain ⟨GW530, nHB⟩ := geA hg hb; have GE530 := GW530; obtain ⟨NB524_530, NB530_524, nBK⟩ := nbA BK524 hg hb; replace BK524 := nBK; clear nBK; replace HB := nHB; clear nHB; clear hb hbox hg; have hnb29 := NB530_524.out; have hnc29 := NB524_530.out; have hcz30_0 := czZ BK530 0 (.int .i64 0); have hcz30_1 := czZ BK530 1 (.int .i64 0); have hfz30_0 := blk_frozen BK530.out 0; have hfz30_1 := blk_frozen BK530.out 1) | ((with_reducible refine gate_callee (f := 10) rfl ?_); refine goesLA_ (some 49) rfl rfl Try.func10 rfl #[.agg #[.int .i64 t527, .int .i64 t528], .int .i64 (wrap64 (t527 + (wrap64 (a2)))), .int .i64 a3, .int .i64 a4] rfl ?_; (with_reducible refine (bucket_FillS.calls t527 t528 (wrap64 (t527 + (wrap64 (a2)))) a3 a4 t531 t532 t533 _ A19.out).mono ?_); rintro e w31 ⟨rfl, hb⟩; refine ⟨_, rfl, ?_⟩; replace BK524 := bfZ BK524 (fun h_ => by (with_reducible repeat first | apply blk_drewN | apply blk_drew | apply blk_alloc | refine farZ ?_ NB524_530 _); exact h_) hb; replace BK530 := Aside0.mk (blk_below (g := gb530) (o := .cells #[.int .i64 t527, .int .i64 t528] 23 (0, 0)) (by (with_reducible repeat first | apply blk_drewN | apply blk_drew | apply blk_alloc); refine blk_put (cs := #[.int .i64 t527, .int .i64 0]) ?_ 1 _ rfl; (with_reducible repeat first | apply blk_drewN | apply blk_drew | apply blk_alloc); refine blk_put (cs := #[.int .i64 0, .int .i64 0]) ?_ 0 _ rfl; (with_reducible repeat first | apply blk_drewN | apply blk_drew | apply blk_alloc); exact BK530.out) hb); replace HB := stA hb; clear hb) | ((with_reducible refine gate_dst (N := 14) rfl ?_); refine box_event ?hg (N := 14) ?hd (cs := #[.int .i64 0, .int .i64 0]) (t := 23) ?hr ?_; (case hd => rfl); (case hg => rfl); (case hr => first | (go_simp; done) | (go_simp; rfl)); intro gb534 hg w32 hbox hb; have BK534 := Aside0.mk (hbox); obtain ⟨GW534, nHB⟩ := geA hg hb; have GE534 := GW534; obtain ⟨NB524_534, NB534_524, nBK⟩ := nbA BK524 hg hb; replace BK524 := nBK; clear nBK; obtain ⟨NB530_534, NB534_530, nBK⟩ := nbA BK530 hg hb; replace BK530 := nBK; clear nBK; replace HB := nHB; clear nHB; clear hb hbox hg; have hnb33 := NB534_524.out; have hnc33 := NB524_534.out; have hnb34 := NB534_530.out; have hnc34 := NB530_534.out; have hcz35_0 := czZ BK534 0 (.int .i64 0); have hcz35_1 := czZ BK534 1 (.int .i64 0); have hfz35_0 := blk_frozen BK534.out 0; have hfz35_1 := blk_frozen BK534.out 1; have hcz36_0 := czZ BK524 0 (.int .i64 a0_0); have hcz36_1 := czZ BK524 1 (.int .i64 a0_1); have hfz36_0 := blk_frozen BK524.out 0; have hfz36_1 := blk_frozen BK524.out 1) | ((with_reducible refine gate_callee (f := 10) rfl ?_); refine goesLA_ (some 64) rfl rfl Try.func10 rfl #[.agg #[.int .i64 a0_0, .int .i64 a0_1], .int .i64 (wrap64 ((wrap64 (a0_0 + (wrap64 (a1)))) + (wrap64 (a2)))), .int .i64 a3, .int .i64 a4] rfl ?_; (with_reducible refine (bucket_FillS.calls a0_0 a0_1 (wrap64 ((wrap64 (a0_0 + (wrap64 (a1)))) + (wrap64 (a2)))) a3 a4 t535 t536 t537 _ A20.out).mono ?_); rintro e w37 ⟨rfl, hb⟩; refine ⟨_, rfl, ?_⟩; replace BK524 := bfZ BK524 (fun h_ => by (with_reducible repeat first | apply blk_drewN | apply blk_drew | apply blk_alloc | refine farZ ?_ NB524_534 _); exact h_) hb; replace BK530 := bfZ BK530 (fun h_ => by (with_reducible repeat first | apply blk_drewN | apply blk_drew | apply blk_alloc | refine farZ ?_ NB530_534 _); exact h_) hb; replace BK534 := Aside0.mk (blk_below (g := gb534) (o := .cells #[.int .i64 t531, .int .i64 t532] 23 (0, 0)) (by (with_reducible repeat first | apply blk_drewN | apply blk_drew | apply blk_alloc); refine blk_put (cs := #[.int .i64 t531, .int .i64 0]) ?_ 1 _ rfl; (with_reducible repeat first | apply blk_drewN | apply blk_drew | apply blk_alloc); refine blk_put (cs := #[.int .i64 0, .int .i64 0]) ?_ 0 _ rfl; (with_reducible repeat first | apply blk_drewN | apply blk_drew | apply blk_alloc); exact BK534.out) hb); replace HB := stA hb; clear hb) | ((with_reducible refine gate_dst (N := 16) rfl ?_); refine box_event ?hg (N := 16) ?hd (cs := #[.int .i64 0, .int .i64 0]) (t := 23) ?hr ?_; (case hd => rfl); (case hg => rfl); (case hr => first | (go_simp; done) | (go_simp; rfl)); intro gb538 hg w38 hbox hb; have BK538 := Aside0.mk (hbox); obtain ⟨GW538, nHB⟩ := geA hg hb; have GE538 := GW538; obtain ⟨NB524_538, NB538_524, nBK⟩ := nbA BK524 hg hb; replace BK524 := nBK; clear nBK; obtain ⟨NB530_538, NB538_530, nBK⟩ := nbA BK530 hg hb; replace BK530 := nBK; clear nBK; obtain ⟨NB534_538, NB538_534, nBK⟩ := nbA BK534 hg hb; replace BK534 := nBK; clear nBK; replace HB := nHB; clear nHB; clear hb hbox hg; have hnb39 := NB538_524.out; have hnc39 := NB524_538.out; have hnb40 := NB538_530.out; have hnc40 := NB530_538.out; have hnb41 := NB538_534.out; have hnc41 := NB534_538.out; have hcz42_0 := czZ BK538 0 (.int .i64 0); have hcz42_1 := czZ BK538 1 (.int .i64 0); have hfz42_0 := blk_frozen BK538.out 0; have hfz42_1 := blk_frozen BK538.out 1; have hcz43_0 := czZ BK534 0 (.int .i64 t531); have hcz43_1 := czZ BK534 1 (.int .i64 t532); have hfz43_0 := blk_frozen BK534.out 0; have hfz43_1 := blk_frozen BK534.out 1; have hcz44_0 := czZ BK530 0 (.int .i64 t527); have hcz44_1 := czZ BK530 1 (.int .i64 t528); have hfz44_0 := blk_frozen BK530.out 0; have hfz44_1 := blk_frozen BK530.out 1; have hcz45_0 := czZ BK524 0 (.int .i64 a0_0); have hcz45_1 := czZ BK524 1 (.int .i64 a0_1); have hfz45_0 := blk_frozen BK524.out 0; have hfz45_1 := blk_frozen BK524.out 1))
         go_ret
         exact ⟨by first | rfl | (simp [errW_none, errW_some] <;> rfl) | (simp [*, errW_none, errW_some] <;> rfl), by repeat (first | (with_reducible first | exact HB.out | apply below_alloc | apply pw_below_drewN | apply below_drew1 | refine below_set ?_ (Aside0.out (by assumption))) | exact HB.out)⟩
        ·rw [if_neg c25] at H
         exact absurd H (by simp)
       ·rw [if_neg c24] at H
        exact absurd H (by simp)
      ·rw [if_neg c23] at H
       exact absurd H (by simp)
     ·rw [if_neg c22] at H
      exact absurd H (by simp)
    ·replace c21 := Bool.eq_false_iff.mpr c21
     subst c21
     have H1 : (none) = some r := by rw [if_neg (show ¬ (false = true) by decide)] at H; exact H
     clear H; have H := H1; clear H1; exact absurd H (by simp)

end Go.Proofs.Ytidpdaiolkcgnaa.Px
