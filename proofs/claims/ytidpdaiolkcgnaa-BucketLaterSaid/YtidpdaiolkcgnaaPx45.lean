/- Printed by a program of this session (wip/tool/px.py), over the kit's print: for each Go function a Lean function, and the proof that the machine's call answers as that function says. Conditions: none beside what the theorems state. -/
import Derived.Test.YtidpdaiolkcgnaaPx0
import Derived.Test.YtidpdaiolkcgnaaPx4
import Derived.Test.YtidpdaiolkcgnaaPx6
import Derived.Test.YtidpdaiolkcgnaaPx27
namespace Go.Proofs.Ytidpdaiolkcgnaa.Px
open Go.RowKit Go.Proofs.YtidpdaiolkcgnaaW.PrintWords Go.Proofs.YtidpdaiolkcgnaaW.PrintLast Go.Proofs.YtidpdaiolkcgnaaW.PrintMore
attribute [local go_sem] max2_int min2_int max_two min_two max_three min_three max_four min_four   -- for this text's walks alone
set_option linter.unusedVariables false
set_option linter.unusedSimpArgs false

/-! ### sawtoothlaw18_BucketLater: function 8 -/
noncomputable def sawtoothlaw18_BucketLater.j0 : Nat → Int → Int → Int → Int → Int → Bool → Bool → Int → Int → Option (Bool)
 | 0, _, _, _, _, _, _, _, _, _ => none
 | k + 1, x1, x2, x3, x4, x5, x13, x27, x556000, x556001 => if x27 = true then (some x13) else ((bucket_FillS.f x556000 x556001 (wrap64 (x556000 + (wrap64 (x2)))) x3 x4).bind fun bt559 => ((bucket_FillS.f (wrap64 (x556000 + (wrap64 (x1)))) x556001 (wrap64 ((wrap64 (x556000 + (wrap64 (x1)))) + (wrap64 (x2)))) x3 x4).bind fun bt563 => (if x13 = true then (if bt559.2.2 = 0 then (if bt563.2.2 = 0 then (if bt559.2.1 = bt563.2.1 then (if bt563.1 = (wrap64 (bt559.1 + (wrap64 (x1)))) then ((bucket_WaitS.f x556000 x556001 x5 x3).bind fun t567 => ((bucket_WaitS.f (wrap64 (x556000 + (wrap64 (x1)))) x556001 x5 x3).bind fun t568 => (if t567 = t568 then ((bucket_BytesS.f x556000 x556001).bind fun t569 => ((bucket_BytesS.f (wrap64 (x556000 + (wrap64 (x1)))) x556001).bind fun t570 => (some (t569 == t570)))) else (none)))) else (none)) else (none)) else (none)) else (none)) else (none))))
noncomputable def sawtoothlaw18_BucketLater.f (k : Nat) (a0_0 : Int) (a0_1 : Int) (a1 : Int) (a2 : Int) (a3 : Int) (a4 : Int) (a5 : Int) : Option (Bool) := (sawtoothlaw18_awakeS.f).bind fun t556 => ((bucket_CheckS.f a0_0 a0_1).bind fun t557 => (if t557 = true then (sawtoothlaw18_BucketLater.j0 k a1 a2 a3 a4 a5 t556 (decide (a0_0 > 274877906944)) a0_0 a0_1) else (sawtoothlaw18_BucketLater.j0 k a1 a2 a3 a4 a5 t556 true a0_0 a0_1)))
theorem sawtoothlaw18_BucketLater.mono_l : ∀ k, (∀ y0 y1 y2 y3 y4 y5 y6 y7 y8, LeO (sawtoothlaw18_BucketLater.j0 k y0 y1 y2 y3 y4 y5 y6 y7 y8) (sawtoothlaw18_BucketLater.j0 (k + 1) y0 y1 y2 y3 y4 y5 y6 y7 y8))
 | 0 => fun _ _ _ _ _ _ _ _ _ r h => by simp [sawtoothlaw18_BucketLater.j0] at h
 | k + 1 => by
  have ih0 := sawtoothlaw18_BucketLater.mono_l k
  ·intro y0 y1 y2 y3 y4 y5 y6 y7 y8
   unfold sawtoothlaw18_BucketLater.j0
   repeat' first
   | (with_reducible exact ih0 _ _ _ _ _ _ _ _ _)
   | (with_reducible exact LeO.refl _)
   | (with_reducible exact LeO.none _)
   | (with_reducible refine LeO.ite ?_ ?_)
   | (with_reducible refine LeO.bind ?_ (fun _ => ?_))
   | exact ih0 _ _ _ _ _ _ _ _ _
   | exact LeO.none _
   | refine LeO.ite ?_ ?_
   | refine LeO.bind ?_ (fun _ => ?_)
theorem sawtoothlaw18_BucketLater.mono : ∀ a0 a1 a2 a3 a4 a5 a6 k, LeO (sawtoothlaw18_BucketLater.f k a0 a1 a2 a3 a4 a5 a6) (sawtoothlaw18_BucketLater.f (k + 1) a0 a1 a2 a3 a4 a5 a6) := by
 intro a0 a1 a2 a3 a4 a5 a6 k; have ih0 := sawtoothlaw18_BucketLater.mono_l k
 unfold sawtoothlaw18_BucketLater.f
 repeat' first
   | (with_reducible exact ih0 _ _ _ _ _ _ _ _ _)
   | (with_reducible exact LeO.refl _)
   | (with_reducible exact LeO.none _)
   | (with_reducible refine LeO.ite ?_ ?_)
   | (with_reducible refine LeO.bind ?_ (fun _ => ?_))
   | exact ih0 _ _ _ _ _ _ _ _ _
   | exact LeO.none _
   | refine LeO.ite ?_ ?_
   | refine LeO.bind ?_ (fun _ => ?_)
def sawtoothlaw18_BucketLater.T7 : Bool × List (List Nat × List Nat) := (true, [([], []), ([0], [0]), ([1], [1]), ([2, 1], [1, 2]), ([1, 3], [1, 3]), ([4, 1], [4]), ([5], [5]), ([6, 5], [5, 6]), ([5, 7], [5, 7]), ([8, 5], [8]), ([9], [9]), ([10, 9], [9, 10]), ([9], [9]), ([12, 9], [9, 12]), ([11, 13, 9], [9, 11, 13]), ([9, 14], [9, 14]), ([15, 9], [15]), ([16], [16]), ([17, 16], [16, 17]), ([16], [16]), ([19, 16], [16, 19]), ([16], [16]), ([21, 16], [16, 21]), ([20, 22, 16], [16, 20, 22]), ([18, 23, 16], [16, 18, 23]), ([16, 24], [16, 24]), ([25, 16], [25]), ([26], [26]), ([26], [26]), ([26], [26]), ([27, 28, 29, 26, 26], [26, 27, 28, 29]), ([26], [26]), ([26], [26]), ([26], [26]), ([31, 32, 33, 30, 26], [26, 31, 32, 33]), ([30, 34, 26], [26, 30, 34]), ([26, 35], [26, 35]), ([36, 34], [36]), ([37], [37]), ([38, 37, 37], [37, 38]), ([37], [37]), ([40, 39, 37], [37, 40]), ([39, 41, 37], [37, 39, 41]), ([37, 42], [37, 42]), ([43, 41, 0, 1, 2, 3, 4, 5, 6, 7, 8, 9, 10, 11, 12, 13, 14, 15, 16, 17, 18, 19, 20, 21, 22, 23, 24, 25, 26, 27, 28, 29, 30, 31, 32, 33, 34, 35, 36, 37, 38, 39, 40, 41, 42, 43], [43])])
def sawtoothlaw18_BucketLater.B7 : List Nat := [0, 1, 3, 7, 15, 31, 63, 127, 255, 511, 1023, 2047, 1023, 5119, 16383, 32767, 65535, 131071, 262143, 131071, 655359, 131071, 2228223, 7995391, 16777215, 33554431, 67108863, 134217727, 134217727, 134217727, 1073741823, 134217727, 134217727, 134217727, 17179869183, 34359738367, 68719476735, 137438953471, 274877906943, 549755813887, 274877906943, 2199023255551, 4398046511103, 8796093022207, 17592186044415]
theorem sawtoothlaw18_BucketLater.tab7 : rtab .any (opsOf Try.f8 7) = sawtoothlaw18_BucketLater.T7 := by kernel_rfl
theorem sawtoothlaw18_BucketLater.bits7 : waitsOk sawtoothlaw18_BucketLater.T7.2 sawtoothlaw18_BucketLater.B7 = true := by kernel_rfl
set_option maxHeartbeats 8000000 in
set_option maxRecDepth 100000 in
theorem sawtoothlaw18_BucketLater.calls (k : Nat) (a0_0 : Int) (a0_1 : Int) (a1 : Int) (a2 : Int) (a3 : Int) (a4 : Int) (a5 : Int) (r : Bool) (w : World) (h : sawtoothlaw18_BucketLater.f k a0_0 a0_1 a1 a2 a3 a4 a5 = some r) :
  Calls Try.prog 8 #[.agg #[.int .i64 a0_0, .int .i64 a0_1], .int .u32 a1, .int .u32 a2, .int .i64 a3, .int .i64 a4, .int .i64 a5] w fun e w' => e = .returned (.bool r) ∧ Below w.heap.size w w' := by
 have hu23 := Try.underlying23; have HB := Aside0.mk (Below.refl w.heap.size w); have H : ((sawtoothlaw18_awakeS.f).bind fun t556 => ((bucket_CheckS.f a0_0 a0_1).bind fun t557 => (if t557 = true then (sawtoothlaw18_BucketLater.j0 k a1 a2 a3 a4 a5 t556 (decide (a0_0 > 274877906944)) a0_0 a0_1) else (sawtoothlaw18_BucketLater.j0 k a1 a2 a3 a4 a5 t556 true a0_0 a0_1)))) = some r := h; clear h; replace H := Option.bind_eq_some_iff.mp H; obtain ⟨t556, A70, H⟩ := H; (try dsimp only at H); have A7 := Aside0.mk A70; clear A70; have HC8 := Aside0.mk H; clear H
 go_enter Try.func8, Try.ntmps8
 go_upto_region 2 with (first | ((with_reducible refine gate_dst (N := 6) rfl ?_); refine box_event ?hg (N := 6) ?hd (cs := #[.int .i64 a0_0, .int .i64 a0_1]) (t := 23) ?hr ?_; (case hd => rfl); (case hg => rfl); (case hr => first | (go_simp; done) | (go_simp; rfl)); intro gb555 hg w9 hbox hb; have BK555 := Aside0.mk (hbox); obtain ⟨GW555, nHB⟩ := geA hg hb; have GE555 := GW555; replace HB := nHB; clear nHB; clear hb hbox hg) | ((with_reducible refine gate_callee (f := 9) rfl ?_); refine goesLA_ (some 19) rfl rfl Try.func9 rfl #[] rfl ?_; (with_reducible refine (sawtoothlaw18_awakeS.calls  t556 _ A7.out).mono ?_); rintro e w10 ⟨rfl, hb⟩; refine ⟨_, rfl, ?_⟩; replace BK555 := bdZ BK555 hb; replace HB := stA hb; clear hb))
 (try simp only [Act.put, sA, sB, sC])
 go_cut [27] (fun v27 wc => ∃ (kq : Nat) (x27_7 : Bool), v27 = .bool x27_7 ∧ Aside0 (sawtoothlaw18_BucketLater.j0 kq a1 a2 a3 a4 a5 t556 x27_7 a0_0 a0_1 = some r) ∧ Aside0 (kq ≤ k) ∧ Aside0 (wc.heap[gb555]? = some (.cells #[.int .i64 a0_0, .int .i64 a0_1] 23 (0, 0))) ∧ Aside0 (Below w.heap.size w wc))
 case first =>
  have H := HC8.out; clear HC8; replace H := Option.bind_eq_some_iff.mp H; obtain ⟨t557, A110, H⟩ := H; replace H : (if t557 = true then (sawtoothlaw18_BucketLater.j0 k a1 a2 a3 a4 a5 t556 (decide (a0_0 > 274877906944)) a0_0 a0_1) else (sawtoothlaw18_BucketLater.j0 k a1 a2 a3 a4 a5 t556 true a0_0 a0_1)) = some r := H; have A11 := Aside0.mk A110; clear A110
  by_cases c12 : t557 = true
  ·subst c12
   have H1 : (sawtoothlaw18_BucketLater.j0 k a1 a2 a3 a4 a5 t556 (decide (a0_0 > 274877906944)) a0_0 a0_1) = some r := by rw [if_pos rfl] at H; exact H
   clear H; have H := H1; clear H1; have H' := Aside0.mk H; clear H; have hcz13_0 := czZ BK555 0 (.int .i64 a0_0); have hcz13_1 := czZ BK555 1 (.int .i64 a0_1); have hfz13_0 := blk_frozen BK555.out 0; have hfz13_1 := blk_frozen BK555.out 1
   go_wp2_with (first | ((with_reducible refine gate_callee (f := 14) rfl ?_); refine goesLA_ (some 21) rfl rfl Try.func14 rfl #[.agg #[.int .i64 a0_0, .int .i64 a0_1]] rfl ?_; (with_reducible refine (bucket_CheckS.calls a0_0 a0_1 true _ A11.out).mono ?_); rintro e w14 ⟨rfl, hb⟩; refine ⟨_, rfl, ?_⟩; replace BK555 := bdZ BK555 hb; replace HB := stA hb; clear hb; have hcz15_0 := czZ BK555 0 (.int .i64 a0_0); have hcz15_1 := czZ BK555 1 (.int .i64 a0_1); have hfz15_0 := blk_frozen BK555.out 0; have hfz15_1 := blk_frozen BK555.out 1))
   go_meet
   case rel => exact ⟨_, (decide (a0_0 > 274877906944)), (by first | rfl | (simp; done) | (simp [*]; done)), H', ⟨by first | omega | exact Nat.le_refl _⟩, ⟨by (with_reducible repeat first | apply blk_drewN | apply blk_drew | apply blk_alloc); exact BK555.out⟩, ⟨by repeat (first | (with_reducible first | exact HB.out | apply below_alloc | apply pw_below_drewN | apply below_drew1 | refine below_set ?_ GE555.out) | exact HB.out)⟩⟩
  ·replace c12 := Bool.eq_false_iff.mpr c12
   subst c12
   have H1 : (sawtoothlaw18_BucketLater.j0 k a1 a2 a3 a4 a5 t556 true a0_0 a0_1) = some r := by rw [if_neg (show ¬ (false = true) by decide)] at H; exact H
   clear H; have H := H1; clear H1; have H' := Aside0.mk H; clear H; have hcz16_0 := czZ BK555 0 (.int .i64 a0_0); have hcz16_1 := czZ BK555 1 (.int .i64 a0_1); have hfz16_0 := blk_frozen BK555.out 0; have hfz16_1 := blk_frozen BK555.out 1
   go_wp2_with (first | ((with_reducible refine gate_callee (f := 14) rfl ?_); refine goesLA_ (some 21) rfl rfl Try.func14 rfl #[.agg #[.int .i64 a0_0, .int .i64 a0_1]] rfl ?_; (with_reducible refine (bucket_CheckS.calls a0_0 a0_1 false _ A11.out).mono ?_); rintro e w17 ⟨rfl, hb⟩; refine ⟨_, rfl, ?_⟩; replace BK555 := bdZ BK555 hb; replace HB := stA hb; clear hb))
   go_meet
   case rel => exact ⟨_, (true), (by first | rfl | (simp; done) | (simp [*]; done)), H', ⟨by first | omega | exact Nat.le_refl _⟩, ⟨by (with_reducible repeat first | apply blk_drewN | apply blk_drew | apply blk_alloc); exact BK555.out⟩, ⟨by repeat (first | (with_reducible first | exact HB.out | apply below_alloc | apply pw_below_drewN | apply below_drew1 | refine below_set ?_ GE555.out) | exact HB.out)⟩⟩
 case rest =>
  clear HC8
  try clear c1
  try clear p2
  try clear c8
  try clear c9
  try clear c12
  try clear c14
  try clear hcz13_0
  try clear hcz13_1
  try clear hcz15_0
  try clear hcz15_1
  try clear hcz16_0
  try clear hcz16_1
  try clear hfz13_0
  try clear hfz13_1
  try clear hfz15_0
  try clear hfz15_1
  try clear hfz16_0
  try clear hfz16_1
  obtain ⟨kq, x27_7, rfl, HA, HJ7, BK555, HB⟩ := hcut
  cases kq with
  | zero => exact absurd HA.out (by simp [sawtoothlaw18_BucketLater.j0])
  | succ kj7 =>
   have H := HA.out; clear HA; simp only [sawtoothlaw18_BucketLater.j0] at H
   by_cases c18 : x27_7 = true
   ·subst c18
    have H1 : (some t556) = some r := by rw [if_pos rfl] at H; exact H
    clear H; have H := H1; clear H1; obtain rfl := Option.some.inj H
    go_wp2
    go_ret
    exact ⟨by first | rfl | (simp [errW_none, errW_some] <;> rfl) | (simp [*, errW_none, errW_some] <;> rfl), by repeat (first | (with_reducible first | exact HB.out | apply below_alloc | apply pw_below_drewN | apply below_drew1 | refine below_set ?_ GE555.out) | exact HB.out)⟩
   ·replace c18 := Bool.eq_false_iff.mpr c18
    subst c18
    have H1 : ((bucket_FillS.f a0_0 a0_1 (wrap64 (a0_0 + (wrap64 (a2)))) a3 a4).bind fun bt559 => ((bucket_FillS.f (wrap64 (a0_0 + (wrap64 (a1)))) a0_1 (wrap64 ((wrap64 (a0_0 + (wrap64 (a1)))) + (wrap64 (a2)))) a3 a4).bind fun bt563 => (if t556 = true then (if bt559.2.2 = 0 then (if bt563.2.2 = 0 then (if bt559.2.1 = bt563.2.1 then (if bt563.1 = (wrap64 (bt559.1 + (wrap64 (a1)))) then ((bucket_WaitS.f a0_0 a0_1 a5 a3).bind fun t567 => ((bucket_WaitS.f (wrap64 (a0_0 + (wrap64 (a1)))) a0_1 a5 a3).bind fun t568 => (if t567 = t568 then ((bucket_BytesS.f a0_0 a0_1).bind fun t569 => ((bucket_BytesS.f (wrap64 (a0_0 + (wrap64 (a1)))) a0_1).bind fun t570 => (some (t569 == t570)))) else (none)))) else (none)) else (none)) else (none)) else (none)) else (none)))) = some r := by rw [if_neg (show ¬ (false = true) by decide)] at H; exact H
    clear H; have H := H1; clear H1; replace H := Option.bind_eq_some_iff.mp H; obtain ⟨⟨t559, t560, t561⟩, A190, H⟩ := H; (try dsimp only at H); have A19 := Aside0.mk A190; clear A190; replace H := Option.bind_eq_some_iff.mp H; obtain ⟨⟨t563, t564, t565⟩, A200, H⟩ := H; (try dsimp only at H); have A20 := Aside0.mk A200; clear A200
    by_cases c21 : t556 = true
    ·subst c21
     have H1 : (if t561 = 0 then (if t565 = 0 then (if t560 = t564 then (if t563 = (wrap64 (t559 + (wrap64 (a1)))) then ((bucket_WaitS.f a0_0 a0_1 a5 a3).bind fun t567 => ((bucket_WaitS.f (wrap64 (a0_0 + (wrap64 (a1)))) a0_1 a5 a3).bind fun t568 => (if t567 = t568 then ((bucket_BytesS.f a0_0 a0_1).bind fun t569 => ((bucket_BytesS.f (wrap64 (a0_0 + (wrap64 (a1)))) a0_1).bind fun t570 => (some (t569 == t570)))) else (none)))) else (none)) else (none)) else (none)) else (none)) = some r := by rw [if_pos rfl] at H; exact H
     clear H; have H := H1; clear H1
     by_cases c22 : t561 = 0
     ·rw [if_pos c22] at H
      have c22b0 : (t561 == 0) = true := beq_iff_eq.mpr c22; have c22b1 : (t561 != 0) = false := bne_eq_false_iff_eq.mpr c22; clear c22
      by_cases c23 : t565 = 0
      ·rw [if_pos c23] at H
       have c23b0 : (t565 == 0) = true := beq_iff_eq.mpr c23; have c23b1 : (t565 != 0) = false := bne_eq_false_iff_eq.mpr c23; clear c23
       by_cases c24 : t560 = t564
       ·rw [if_pos c24] at H
        have c24b0 : (t560 == t564) = true := beq_iff_eq.mpr c24; have c24b1 : (t560 != t564) = false := bne_eq_false_iff_eq.mpr c24; clear c24
        by_cases c25 : t563 = (wrap64 (t559 + (wrap64 (a1))))
        ·rw [if_pos c25] at H
         have c25b0 : (t563 == (wrap64 (t559 + (wrap64 (a1))))) = true := beq_iff_eq.mpr c25; have c25b1 : (t563 != (wrap64 (t559 + (wrap64 (a1))))) = false := bne_eq_false_iff_eq.mpr c25; clear c25; replace H := Option.bind_eq_some_iff.mp H; obtain ⟨t567, A260, H⟩ := H; (try dsimp only at H); have A26 := Aside0.mk A260; clear A260; replace H := Option.bind_eq_some_iff.mp H; obtain ⟨t568, A270, H⟩ := H; replace H : (if t567 = t568 then ((bucket_BytesS.f a0_0 a0_1).bind fun t569 => ((bucket_BytesS.f (wrap64 (a0_0 + (wrap64 (a1)))) a0_1).bind fun t570 => (some (t569 == t570)))) else (none)) = some r := H; have A27 := Aside0.mk A270; clear A270
         by_cases c28 : t567 = t568
         ·rw [if_pos c28] at H
          have c28b0 : (t567 == t568) = true := beq_iff_eq.mpr c28; have c28b1 : (t567 != t568) = false := bne_eq_false_iff_eq.mpr c28; clear c28; replace H := Option.bind_eq_some_iff.mp H; obtain ⟨t569, A290, H⟩ := H; replace H : ((bucket_BytesS.f (wrap64 (a0_0 + (wrap64 (a1)))) a0_1).bind fun t570 => (some (t569 == t570))) = some r := H; have A29 := Aside0.mk A290; clear A290; replace H := Option.bind_eq_some_iff.mp H; obtain ⟨t570, A300, H⟩ := H; replace H : (some (t569 == t570)) = some r := H; have A30 := Aside0.mk A300; clear A300; obtain rfl := Option.some.inj H; have hcz31_0 : wc.cell? ⟨gb555, 0, none⟩ = some (.int .i64 a0_0) := (blk_cell BK555.out 0).trans rfl; have hcz31_1 : wc.cell? ⟨gb555, 1, none⟩ = some (.int .i64 a0_1) := (blk_cell BK555.out 1).trans rfl; have hfz31_0 := blk_frozen BK555.out 0; have hfz31_1 := blk_frozen BK555.out 1
          try go_wp2_with (first | ((with_reducible refine gate_dst (N := 14) rfl ?_); refine box_event ?hg (N := 14) ?hd (cs := #[.int .i64 0, .int .i64 0]) (t := 23) ?hr ?_; (case hd => rfl); (case hg => rfl); (case hr => first | (go_simp; done) | (go_simp; rfl)); intro gb558 hg w32 hbox hb; have BK558 := Aside0.mk (hbox); obtain ⟨GW558, nHB⟩ := geA hg hb; have GE558 := GW558; obtain ⟨NB555_558, NB558_555, nBK⟩ := nbA BK555 hg hb; replace BK555 := nBK; clear nBK; replace HB := nHB; clear nHB; clear hb hbox hg; have hnb33 := NB558_555.out; have hnc33 := NB555_558.out; have hcz34_0 := czZ BK558 0 (.int .i64 0); have hcz34_1 := czZ BK558 1 (.int .i64 0); have hfz34_0 := blk_frozen BK558.out 0; have hfz34_1 := blk_frozen BK558.out 1; have hcz35_0 := czZ BK555 0 (.int .i64 a0_0); have hcz35_1 := czZ BK555 1 (.int .i64 a0_1); have hfz35_0 := blk_frozen BK555.out 0; have hfz35_1 := blk_frozen BK555.out 1) | ((with_reducible refine gate_callee (f := 10) rfl ?_); refine goesLA_ (some 46) rfl rfl Try.func10 rfl #[.agg #[.int .i64 a0_0, .int .i64 a0_1], .int .i64 (wrap64 (a0_0 + (wrap64 (a2)))), .int .i64 a3, .int .i64 a4] rfl ?_; (with_reducible refine (bucket_FillS.calls a0_0 a0_1 (wrap64 (a0_0 + (wrap64 (a2)))) a3 a4 t559 t560 t561 _ A19.out).mono ?_); rintro e w36 ⟨rfl, hb⟩; refine ⟨_, rfl, ?_⟩; replace BK555 := bfZ BK555 (fun h_ => by (with_reducible repeat first | apply blk_drewN | apply blk_drew | apply blk_alloc | refine farZ ?_ NB555_558 _); exact h_) hb; replace BK558 := Aside0.mk (blk_below (g := gb558) (o := .cells #[.int .i64 (wrap64 (a0_0 + (wrap64 (a1)))), .int .i64 a0_1] 23 (0, 0)) (by (with_reducible repeat first | apply blk_drewN | apply blk_drew | apply blk_alloc); refine blk_put (cs := #[.int .i64 (wrap64 (a0_0 + (wrap64 (a1)))), .int .i64 0]) ?_ 1 _ rfl; (with_reducible repeat first | apply blk_drewN | apply blk_drew | apply blk_alloc); refine blk_put (cs := #[.int .i64 0, .int .i64 0]) ?_ 0 _ rfl; (with_reducible repeat first | apply blk_drewN | apply blk_drew | apply blk_alloc); exact BK558.out) hb); replace HB := stA hb; clear hb) | ((with_reducible refine gate_dst (N := 15) rfl ?_); refine box_event ?hg (N := 15) ?hd (cs := #[.int .i64 0, .int .i64 0]) (t := 23) ?hr ?_; (case hd => rfl); (case hg => rfl); (case hr => first | (go_simp; done) | (go_simp; rfl)); intro gb562 hg w37 hbox hb; have BK562 := Aside0.mk (hbox); obtain ⟨GW562, nHB⟩ := geA hg hb; have GE562 := GW562; obtain ⟨NB555_562, NB562_555, nBK⟩ := nbA BK555 hg hb; replace BK555 := nBK; clear nBK; obtain ⟨NB558_562, NB562_558, nBK⟩ := nbA BK558 hg hb; replace BK558 := nBK; clear nBK; replace HB := nHB; clear nHB; clear hb hbox hg; have hnb38 := NB562_555.out; have hnc38 := NB555_562.out; have hnb39 := NB562_558.out; have hnc39 := NB558_562.out; have hcz40_0 := czZ BK562 0 (.int .i64 0); have hcz40_1 := czZ BK562 1 (.int .i64 0); have hfz40_0 := blk_frozen BK562.out 0; have hfz40_1 := blk_frozen BK562.out 1; have hcz41_0 : w37.cell? ⟨gb558, 0, none⟩ = some (.int .i64 (wrap64 (a0_0 + (wrap64 (a1))))) := (blk_cell BK558.out 0).trans rfl; have hcz41_1 := czZ BK558 1 (.int .i64 a0_1); have hfz41_0 := blk_frozen BK558.out 0; have hfz41_1 := blk_frozen BK558.out 1) | ((with_reducible refine gate_callee (f := 10) rfl ?_); refine goesLA_ (some 58) rfl rfl Try.func10 rfl #[.agg #[.int .i64 (wrap64 (a0_0 + (wrap64 (a1)))), .int .i64 a0_1], .int .i64 (wrap64 ((wrap64 (a0_0 + (wrap64 (a1)))) + (wrap64 (a2)))), .int .i64 a3, .int .i64 a4] rfl ?_; (with_reducible refine (bucket_FillS.calls (wrap64 (a0_0 + (wrap64 (a1)))) a0_1 (wrap64 ((wrap64 (a0_0 + (wrap64 (a1)))) + (wrap64 (a2)))) a3 a4 t563 t564 t565 _ A20.out).mono ?_); rintro e w42 ⟨rfl, hb⟩; refine ⟨_, rfl, ?_⟩; replace BK555 := bfZ BK555 (fun h_ => by (with_reducible repeat first | apply blk_drewN | apply blk_drew | apply blk_alloc | refine farZ ?_ NB555_562 _); exact h_) hb; replace BK558 := bfZ BK558 (fun h_ => by (with_reducible repeat first | apply blk_drewN | apply blk_drew | apply blk_alloc | refine farZ ?_ NB558_562 _); exact h_) hb; replace BK562 := Aside0.mk (blk_below (g := gb562) (o := .cells #[.int .i64 t559, .int .i64 t560] 23 (0, 0)) (by (with_reducible repeat first | apply blk_drewN | apply blk_drew | apply blk_alloc); refine blk_put (cs := #[.int .i64 t559, .int .i64 0]) ?_ 1 _ rfl; (with_reducible repeat first | apply blk_drewN | apply blk_drew | apply blk_alloc); refine blk_put (cs := #[.int .i64 0, .int .i64 0]) ?_ 0 _ rfl; (with_reducible repeat first | apply blk_drewN | apply blk_drew | apply blk_alloc); exact BK562.out) hb); replace HB := stA hb; clear hb) | ((with_reducible refine gate_dst (N := 17) rfl ?_); refine box_event ?hg (N := 17) ?hd (cs := #[.int .i64 0, .int .i64 0]) (t := 23) ?hr ?_; (case hd => rfl); (case hg => rfl); (case hr => first | (go_simp; done) | (go_simp; rfl)); intro gb566 hg w43 hbox hb; have BK566 := Aside0.mk (hbox); obtain ⟨GW566, nHB⟩ := geA hg hb; have GE566 := GW566; obtain ⟨NB555_566, NB566_555, nBK⟩ := nbA BK555 hg hb; replace BK555 := nBK; clear nBK; obtain ⟨NB558_566, NB566_558, nBK⟩ := nbA BK558 hg hb; replace BK558 := nBK; clear nBK; obtain ⟨NB562_566, NB566_562, nBK⟩ := nbA BK562 hg hb; replace BK562 := nBK; clear nBK; replace HB := nHB; clear nHB; clear hb hbox hg; have hnb44 := NB566_555.out; have hnc44 := NB555_566.out; have hnb45 := NB566_558.out; have hnc45 := NB558_566.out; have hnb46 := NB566_562.out; have hnc46 := NB562_566.out; have hcz47_0 := czZ BK566 0 (.int .i64 0); have hcz47_1 := czZ BK566 1 (.int .i64 0); have hfz47_0 := blk_frozen BK566.out 0; have hfz47_1 := blk_frozen BK566.out 1))
          have n0_ : Aside0 (((w43.setCell ⟨gb566, 0, none⟩ (.int .i64 t563)).setCell ⟨gb566, 1, none⟩ (.int .i64 t564)).heap[gb555]? = some (.cells #[.int .i64 a0_0, .int .i64 a0_1] 23 (0, 0))) := ⟨by (with_reducible repeat first | apply blk_drewN | apply blk_drew | apply blk_alloc); refine blk_far ?_ NB555_566.out _; (with_reducible repeat first | apply blk_drewN | apply blk_drew | apply blk_alloc); refine blk_far ?_ NB555_566.out _; (with_reducible repeat first | apply blk_drewN | apply blk_drew | apply blk_alloc); exact BK555.out⟩
          have n1_ : Aside0 (((w43.setCell ⟨gb566, 0, none⟩ (.int .i64 t563)).setCell ⟨gb566, 1, none⟩ (.int .i64 t564)).heap[gb558]? = some (.cells #[.int .i64 (wrap64 (a0_0 + (wrap64 (a1)))), .int .i64 a0_1] 23 (0, 0))) := ⟨by (with_reducible repeat first | apply blk_drewN | apply blk_drew | apply blk_alloc); refine blk_far ?_ NB558_566.out _; (with_reducible repeat first | apply blk_drewN | apply blk_drew | apply blk_alloc); refine blk_far ?_ NB558_566.out _; (with_reducible repeat first | apply blk_drewN | apply blk_drew | apply blk_alloc); exact BK558.out⟩
          have n2_ : Aside0 (((w43.setCell ⟨gb566, 0, none⟩ (.int .i64 t563)).setCell ⟨gb566, 1, none⟩ (.int .i64 t564)).heap[gb562]? = some (.cells #[.int .i64 t559, .int .i64 t560] 23 (0, 0))) := ⟨by (with_reducible repeat first | apply blk_drewN | apply blk_drew | apply blk_alloc); refine blk_far ?_ NB562_566.out _; (with_reducible repeat first | apply blk_drewN | apply blk_drew | apply blk_alloc); refine blk_far ?_ NB562_566.out _; (with_reducible repeat first | apply blk_drewN | apply blk_drew | apply blk_alloc); exact BK562.out⟩
          have n3_ : Aside0 (((w43.setCell ⟨gb566, 0, none⟩ (.int .i64 t563)).setCell ⟨gb566, 1, none⟩ (.int .i64 t564)).heap[gb566]? = some (.cells #[.int .i64 t563, .int .i64 t564] 23 (0, 0))) := ⟨by (with_reducible repeat first | apply blk_drewN | apply blk_drew | apply blk_alloc); refine blk_put (cs := #[.int .i64 t563, .int .i64 0]) ?_ 1 _ rfl; (with_reducible repeat first | apply blk_drewN | apply blk_drew | apply blk_alloc); refine blk_put (cs := #[.int .i64 0, .int .i64 0]) ?_ 0 _ rfl; (with_reducible repeat first | apply blk_drewN | apply blk_drew | apply blk_alloc); exact BK566.out⟩
          have n4_ : Aside0 (Below w.heap.size w ((w43.setCell ⟨gb566, 0, none⟩ (.int .i64 t563)).setCell ⟨gb566, 1, none⟩ (.int .i64 t564))) := ⟨by repeat (first | (with_reducible first | exact HB.out | apply below_alloc | apply pw_below_drewN | apply below_drew1 | refine below_set ?_ (Aside0.out (by assumption))) | exact HB.out)⟩
          (try clear BK555); (try clear BK558); (try clear BK562); (try clear BK566); (try clear HB)
          generalize ((w43.setCell ⟨gb566, 0, none⟩ (.int .i64 t563)).setCell ⟨gb566, 1, none⟩ (.int .i64 t564)) = w48 at n0_ n1_ n2_ n3_ n4_ ⊢
          have BK555 := n0_; have BK558 := n1_; have BK562 := n2_; have BK566 := n3_; have HB := n4_; clear n0_ n1_ n2_ n3_ n4_; replace BK555 := Aside0.mk (blk_drew BK555.out); replace BK558 := Aside0.mk (blk_drew BK558.out); replace BK562 := Aside0.mk (blk_drew BK562.out); replace BK566 := Aside0.mk (blk_drew BK566.out); replace HB := Aside0.mk (below_drew1 HB.out); refine start_ (n := 45) (S := fun w' => w'.cell? ⟨gb562, 0, none⟩ = some (.int .i64 t559) ∧ w'.cell? ⟨gb562, 1, none⟩ = some (.int .i64 t560) ∧ w'.cell? ⟨gb566, 0, none⟩ = some (.int .i64 t563) ∧ w'.cell? ⟨gb566, 1, none⟩ = some (.int .i64 t564) ∧ w'.cell? ⟨gb555, 0, none⟩ = some (.int .i64 a0_0) ∧ w'.cell? ⟨gb555, 1, none⟩ = some (.int .i64 a0_1) ∧ w'.cell? ⟨gb558, 0, none⟩ = some (.int .i64 (wrap64 (a0_0 + (wrap64 (a1))))) ∧ w'.cell? ⟨gb558, 1, none⟩ = some (.int .i64 a0_1)) (ds := []) #[N,N,N,N,N,N,N,N,N,N,N,N,N,N,N,N,N,N,N,N,N,N,N,N,N,N,N,N,N,N,N,N,N,N,N,N,N,N,N,N,N,N,N,N,N] (by kernel_rfl) rfl rfl ⟨(blk_cell BK562.out 0).trans rfl, (blk_cell BK562.out 1).trans rfl, (blk_cell BK566.out 0).trans rfl, (blk_cell BK566.out 1).trans rfl, (blk_cell BK555.out 0).trans rfl, (blk_cell BK555.out 1).trans rfl, (blk_cell BK558.out 0).trans rfl, (blk_cell BK558.out 1).trans rfl⟩ (fun hHeld => ?_); refine with_tabW sawtoothlaw18_BucketLater.tab7 sawtoothlaw18_BucketLater.bits7 (fun HT_ HW_ => ?_)
          generalize w48.drew = w49 at BK555 BK558 BK562 BK566 HB hHeld ⊢
          refine pureA_ (i := 0) (N := some 61) #[Y,N,N,N,N,N,N,N,N,N,N,N,N,N,N,N,N,N,N,N,N,N,N,N,N,N,N,N,N,N,N,N,N,N,N,N,N,N,N,N,N,N,N,N,N] rfl rfl (any_of HT_.out (by kernel_rfl)) ?_
          refine pureA_ (i := 1) (N := some 62) #[Y,Y,N,N,N,N,N,N,N,N,N,N,N,N,N,N,N,N,N,N,N,N,N,N,N,N,N,N,N,N,N,N,N,N,N,N,N,N,N,N,N,N,N,N,N] rfl rfl (any_of HT_.out (by kernel_rfl)) ?_
          refine pureA_ (i := 2) (N := some 63) #[Y,Y,Y,N,N,N,N,N,N,N,N,N,N,N,N,N,N,N,N,N,N,N,N,N,N,N,N,N,N,N,N,N,N,N,N,N,N,N,N,N,N,N,N,N,N] rfl rfl (any_of HT_.out (by kernel_rfl)) ?_
          refine pureA_ (i := 3) (N := some 64) #[Y,Y,Y,Y,N,N,N,N,N,N,N,N,N,N,N,N,N,N,N,N,N,N,N,N,N,N,N,N,N,N,N,N,N,N,N,N,N,N,N,N,N,N,N,N,N] rfl rfl (any_of HT_.out (by kernel_rfl)) ?_
          refine pureA_ (i := 4) (N := some 65) #[Y,Y,Y,Y,Y,N,N,N,N,N,N,N,N,N,N,N,N,N,N,N,N,N,N,N,N,N,N,N,N,N,N,N,N,N,N,N,N,N,N,N,N,N,N,N,N] rfl rfl (any_of HT_.out (by kernel_rfl)) ?_
          refine pureA_ (i := 5) (N := some 66) #[Y,Y,Y,Y,Y,Y,N,N,N,N,N,N,N,N,N,N,N,N,N,N,N,N,N,N,N,N,N,N,N,N,N,N,N,N,N,N,N,N,N,N,N,N,N,N,N] rfl rfl (any_of HT_.out (by kernel_rfl)) ?_
          refine pureA_ (i := 6) (N := some 67) #[Y,Y,Y,Y,Y,Y,Y,N,N,N,N,N,N,N,N,N,N,N,N,N,N,N,N,N,N,N,N,N,N,N,N,N,N,N,N,N,N,N,N,N,N,N,N,N,N] rfl rfl (any_of HT_.out (by kernel_rfl)) ?_
          refine pureA_ (i := 7) (N := some 68) #[Y,Y,Y,Y,Y,Y,Y,Y,N,N,N,N,N,N,N,N,N,N,N,N,N,N,N,N,N,N,N,N,N,N,N,N,N,N,N,N,N,N,N,N,N,N,N,N,N] rfl rfl (any_of HT_.out (by kernel_rfl)) ?_
          refine pureA_ (i := 8) (N := some 69) #[Y,Y,Y,Y,Y,Y,Y,Y,Y,N,N,N,N,N,N,N,N,N,N,N,N,N,N,N,N,N,N,N,N,N,N,N,N,N,N,N,N,N,N,N,N,N,N,N,N] rfl rfl (any_of HT_.out (by kernel_rfl)) ?_
          refine pureA_ (i := 9) (N := some 70) #[Y,Y,Y,Y,Y,Y,Y,Y,Y,Y,N,N,N,N,N,N,N,N,N,N,N,N,N,N,N,N,N,N,N,N,N,N,N,N,N,N,N,N,N,N,N,N,N,N,N] rfl rfl (any_of HT_.out (by kernel_rfl)) ?_
          refine pureA_ (i := 10) (N := some 71) #[Y,Y,Y,Y,Y,Y,Y,Y,Y,Y,Y,N,N,N,N,N,N,N,N,N,N,N,N,N,N,N,N,N,N,N,N,N,N,N,N,N,N,N,N,N,N,N,N,N,N] rfl rfl (any_of HT_.out (by kernel_rfl)) ?_
          refine pureA_ (i := 12) (N := some 73) #[Y,Y,Y,Y,Y,Y,Y,Y,Y,Y,Y,N,Y,N,N,N,N,N,N,N,N,N,N,N,N,N,N,N,N,N,N,N,N,N,N,N,N,N,N,N,N,N,N,N,N] rfl rfl (any_of HT_.out (by kernel_rfl)) ?_
          refine take_ (i := 11) (N := some 72) (v := ?_) (a' := ?_) #[Y,Y,Y,Y,Y,Y,Y,Y,Y,Y,Y,Y,Y,N,N,N,N,N,N,N,N,N,N,N,N,N,N,N,N,N,N,N,N,N,N,N,N,N,N,N,N,N,N,N,N] rfl rfl (take_ofW HT_.out HW_.out (by kernel_rfl)) (fun _ _ _ h => h) (Or.inl ⟨by rfl, ?_⟩) hHeld ?_ ?_; rotate_left
          ·rintro w' ⟨s0, s1, s2, s3, s4, s5, s6, s7⟩; go_simp
           with_reducible rfl
          rotate_left
          ·simp only [Act.put, sA, sB, sC, i64_w, i32_w]
           rfl
          refine take_ (i := 13) (N := some 74) (v := ?_) (a' := ?_) #[Y,Y,Y,Y,Y,Y,Y,Y,Y,Y,Y,Y,Y,Y,N,N,N,N,N,N,N,N,N,N,N,N,N,N,N,N,N,N,N,N,N,N,N,N,N,N,N,N,N,N,N] rfl rfl (take_ofW HT_.out HW_.out (by kernel_rfl)) (fun _ _ _ h => h) (Or.inl ⟨by rfl, ?_⟩) hHeld ?_ ?_; rotate_left
          ·rintro w' ⟨s0, s1, s2, s3, s4, s5, s6, s7⟩; go_simp
           with_reducible rfl
          rotate_left
          ·simp only [Act.put, sA, sB, sC, i64_w, i32_w]
           rfl
          refine pureA_ (i := 14) (N := some 75) #[Y,Y,Y,Y,Y,Y,Y,Y,Y,Y,Y,Y,Y,Y,Y,N,N,N,N,N,N,N,N,N,N,N,N,N,N,N,N,N,N,N,N,N,N,N,N,N,N,N,N,N,N] rfl rfl (any_of HT_.out (by kernel_rfl)) ?_
          refine pureA_ (i := 15) (N := some 76) #[Y,Y,Y,Y,Y,Y,Y,Y,Y,Y,Y,Y,Y,Y,Y,Y,N,N,N,N,N,N,N,N,N,N,N,N,N,N,N,N,N,N,N,N,N,N,N,N,N,N,N,N,N] rfl rfl (any_of HT_.out (by kernel_rfl)) ?_
          refine pureA_ (i := 16) (N := some 77) #[Y,Y,Y,Y,Y,Y,Y,Y,Y,Y,Y,Y,Y,Y,Y,Y,Y,N,N,N,N,N,N,N,N,N,N,N,N,N,N,N,N,N,N,N,N,N,N,N,N,N,N,N,N] rfl rfl (any_of HT_.out (by kernel_rfl)) ?_
          refine pureA_ (i := 17) (N := some 78) #[Y,Y,Y,Y,Y,Y,Y,Y,Y,Y,Y,Y,Y,Y,Y,Y,Y,Y,N,N,N,N,N,N,N,N,N,N,N,N,N,N,N,N,N,N,N,N,N,N,N,N,N,N,N] rfl rfl (any_of HT_.out (by kernel_rfl)) ?_
          refine pureA_ (i := 19) (N := some 80) #[Y,Y,Y,Y,Y,Y,Y,Y,Y,Y,Y,Y,Y,Y,Y,Y,Y,Y,N,Y,N,N,N,N,N,N,N,N,N,N,N,N,N,N,N,N,N,N,N,N,N,N,N,N,N] rfl rfl (any_of HT_.out (by kernel_rfl)) ?_
          refine pureA_ (i := 21) (N := some 82) #[Y,Y,Y,Y,Y,Y,Y,Y,Y,Y,Y,Y,Y,Y,Y,Y,Y,Y,N,Y,N,Y,N,N,N,N,N,N,N,N,N,N,N,N,N,N,N,N,N,N,N,N,N,N,N] rfl rfl (any_of HT_.out (by kernel_rfl)) ?_
          refine pureA_ (i := 22) (N := some 83) #[Y,Y,Y,Y,Y,Y,Y,Y,Y,Y,Y,Y,Y,Y,Y,Y,Y,Y,N,Y,N,Y,Y,N,N,N,N,N,N,N,N,N,N,N,N,N,N,N,N,N,N,N,N,N,N] rfl rfl (any_of HT_.out (by kernel_rfl)) ?_
          refine take_ (i := 18) (N := some 79) (v := ?_) (a' := ?_) #[Y,Y,Y,Y,Y,Y,Y,Y,Y,Y,Y,Y,Y,Y,Y,Y,Y,Y,Y,Y,N,Y,Y,N,N,N,N,N,N,N,N,N,N,N,N,N,N,N,N,N,N,N,N,N,N] rfl rfl (take_ofW HT_.out HW_.out (by kernel_rfl)) (fun _ _ _ h => h) (Or.inl ⟨by rfl, ?_⟩) hHeld ?_ ?_; rotate_left
          ·rintro w' ⟨s0, s1, s2, s3, s4, s5, s6, s7⟩; go_simp
           with_reducible rfl
          rotate_left
          ·simp only [Act.put, sA, sB, sC, i64_w, i32_w]
           rfl
          refine take_ (i := 20) (N := some 81) (v := ?_) (a' := ?_) #[Y,Y,Y,Y,Y,Y,Y,Y,Y,Y,Y,Y,Y,Y,Y,Y,Y,Y,Y,Y,Y,Y,Y,N,N,N,N,N,N,N,N,N,N,N,N,N,N,N,N,N,N,N,N,N,N] rfl rfl (take_ofW HT_.out HW_.out (by kernel_rfl)) (fun _ _ _ h => h) (Or.inl ⟨by rfl, ?_⟩) hHeld ?_ ?_; rotate_left
          ·rintro w' ⟨s0, s1, s2, s3, s4, s5, s6, s7⟩; go_simp
           with_reducible rfl
          rotate_left
          ·simp only [Act.put, sA, sB, sC, i64_w, i32_w]
           rfl
          refine pureA_ (i := 23) (N := some 84) #[Y,Y,Y,Y,Y,Y,Y,Y,Y,Y,Y,Y,Y,Y,Y,Y,Y,Y,Y,Y,Y,Y,Y,Y,N,N,N,N,N,N,N,N,N,N,N,N,N,N,N,N,N,N,N,N,N] rfl rfl (any_of HT_.out (by kernel_rfl)) ?_
          refine pureA_ (i := 24) (N := some 85) #[Y,Y,Y,Y,Y,Y,Y,Y,Y,Y,Y,Y,Y,Y,Y,Y,Y,Y,Y,Y,Y,Y,Y,Y,Y,N,N,N,N,N,N,N,N,N,N,N,N,N,N,N,N,N,N,N,N] rfl rfl (any_of HT_.out (by kernel_rfl)) ?_
          refine pureA_ (i := 25) (N := some 86) #[Y,Y,Y,Y,Y,Y,Y,Y,Y,Y,Y,Y,Y,Y,Y,Y,Y,Y,Y,Y,Y,Y,Y,Y,Y,Y,N,N,N,N,N,N,N,N,N,N,N,N,N,N,N,N,N,N,N] rfl rfl (any_of HT_.out (by kernel_rfl)) ?_
          refine pureA_ (i := 26) (N := some 87) #[Y,Y,Y,Y,Y,Y,Y,Y,Y,Y,Y,Y,Y,Y,Y,Y,Y,Y,Y,Y,Y,Y,Y,Y,Y,Y,Y,N,N,N,N,N,N,N,N,N,N,N,N,N,N,N,N,N,N] rfl rfl (any_of HT_.out (by kernel_rfl)) ?_
          refine pureA_ (i := 28) (N := some 89) #[Y,Y,Y,Y,Y,Y,Y,Y,Y,Y,Y,Y,Y,Y,Y,Y,Y,Y,Y,Y,Y,Y,Y,Y,Y,Y,Y,N,Y,N,N,N,N,N,N,N,N,N,N,N,N,N,N,N,N] rfl rfl (any_of HT_.out (by kernel_rfl)) ?_
          refine pureA_ (i := 29) (N := some 90) #[Y,Y,Y,Y,Y,Y,Y,Y,Y,Y,Y,Y,Y,Y,Y,Y,Y,Y,Y,Y,Y,Y,Y,Y,Y,Y,Y,N,Y,Y,N,N,N,N,N,N,N,N,N,N,N,N,N,N,N] rfl rfl (any_of HT_.out (by kernel_rfl)) ?_
          refine pureA_ (i := 32) (N := some 93) #[Y,Y,Y,Y,Y,Y,Y,Y,Y,Y,Y,Y,Y,Y,Y,Y,Y,Y,Y,Y,Y,Y,Y,Y,Y,Y,Y,N,Y,Y,N,N,Y,N,N,N,N,N,N,N,N,N,N,N,N] rfl rfl (any_of HT_.out (by kernel_rfl)) ?_
          refine pureA_ (i := 33) (N := some 94) #[Y,Y,Y,Y,Y,Y,Y,Y,Y,Y,Y,Y,Y,Y,Y,Y,Y,Y,Y,Y,Y,Y,Y,Y,Y,Y,Y,N,Y,Y,N,N,Y,Y,N,N,N,N,N,N,N,N,N,N,N] rfl rfl (any_of HT_.out (by kernel_rfl)) ?_
          refine take_ (i := 27) (N := some 88) (v := ?_) (a' := ?_) #[Y,Y,Y,Y,Y,Y,Y,Y,Y,Y,Y,Y,Y,Y,Y,Y,Y,Y,Y,Y,Y,Y,Y,Y,Y,Y,Y,Y,Y,Y,N,N,Y,Y,N,N,N,N,N,N,N,N,N,N,N] rfl rfl (take_ofW HT_.out HW_.out (by kernel_rfl)) (fun _ _ _ h => h) (Or.inl ⟨by rfl, ?_⟩) hHeld ?_ ?_; rotate_left
          ·rintro w' ⟨s0, s1, s2, s3, s4, s5, s6, s7⟩; go_simp
           with_reducible rfl
          rotate_left
          ·simp only [Act.put, sA, sB, sC, i64_w, i32_w]
           rfl
          refine take_ (i := 31) (N := some 92) (v := ?_) (a' := ?_) #[Y,Y,Y,Y,Y,Y,Y,Y,Y,Y,Y,Y,Y,Y,Y,Y,Y,Y,Y,Y,Y,Y,Y,Y,Y,Y,Y,Y,Y,Y,N,Y,Y,Y,N,N,N,N,N,N,N,N,N,N,N] rfl rfl (take_ofW HT_.out HW_.out (by kernel_rfl)) (fun _ _ _ h => h) (Or.inl ⟨by rfl, ?_⟩) hHeld ?_ ?_; rotate_left
          ·rintro w' ⟨s0, s1, s2, s3, s4, s5, s6, s7⟩; go_simp
           with_reducible rfl
          rotate_left
          ·simp only [Act.put, sA, sB, sC, i64_w, i32_w]
           rfl
          refine one_ (i := 30) (N := some 91) #[Y,Y,Y,Y,Y,Y,Y,Y,Y,Y,Y,Y,Y,Y,Y,Y,Y,Y,Y,Y,Y,Y,Y,Y,Y,Y,Y,Y,Y,Y,Y,Y,Y,Y,N,N,N,N,N,N,N,N,N,N,N] rfl rfl (one_of HT_.out (by kernel_rfl)) (by decide) (fun K hK => ?_); refine goesA_ Try.func16 rfl #[.agg #[.int .i64 a0_0, .int .i64 a0_1], .int .i64 a5, .int .i64 a3] (by rfl) rfl rfl ?_
          with_reducible refine (bucket_WaitS.calls a0_0 a0_1 a5 a3 t567 _ A26.out).mono ?_
          rintro e w50 ⟨rfl, hb⟩; refine ⟨_, rfl, ?_⟩; replace BK555 := bbZ BK555 hb; replace BK558 := Aside0.mk (blk_below (g := gb558) (o := .cells #[.int .i64 (wrap64 (a0_0 + (wrap64 (a1)))), .int .i64 a0_1] 23 (0, 0)) BK558.out hb); replace BK562 := bbZ BK562 hb; replace BK566 := bbZ BK566 hb; replace HB := Aside0.mk (below_step HB.out hb); clear hb; refine hK.out _ _ ⟨(blk_cell BK562.out 0).trans rfl, (blk_cell BK562.out 1).trans rfl, (blk_cell BK566.out 0).trans rfl, (blk_cell BK566.out 1).trans rfl, (blk_cell BK555.out 0).trans rfl, (blk_cell BK555.out 1).trans rfl, (blk_cell BK558.out 0).trans rfl, (blk_cell BK558.out 1).trans rfl⟩ (fun hHeld => ?_); clear hK K; refine normA_ (some 91) ?_
          refine one_ (i := 34) (N := some 95) #[Y,Y,Y,Y,Y,Y,Y,Y,Y,Y,Y,Y,Y,Y,Y,Y,Y,Y,Y,Y,Y,Y,Y,Y,Y,Y,Y,Y,Y,Y,Y,Y,Y,Y,Y,N,N,N,N,N,N,N,N,N,N] rfl rfl (one_of HT_.out (by kernel_rfl)) (by decide) (fun K hK => ?_); refine goesA_ Try.func16 rfl #[.agg #[.int .i64 (wrap64 (a0_0 + (wrap64 (a1)))), .int .i64 a0_1], .int .i64 a5, .int .i64 a3] (by rfl) rfl rfl ?_
          with_reducible refine (bucket_WaitS.calls (wrap64 (a0_0 + (wrap64 (a1)))) a0_1 a5 a3 t568 _ A27.out).mono ?_
          rintro e w51 ⟨rfl, hb⟩; refine ⟨_, rfl, ?_⟩; replace BK555 := bbZ BK555 hb; replace BK558 := Aside0.mk (blk_below (g := gb558) (o := .cells #[.int .i64 (wrap64 (a0_0 + (wrap64 (a1)))), .int .i64 a0_1] 23 (0, 0)) BK558.out hb); replace BK562 := bbZ BK562 hb; replace BK566 := bbZ BK566 hb; replace HB := Aside0.mk (below_step HB.out hb); clear hb; refine hK.out _ _ ⟨(blk_cell BK562.out 0).trans rfl, (blk_cell BK562.out 1).trans rfl, (blk_cell BK566.out 0).trans rfl, (blk_cell BK566.out 1).trans rfl, (blk_cell BK555.out 0).trans rfl, (blk_cell BK555.out 1).trans rfl, (blk_cell BK558.out 0).trans rfl, (blk_cell BK558.out 1).trans rfl⟩ (fun hHeld => ?_); clear hK K; refine normA_ (some 95) ?_
          refine pureA_ (i := 35) (N := some 96) #[Y,Y,Y,Y,Y,Y,Y,Y,Y,Y,Y,Y,Y,Y,Y,Y,Y,Y,Y,Y,Y,Y,Y,Y,Y,Y,Y,Y,Y,Y,Y,Y,Y,Y,Y,Y,N,N,N,N,N,N,N,N,N] rfl rfl (any_of HT_.out (by kernel_rfl)) ?_
          refine pureA_ (i := 36) (N := some 97) #[Y,Y,Y,Y,Y,Y,Y,Y,Y,Y,Y,Y,Y,Y,Y,Y,Y,Y,Y,Y,Y,Y,Y,Y,Y,Y,Y,Y,Y,Y,Y,Y,Y,Y,Y,Y,Y,N,N,N,N,N,N,N,N] rfl rfl (any_of HT_.out (by kernel_rfl)) ?_
          refine pureA_ (i := 37) (N := some 98) #[Y,Y,Y,Y,Y,Y,Y,Y,Y,Y,Y,Y,Y,Y,Y,Y,Y,Y,Y,Y,Y,Y,Y,Y,Y,Y,Y,Y,Y,Y,Y,Y,Y,Y,Y,Y,Y,Y,N,N,N,N,N,N,N] rfl rfl (any_of HT_.out (by kernel_rfl)) ?_
          refine take_ (i := 38) (N := some 99) (v := ?_) (a' := ?_) #[Y,Y,Y,Y,Y,Y,Y,Y,Y,Y,Y,Y,Y,Y,Y,Y,Y,Y,Y,Y,Y,Y,Y,Y,Y,Y,Y,Y,Y,Y,Y,Y,Y,Y,Y,Y,Y,Y,Y,N,N,N,N,N,N] rfl rfl (take_ofW HT_.out HW_.out (by kernel_rfl)) (fun _ _ _ h => h) (Or.inl ⟨by rfl, ?_⟩) hHeld ?_ ?_; rotate_left
          ·rintro w' ⟨s0, s1, s2, s3, s4, s5, s6, s7⟩; go_simp
           with_reducible rfl
          rotate_left
          ·simp only [Act.put, sA, sB, sC, i64_w, i32_w]
           rfl
          refine take_ (i := 40) (N := some 101) (v := ?_) (a' := ?_) #[Y,Y,Y,Y,Y,Y,Y,Y,Y,Y,Y,Y,Y,Y,Y,Y,Y,Y,Y,Y,Y,Y,Y,Y,Y,Y,Y,Y,Y,Y,Y,Y,Y,Y,Y,Y,Y,Y,Y,N,Y,N,N,N,N] rfl rfl (take_ofW HT_.out HW_.out (by kernel_rfl)) (fun _ _ _ h => h) (Or.inl ⟨by rfl, ?_⟩) hHeld ?_ ?_; rotate_left
          ·rintro w' ⟨s0, s1, s2, s3, s4, s5, s6, s7⟩; go_simp
           with_reducible rfl
          rotate_left
          ·simp only [Act.put, sA, sB, sC, i64_w, i32_w]
           rfl
          refine one_ (i := 39) (N := some 100) #[Y,Y,Y,Y,Y,Y,Y,Y,Y,Y,Y,Y,Y,Y,Y,Y,Y,Y,Y,Y,Y,Y,Y,Y,Y,Y,Y,Y,Y,Y,Y,Y,Y,Y,Y,Y,Y,Y,Y,Y,Y,N,N,N,N] rfl rfl (one_of HT_.out (by kernel_rfl)) (by decide) (fun K hK => ?_); refine goesA_ Try.func18 rfl #[.agg #[.int .i64 a0_0, .int .i64 a0_1]] (by rfl) rfl rfl ?_
          with_reducible refine (bucket_BytesS.calls a0_0 a0_1 t569 _ A29.out).mono ?_
          rintro e w52 ⟨rfl, hb⟩; refine ⟨_, rfl, ?_⟩; replace BK555 := bbZ BK555 hb; replace BK558 := Aside0.mk (blk_below (g := gb558) (o := .cells #[.int .i64 (wrap64 (a0_0 + (wrap64 (a1)))), .int .i64 a0_1] 23 (0, 0)) BK558.out hb); replace BK562 := bbZ BK562 hb; replace BK566 := bbZ BK566 hb; replace HB := Aside0.mk (below_step HB.out hb); clear hb; refine hK.out _ _ ⟨(blk_cell BK562.out 0).trans rfl, (blk_cell BK562.out 1).trans rfl, (blk_cell BK566.out 0).trans rfl, (blk_cell BK566.out 1).trans rfl, (blk_cell BK555.out 0).trans rfl, (blk_cell BK555.out 1).trans rfl, (blk_cell BK558.out 0).trans rfl, (blk_cell BK558.out 1).trans rfl⟩ (fun hHeld => ?_); clear hK K; refine normA_ (some 100) ?_
          refine one_ (i := 41) (N := some 102) #[Y,Y,Y,Y,Y,Y,Y,Y,Y,Y,Y,Y,Y,Y,Y,Y,Y,Y,Y,Y,Y,Y,Y,Y,Y,Y,Y,Y,Y,Y,Y,Y,Y,Y,Y,Y,Y,Y,Y,Y,Y,Y,N,N,N] rfl rfl (one_of HT_.out (by kernel_rfl)) (by decide) (fun K hK => ?_); refine goesA_ Try.func18 rfl #[.agg #[.int .i64 (wrap64 (a0_0 + (wrap64 (a1)))), .int .i64 a0_1]] (by rfl) rfl rfl ?_
          with_reducible refine (bucket_BytesS.calls (wrap64 (a0_0 + (wrap64 (a1)))) a0_1 t570 _ A30.out).mono ?_
          rintro e w53 ⟨rfl, hb⟩; refine ⟨_, rfl, ?_⟩; replace BK555 := bbZ BK555 hb; replace BK558 := Aside0.mk (blk_below (g := gb558) (o := .cells #[.int .i64 (wrap64 (a0_0 + (wrap64 (a1)))), .int .i64 a0_1] 23 (0, 0)) BK558.out hb); replace BK562 := bbZ BK562 hb; replace BK566 := bbZ BK566 hb; replace HB := Aside0.mk (below_step HB.out hb); clear hb; refine hK.out _ _ ⟨(blk_cell BK562.out 0).trans rfl, (blk_cell BK562.out 1).trans rfl, (blk_cell BK566.out 0).trans rfl, (blk_cell BK566.out 1).trans rfl, (blk_cell BK555.out 0).trans rfl, (blk_cell BK555.out 1).trans rfl, (blk_cell BK558.out 0).trans rfl, (blk_cell BK558.out 1).trans rfl⟩ (fun hHeld => ?_); clear hK K; refine normA_ (some 102) ?_
          refine pureA_ (i := 42) (N := some 103) #[Y,Y,Y,Y,Y,Y,Y,Y,Y,Y,Y,Y,Y,Y,Y,Y,Y,Y,Y,Y,Y,Y,Y,Y,Y,Y,Y,Y,Y,Y,Y,Y,Y,Y,Y,Y,Y,Y,Y,Y,Y,Y,Y,N,N] rfl rfl (any_of HT_.out (by kernel_rfl)) ?_
          refine pureA_ (i := 43) (N := some 104) #[Y,Y,Y,Y,Y,Y,Y,Y,Y,Y,Y,Y,Y,Y,Y,Y,Y,Y,Y,Y,Y,Y,Y,Y,Y,Y,Y,Y,Y,Y,Y,Y,Y,Y,Y,Y,Y,Y,Y,Y,Y,Y,Y,Y,N] rfl rfl (any_of HT_.out (by kernel_rfl)) ?_
          refine pureA_ (i := 44) (N := some 12) #[Y,Y,Y,Y,Y,Y,Y,Y,Y,Y,Y,Y,Y,Y,Y,Y,Y,Y,Y,Y,Y,Y,Y,Y,Y,Y,Y,Y,Y,Y,Y,Y,Y,Y,Y,Y,Y,Y,Y,Y,Y,Y,Y,Y,Y] rfl rfl (any_of HT_.out (by kernel_rfl)) ?_
          refine done_ (done_of HT_.out (by kernel_rfl)) ?_
          try go_wp2
          go_ret
          exact ⟨by first | rfl | (simp [errW_none, errW_some] <;> rfl) | (simp [*, errW_none, errW_some] <;> rfl), by repeat (first | (with_reducible first | exact HB.out | apply below_alloc | apply pw_below_drewN | apply below_drew1 | refine below_set ?_ (Aside0.out (by assumption))) | exact HB.out)⟩
         ·rw [if_neg c28] at H
          have c28b0 : (t567 == t568) = false := beq_eq_false_iff_ne.mpr c28; have c28b1 : (t567 != t568) = true := bne_iff_ne.mpr c28; exact absurd H (by simp)
        ·rw [if_neg c25] at H
         have c25b0 : (t563 == (wrap64 (t559 + (wrap64 (a1))))) = false := beq_eq_false_iff_ne.mpr c25; have c25b1 : (t563 != (wrap64 (t559 + (wrap64 (a1))))) = true := bne_iff_ne.mpr c25; exact absurd H (by simp)
       ·rw [if_neg c24] at H
        have c24b0 : (t560 == t564) = false := beq_eq_false_iff_ne.mpr c24; have c24b1 : (t560 != t564) = true := bne_iff_ne.mpr c24; exact absurd H (by simp)
      ·rw [if_neg c23] at H
       have c23b0 : (t565 == 0) = false := beq_eq_false_iff_ne.mpr c23; have c23b1 : (t565 != 0) = true := bne_iff_ne.mpr c23; exact absurd H (by simp)
     ·rw [if_neg c22] at H
      have c22b0 : (t561 == 0) = false := beq_eq_false_iff_ne.mpr c22; have c22b1 : (t561 != 0) = true := bne_iff_ne.mpr c22; exact absurd H (by simp)
    ·replace c21 := Bool.eq_false_iff.mpr c21
     subst c21
     have H1 : (none) = some r := by rw [if_neg (show ¬ (false = true) by decide)] at H; exact H
     clear H; have H := H1; clear H1; exact absurd H (by simp)

end Go.Proofs.Ytidpdaiolkcgnaa.Px
