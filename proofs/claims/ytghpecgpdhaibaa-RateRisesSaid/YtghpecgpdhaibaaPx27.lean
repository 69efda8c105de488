/- Printed by a program of this session (wip/tool/px.py), over the kit's print: for each Go function a Lean function, and the proof that the machine's call answers as that function says. Conditions: none beside what the theorems state. -/
import Derived.Test.YtghpecgpdhaibaaPx0
import Derived.Test.YtghpecgpdhaibaaPx25
import Derived.Test.YtghpecgpdhaibaaPx26
namespace Go.Proofs.Ytghpecgpdhaibaa.Px
open Go.RowKit Go.Proofs.YtghpecgpdhaibaaW.PrintWords Go.Proofs.YtghpecgpdhaibaaW.PrintLast Go.Proofs.YtghpecgpdhaibaaW.PrintMore
attribute [local go_sem] max2_int min2_int max_two min_two max_three min_three max_four min_four   -- for this text's walks alone
set_option linter.unusedVariables false
set_option linter.unusedSimpArgs false

/-! ### sawtoothlaw17_RateRises: function 5 -/
noncomputable def sawtoothlaw17_RateRises.j0 : Nat → Int → Int → Int → Int → Bool → Bool → Bool → Bool → Int → Int → Option (Bool)
 | 0, _, _, _, _, _, _, _, _, _, _ => none
 | k + 1, x0, x1, x2, x3, x6, x15, x18, x294000, x294001, x294002 => if x15 = true then ((rate_OfS.f (mn x0 x1) x2 x294000 x294001 x294002 x6).bind fun t297 => ((rate_OfS.f (mx x0 x1) x2 x294000 x294001 x294002 x6).bind fun t298 => (if t297 ≤ t298 then ((rate_OfS.f x0 (mn x2 x3) x294000 x294001 x294002 x6).bind fun t299 => ((rate_OfS.f x0 (mx x2 x3) x294000 x294001 x294002 x6).bind fun t300 => (if t299 ≤ t300 then (if x18 = true then ((rate_OfS.f x0 x2 x294000 x294001 x294002 false).bind fun t301 => ((rate_OfS.f x0 x2 x294000 x294001 x294002 true).bind fun t302 => (some (decide (t301 ≤ t302))))) else (none)) else (none)))) else (none)))) else (none)
noncomputable def sawtoothlaw17_RateRises.f (k : Nat) (a0 : Int) (a1 : Int) (a2 : Int) (a3 : Int) (a4 : Int) (a5 : Int) (a6 : Bool) : Option (Bool) := (sawtoothlaw17_awakeS.f).bind fun t292 => (if (wrap64 (8 * (wrap64 (1 + (wrap64 (Int.tmod (mn a4 a5) 1073741824)))))) > (wrap64 (8 * (wrap64 (1 + (wrap64 (Int.tmod (mx a4 a5) 1073741824)))))) then (sawtoothlaw17_RateRises.j0 k a0 a1 a2 a3 a6 t292 true true (wrap64 (8 * (wrap64 (1 + (wrap64 (Int.tmod (mn a4 a5) 1073741824)))))) 0) else ((rate_OfS.f a0 a2 true (wrap64 (8 * (wrap64 (1 + (wrap64 (Int.tmod (mx a4 a5) 1073741824)))))) 0 a6).bind fun t295 => ((rate_OfS.f a0 a2 true (wrap64 (8 * (wrap64 (1 + (wrap64 (Int.tmod (mn a4 a5) 1073741824)))))) 0 a6).bind fun t296 => (sawtoothlaw17_RateRises.j0 k a0 a1 a2 a3 a6 t292 (decide (t295 ≤ t296)) true (wrap64 (8 * (wrap64 (1 + (wrap64 (Int.tmod (mn a4 a5) 1073741824)))))) 0))))
theorem sawtoothlaw17_RateRises.mono_l : ∀ k, (∀ y0 y1 y2 y3 y4 y5 y6 y7 y8 y9, LeO (sawtoothlaw17_RateRises.j0 k y0 y1 y2 y3 y4 y5 y6 y7 y8 y9) (sawtoothlaw17_RateRises.j0 (k + 1) y0 y1 y2 y3 y4 y5 y6 y7 y8 y9))
 | 0 => fun _ _ _ _ _ _ _ _ _ _ r h => by simp [sawtoothlaw17_RateRises.j0] at h
 | k + 1 => by
  have ih0 := sawtoothlaw17_RateRises.mono_l k
  ·intro y0 y1 y2 y3 y4 y5 y6 y7 y8 y9
   unfold sawtoothlaw17_RateRises.j0
   repeat' first
   | (with_reducible exact ih0 _ _ _ _ _ _ _ _ _ _)
   | (with_reducible exact LeO.refl _)
   | (with_reducible exact LeO.none _)
   | (with_reducible refine LeO.ite ?_ ?_)
   | (with_reducible refine LeO.bind ?_ (fun _ => ?_))
   | exact ih0 _ _ _ _ _ _ _ _ _ _
   | exact LeO.none _
   | refine LeO.ite ?_ ?_
   | refine LeO.bind ?_ (fun _ => ?_)
theorem sawtoothlaw17_RateRises.mono : ∀ a0 a1 a2 a3 a4 a5 a6 k, LeO (sawtoothlaw17_RateRises.f k a0 a1 a2 a3 a4 a5 a6) (sawtoothlaw17_RateRises.f (k + 1) a0 a1 a2 a3 a4 a5 a6) := by
 intro a0 a1 a2 a3 a4 a5 a6 k; have ih0 := sawtoothlaw17_RateRises.mono_l k
 unfold sawtoothlaw17_RateRises.f
 repeat' first
   | (with_reducible exact ih0 _ _ _ _ _ _ _ _ _ _)
   | (with_reducible exact LeO.refl _)
   | (with_reducible exact LeO.none _)
   | (with_reducible refine LeO.ite ?_ ?_)
   | (with_reducible refine LeO.bind ?_ (fun _ => ?_))
   | exact ih0 _ _ _ _ _ _ _ _ _ _
   | exact LeO.none _
   | refine LeO.ite ?_ ?_
   | refine LeO.bind ?_ (fun _ => ?_)
def sawtoothlaw17_RateRises.T4 : Bool × List (List Nat × List Nat) := (true, [([], []), ([0], [0]), ([], []), ([2], [2]), ([1, 3], [1, 3]), ([4], [4]), ([5], [5]), ([5], [5]), ([5], [5]), ([5], [5]), ([6, 7, 8, 9, 5, 5], [5, 6, 7, 8, 9]), ([5], [5]), ([5], [5]), ([5], [5]), ([5], [5]), ([11, 12, 13, 14, 10, 5], [5, 11, 12, 13, 14]), ([10, 15, 5], [5, 10, 15]), ([5, 16], [5, 16]), ([17, 15, 0, 1, 2, 3, 4, 5, 6, 7, 8, 9, 10, 11, 12, 13, 14, 15, 16, 17], [17])])
def sawtoothlaw17_RateRises.B4 : List Nat := [0, 1, 0, 4, 15, 31, 63, 63, 63, 63, 1023, 63, 63, 63, 63, 32767, 65535, 131071, 262143]
theorem sawtoothlaw17_RateRises.tab4 : rtab .any (opsOf Try.f5 4) = sawtoothlaw17_RateRises.T4 := by kernel_rfl
theorem sawtoothlaw17_RateRises.bits4 : waitsOk sawtoothlaw17_RateRises.T4.2 sawtoothlaw17_RateRises.B4 = true := by kernel_rfl
def sawtoothlaw17_RateRises.T5 : Bool × List (List Nat × List Nat) := (true, [([], []), ([0], [0]), ([1], [1]), ([1], [1]), ([2, 3, 1], [1, 2, 3]), ([1], [1]), ([1], [1]), ([1], [1]), ([4, 5, 6, 7, 1, 1], [1, 4, 5, 6, 7]), ([1], [1]), ([1], [1]), ([9, 10, 1], [1, 9, 10]), ([1], [1]), ([1], [1]), ([1], [1]), ([11, 12, 13, 14, 8, 1], [1, 11, 12, 13, 14]), ([8, 15, 1], [1, 8, 15]), ([1, 16], [1, 16]), ([17, 15], [17]), ([18], [18]), ([18], [18]), ([18], [18]), ([20, 21, 18], [18, 20, 21]), ([18], [18]), ([18], [18]), ([19, 22, 23, 24, 18, 18], [18, 19, 22, 23, 24]), ([18], [18]), ([18], [18]), ([18], [18]), ([27, 28, 18], [18, 27, 28]), ([18], [18]), ([18], [18]), ([26, 29, 30, 31, 25, 18], [18, 26, 29, 30, 31]), ([25, 32, 18], [18, 25, 32]), ([18, 33], [18, 33]), ([34, 32], [34]), ([35], [35]), ([35, 36], [35, 36]), ([37, 35], [37]), ([38], [38]), ([38], [38]), ([38], [38]), ([39, 40, 41, 38, 38], [38, 39, 40, 41]), ([38], [38]), ([38], [38]), ([38], [38]), ([43, 44, 45, 42, 38], [38, 43, 44, 45]), ([42, 46, 38], [38, 42, 46]), ([38, 47], [38, 47]), ([48, 46, 0, 1, 2, 3, 4, 5, 6, 7, 8, 9, 10, 11, 12, 13, 14, 15, 16, 17, 18, 19, 20, 21, 22, 23, 24, 25, 26, 27, 28, 29, 30, 31, 32, 33, 34, 35, 36, 37, 38, 39, 40, 41, 42, 43, 44, 45, 46, 47, 48], [48])])
def sawtoothlaw17_RateRises.B5 : List Nat := [0, 1, 3, 3, 15, 3, 3, 3, 255, 3, 3, 1539, 3, 3, 3, 32767, 65535, 131071, 262143, 524287, 524287, 524287, 3670015, 524287, 524287, 33554431, 524287, 524287, 524287, 403177471, 524287, 524287, 4294967295, 8589934591, 17179869183, 34359738367, 68719476735, 137438953471, 274877906943, 549755813887, 549755813887, 549755813887, 4398046511103, 549755813887, 549755813887, 549755813887, 70368744177663, 140737488355327, 281474976710655, 562949953421311]
theorem sawtoothlaw17_RateRises.tab5 : rtab .any (opsOf Try.f5 5) = sawtoothlaw17_RateRises.T5 := by kernel_rfl
theorem sawtoothlaw17_RateRises.bits5 : waitsOk sawtoothlaw17_RateRises.T5.2 sawtoothlaw17_RateRises.B5 = true := by kernel_rfl
set_option maxHeartbeats 8000000 in
set_option maxRecDepth 100000 in
theorem sawtoothlaw17_RateRises.calls (k : Nat) (a0 : Int) (a1 : Int) (a2 : Int) (a3 : Int) (a4 : Int) (a5 : Int) (a6 : Bool) (r : Bool) (w : World) (h : sawtoothlaw17_RateRises.f k a0 a1 a2 a3 a4 a5 a6 = some r) :
  Calls Try.prog 5 #[.int .i64 a0, .int .i64 a1, .int .i64 a2, .int .i64 a3, .int .u32 a4, .int .u32 a5, .bool a6] w fun e w' => e = .returned (.bool r) ∧ Below w.heap.size w w' := by
 have hu23 := Try.underlying23; have HB := Aside0.mk (Below.refl w.heap.size w); have H : ((sawtoothlaw17_awakeS.f).bind fun t292 => (if (wrap64 (8 * (wrap64 (1 + (wrap64 (Int.tmod (mn a4 a5) 1073741824)))))) > (wrap64 (8 * (wrap64 (1 + (wrap64 (Int.tmod (mx a4 a5) 1073741824)))))) then (sawtoothlaw17_RateRises.j0 k a0 a1 a2 a3 a6 t292 true true (wrap64 (8 * (wrap64 (1 + (wrap64 (Int.tmod (mn a4 a5) 1073741824)))))) 0) else ((rate_OfS.f a0 a2 true (wrap64 (8 * (wrap64 (1 + (wrap64 (Int.tmod (mx a4 a5) 1073741824)))))) 0 a6).bind fun t295 => ((rate_OfS.f a0 a2 true (wrap64 (8 * (wrap64 (1 + (wrap64 (Int.tmod (mn a4 a5) 1073741824)))))) 0 a6).bind fun t296 => (sawtoothlaw17_RateRises.j0 k a0 a1 a2 a3 a6 t292 (decide (t295 ≤ t296)) true (wrap64 (8 * (wrap64 (1 + (wrap64 (Int.tmod (mn a4 a5) 1073741824)))))) 0))))) = some r := h; clear h; replace H := Option.bind_eq_some_iff.mp H; obtain ⟨t292, A80, H⟩ := H; (try dsimp only at H); have A8 := Aside0.mk A80; clear A80
 obtain ⟨ji9, hji9⟩ : ∃ j_ : Int, (mn a4 a5) = j_ := ⟨_, rfl⟩
 replace H : (if (wrap64 (8 * (wrap64 (1 + (wrap64 (Int.tmod (ji9) 1073741824)))))) > (wrap64 (8 * (wrap64 (1 + (wrap64 (Int.tmod (mx a4 a5) 1073741824)))))) then (sawtoothlaw17_RateRises.j0 k a0 a1 a2 a3 a6 t292 true true (wrap64 (8 * (wrap64 (1 + (wrap64 (Int.tmod (ji9) 1073741824)))))) 0) else ((rate_OfS.f a0 a2 true (wrap64 (8 * (wrap64 (1 + (wrap64 (Int.tmod (mx a4 a5) 1073741824)))))) 0 a6).bind fun t295 => ((rate_OfS.f a0 a2 true (wrap64 (8 * (wrap64 (1 + (wrap64 (Int.tmod (ji9) 1073741824)))))) 0 a6).bind fun t296 => (sawtoothlaw17_RateRises.j0 k a0 a1 a2 a3 a6 t292 (decide (t295 ≤ t296)) true (wrap64 (8 * (wrap64 (1 + (wrap64 (Int.tmod (ji9) 1073741824)))))) 0)))) = some r := by first | (rw [hji9] at H; exact H) | (simp only [hji9] at H ⊢; exact H)
 (try rw [hji9] at A8)
 have hji9_ : (if a5 < a4 then a5 else a4) = ji9 := hji9
 obtain ⟨ji10, hji10⟩ : ∃ j_ : Int, (mx a4 a5) = j_ := ⟨_, rfl⟩
 replace H : (if (wrap64 (8 * (wrap64 (1 + (wrap64 (Int.tmod (ji9) 1073741824)))))) > (wrap64 (8 * (wrap64 (1 + (wrap64 (Int.tmod (ji10) 1073741824)))))) then (sawtoothlaw17_RateRises.j0 k a0 a1 a2 a3 a6 t292 true true (wrap64 (8 * (wrap64 (1 + (wrap64 (Int.tmod (ji9) 1073741824)))))) 0) else ((rate_OfS.f a0 a2 true (wrap64 (8 * (wrap64 (1 + (wrap64 (Int.tmod (ji10) 1073741824)))))) 0 a6).bind fun t295 => ((rate_OfS.f a0 a2 true (wrap64 (8 * (wrap64 (1 + (wrap64 (Int.tmod (ji9) 1073741824)))))) 0 a6).bind fun t296 => (sawtoothlaw17_RateRises.j0 k a0 a1 a2 a3 a6 t292 (decide (t295 ≤ t296)) true (wrap64 (8 * (wrap64 (1 + (wrap64 (Int.tmod (ji9) 1073741824)))))) 0)))) = some r := by first | (rw [hji10] at H; exact H) | (simp only [hji10] at H ⊢; exact H)
 (try rw [hji10] at A8)
 have hji10_ : (if a4 < a5 then a5 else a4) = ji10 := hji10; have HC11 := Aside0.mk H; clear H
 go_enter Try.func5, Try.ntmps5
 go_upto_region 4 with (first | ((with_reducible refine gate_callee (f := 15) rfl ?_); refine goesLA_ (some 19) rfl rfl Try.func15 rfl #[] rfl ?_; (with_reducible refine (sawtoothlaw17_awakeS.calls  t292 _ A8.out).mono ?_); rintro e w12 ⟨rfl, hb⟩; refine ⟨_, rfl, ?_⟩; replace HB := stA hb; clear hb) | ((with_reducible refine gate_dst (N := 16) rfl ?_); refine box_event ?hg (N := 16) ?hd (cs := #[.bool false, .int .i64 0, .int .i64 0]) (t := 23) ?hr ?_; (case hd => rfl); (case hg => rfl); (case hr => first | (go_simp; done) | (go_simp; rfl)); intro gb293 hg w13 hbox hb; have BK293 := Aside0.mk (hbox); obtain ⟨GW293, nHB⟩ := geA hg hb; have GE293 := GW293; replace HB := nHB; clear nHB; clear hb hbox hg; have hcz14_0 := czZ BK293 0 (.bool false); have hcz14_1 := czZ BK293 1 (.int .i64 0); have hcz14_2 := czZ BK293 2 (.int .i64 0); have hfz14_0 := blk_frozen BK293.out 0; have hfz14_1 := blk_frozen BK293.out 1; have hfz14_2 := blk_frozen BK293.out 2) | ((with_reducible refine gate_dst (N := 17) rfl ?_); refine box_event ?hg (N := 17) ?hd (cs := #[.bool false, .int .i64 0, .int .i64 0]) (t := 23) ?hr ?_; (case hd => rfl); (case hg => rfl); (case hr => first | (go_simp; done) | (go_simp; rfl)); intro gb294 hg w15 hbox hb; have BK294 := Aside0.mk (hbox); obtain ⟨GW294, nHB⟩ := geA hg hb; have GE294 := GW294; have NB293_294 := Aside0.mk ((by rw [hg]; exact Nat.ne_of_lt (blk_lt (g := gb293) (o := .cells #[.bool true, .int .i64 (wrap64 (8 * (wrap64 (1 + (wrap64 (Int.tmod (ji9) 1073741824)))))), .int .i64 0] 23 (0, 0)) (by (with_reducible repeat first | apply blk_drewN | apply blk_drew | apply blk_alloc); refine blk_put (cs := #[.bool true, .int .i64 (wrap64 (8 * (wrap64 (1 + (wrap64 (Int.tmod (ji9) 1073741824)))))), .int .i64 0]) ?_ 2 _ rfl; (with_reducible repeat first | apply blk_drewN | apply blk_drew | apply blk_alloc); refine blk_put (cs := #[.bool true, .int .i64 0, .int .i64 0]) ?_ 1 _ rfl; (with_reducible repeat first | apply blk_drewN | apply blk_drew | apply blk_alloc); refine blk_put (cs := #[.bool false, .int .i64 0, .int .i64 0]) ?_ 0 _ rfl; (with_reducible repeat first | apply blk_drewN | apply blk_drew | apply blk_alloc); exact BK293.out)) : gb293 ≠ gb294)); have NB294_293 := Aside0.mk ((by rw [hg]; exact Nat.ne_of_gt (blk_lt (g := gb293) (o := .cells #[.bool true, .int .i64 (wrap64 (8 * (wrap64 (1 + (wrap64 (Int.tmod (ji9) 1073741824)))))), .int .i64 0] 23 (0, 0)) (by (with_reducible repeat first | apply blk_drewN | apply blk_drew | apply blk_alloc); refine blk_put (cs := #[.bool true, .int .i64 (wrap64 (8 * (wrap64 (1 + (wrap64 (Int.tmod (ji9) 1073741824)))))), .int .i64 0]) ?_ 2 _ rfl; (with_reducible repeat first | apply blk_drewN | apply blk_drew | apply blk_alloc); refine blk_put (cs := #[.bool true, .int .i64 0, .int .i64 0]) ?_ 1 _ rfl; (with_reducible repeat first | apply blk_drewN | apply blk_drew | apply blk_alloc); refine blk_put (cs := #[.bool false, .int .i64 0, .int .i64 0]) ?_ 0 _ rfl; (with_reducible repeat first | apply blk_drewN | apply blk_drew | apply blk_alloc); exact BK293.out)) : gb294 ≠ gb293)); replace BK293 := Aside0.mk (blk_below (g := gb293) (o := .cells #[.bool true, .int .i64 (wrap64 (8 * (wrap64 (1 + (wrap64 (Int.tmod (ji9) 1073741824)))))), .int .i64 0] 23 (0, 0)) (by (with_reducible repeat first | apply blk_drewN | apply blk_drew | apply blk_alloc); refine blk_put (cs := #[.bool true, .int .i64 (wrap64 (8 * (wrap64 (1 + (wrap64 (Int.tmod (ji9) 1073741824)))))), .int .i64 0]) ?_ 2 _ rfl; (with_reducible repeat first | apply blk_drewN | apply blk_drew | apply blk_alloc); refine blk_put (cs := #[.bool true, .int .i64 0, .int .i64 0]) ?_ 1 _ rfl; (with_reducible repeat first | apply blk_drewN | apply blk_drew | apply blk_alloc); refine blk_put (cs := #[.bool false, .int .i64 0, .int .i64 0]) ?_ 0 _ rfl; (with_reducible repeat first | apply blk_drewN | apply blk_drew | apply blk_alloc); exact BK293.out) hb); replace HB := nHB; clear nHB; clear hb hbox hg; have hnb16 := NB294_293.out; have hnc16 := NB293_294.out; have hcz17_0 := czZ BK294 0 (.bool false); have hcz17_1 := czZ BK294 1 (.int .i64 0); have hcz17_2 := czZ BK294 2 (.int .i64 0); have hfz17_0 := blk_frozen BK294.out 0; have hfz17_1 := blk_frozen BK294.out 1; have hfz17_2 := blk_frozen BK294.out 2))
 (try simp only [Act.put, sA, sB, sC])
 go_cut [18] (fun v18 wc => ∃ (kq : Nat) (x18_10 : Bool), v18 = .bool x18_10 ∧ Aside0 (sawtoothlaw17_RateRises.j0 kq a0 a1 a2 a3 a6 t292 x18_10 true (wrap64 (8 * (wrap64 (1 + (wrap64 (Int.tmod (ji9) 1073741824)))))) 0 = some r) ∧ Aside0 (kq ≤ k) ∧ Aside0 (wc.heap[gb293]? = some (.cells #[.bool true, .int .i64 (wrap64 (8 * (wrap64 (1 + (wrap64 (Int.tmod (ji9) 1073741824)))))), .int .i64 0] 23 (0, 0))) ∧ Aside0 (wc.heap[gb294]? = some (.cells #[.bool true, .int .i64 (wrap64 (8 * (wrap64 (1 + (wrap64 (Int.tmod (ji10) 1073741824)))))), .int .i64 0] 23 (0, 0))) ∧ Aside0 (Below w.heap.size w wc))
 case first =>
  have H := HC11.out; clear HC11
  by_cases c18 : (wrap64 (8 * (wrap64 (1 + (wrap64 (Int.tmod (ji9) 1073741824)))))) > (wrap64 (8 * (wrap64 (1 + (wrap64 (Int.tmod (ji10) 1073741824))))))
  ·rw [if_pos c18] at H
   have c18b0 : decide ((wrap64 (8 * (wrap64 (1 + (wrap64 (Int.tmod (ji10) 1073741824)))))) < (wrap64 (8 * (wrap64 (1 + (wrap64 (Int.tmod (ji9) 1073741824))))))) = true := decide_eq_true c18; clear c18
   (first | rw [c18b0] | (simp only [i64_w, i32_w]; rw [c18b0]) | skip)
   have H' := Aside0.mk H; clear H
   try go_wp2
   have n0_ : Aside0 ((((w15.setCell ⟨gb294, 0, none⟩ (.bool true)).setCell ⟨gb294, 1, none⟩ (.int .i64 (wrap64 (8 * (wrap64 (1 + (wrap64 (Int.tmod (ji10) 1073741824)))))))).setCell ⟨gb294, 2, none⟩ (.int .i64 0)).heap[gb293]? = some (.cells #[.bool true, .int .i64 (wrap64 (8 * (wrap64 (1 + (wrap64 (Int.tmod (ji9) 1073741824)))))), .int .i64 0] 23 (0, 0))) := ⟨by (with_reducible repeat first | apply blk_drewN | apply blk_drew | apply blk_alloc); refine blk_far ?_ NB293_294.out _; (with_reducible repeat first | apply blk_drewN | apply blk_drew | apply blk_alloc); refine blk_far ?_ NB293_294.out _; (with_reducible repeat first | apply blk_drewN | apply blk_drew | apply blk_alloc); refine blk_far ?_ NB293_294.out _; (with_reducible repeat first | apply blk_drewN | apply blk_drew | apply blk_alloc); exact BK293.out⟩
   have n1_ : Aside0 ((((w15.setCell ⟨gb294, 0, none⟩ (.bool true)).setCell ⟨gb294, 1, none⟩ (.int .i64 (wrap64 (8 * (wrap64 (1 + (wrap64 (Int.tmod (ji10) 1073741824)))))))).setCell ⟨gb294, 2, none⟩ (.int .i64 0)).heap[gb294]? = some (.cells #[.bool true, .int .i64 (wrap64 (8 * (wrap64 (1 + (wrap64 (Int.tmod (ji10) 1073741824)))))), .int .i64 0] 23 (0, 0))) := ⟨by (with_reducible repeat first | apply blk_drewN | apply blk_drew | apply blk_alloc); refine blk_put (cs := #[.bool true, .int .i64 (wrap64 (8 * (wrap64 (1 + (wrap64 (Int.tmod (ji10) 1073741824)))))), .int .i64 0]) ?_ 2 _ rfl; (with_reducible repeat first | apply blk_drewN | apply blk_drew | apply blk_alloc); refine blk_put (cs := #[.bool true, .int .i64 0, .int .i64 0]) ?_ 1 _ rfl; (with_reducible repeat first | apply blk_drewN | apply blk_drew | apply blk_alloc); refine blk_put (cs := #[.bool false, .int .i64 0, .int .i64 0]) ?_ 0 _ rfl; (with_reducible repeat first | apply blk_drewN | apply blk_drew | apply blk_alloc); exact BK294.out⟩
   have n2_ : Aside0 (Below w.heap.size w (((w15.setCell ⟨gb294, 0, none⟩ (.bool true)).setCell ⟨gb294, 1, none⟩ (.int .i64 (wrap64 (8 * (wrap64 (1 + (wrap64 (Int.tmod (ji10) 1073741824)))))))).setCell ⟨gb294, 2, none⟩ (.int .i64 0))) := ⟨by repeat (first | (with_reducible first | exact HB.out | apply below_alloc | apply pw_below_drewN | apply below_drew1 | refine below_set ?_ (Aside0.out (by assumption))) | exact HB.out)⟩
   (try clear BK293); (try clear BK294); (try clear HB)
   generalize (((w15.setCell ⟨gb294, 0, none⟩ (.bool true)).setCell ⟨gb294, 1, none⟩ (.int .i64 (wrap64 (8 * (wrap64 (1 + (wrap64 (Int.tmod (ji10) 1073741824)))))))).setCell ⟨gb294, 2, none⟩ (.int .i64 0)) = w19 at n0_ n1_ n2_ ⊢
   have BK293 := n0_; have BK294 := n1_; have HB := n2_; clear n0_ n1_ n2_; replace BK293 := Aside0.mk (blk_drew BK293.out); replace BK294 := Aside0.mk (blk_drew BK294.out); replace HB := Aside0.mk (below_drew1 HB.out); refine start_ (n := 19) (S := fun w' => w'.cell? ⟨gb293, 0, none⟩ = some (.bool true) ∧ w'.cell? ⟨gb293, 1, none⟩ = some (.int .i64 (wrap64 (8 * (wrap64 (1 + (wrap64 (Int.tmod (ji9) 1073741824))))))) ∧ w'.cell? ⟨gb293, 2, none⟩ = some (.int .i64 0) ∧ w'.cell? ⟨gb294, 0, none⟩ = some (.bool true) ∧ w'.cell? ⟨gb294, 1, none⟩ = some (.int .i64 (wrap64 (8 * (wrap64 (1 + (wrap64 (Int.tmod (ji10) 1073741824))))))) ∧ w'.cell? ⟨gb294, 2, none⟩ = some (.int .i64 0)) (ds := []) #[N,N,N,N,N,N,N,N,N,N,N,N,N,N,N,N,N,N,N] (by kernel_rfl) rfl rfl ⟨(blk_cell BK293.out 0).trans rfl, (blk_cell BK293.out 1).trans rfl, (blk_cell BK293.out 2).trans rfl, (blk_cell BK294.out 0).trans rfl, (blk_cell BK294.out 1).trans rfl, (blk_cell BK294.out 2).trans rfl⟩ (fun hHeld => ?_); refine with_tabW sawtoothlaw17_RateRises.tab4 sawtoothlaw17_RateRises.bits4 (fun HT_ HW_ => ?_)
   generalize w19.drew = w20 at BK293 BK294 HB hHeld ⊢
   refine pureA_ (i := 0) (N := some 36) #[Y,N,N,N,N,N,N,N,N,N,N,N,N,N,N,N,N,N,N] rfl rfl (any_of HT_.out (by kernel_rfl)) ?_
   refine pureA_ (i := 2) (N := some 38) #[Y,N,Y,N,N,N,N,N,N,N,N,N,N,N,N,N,N,N,N] rfl rfl (any_of HT_.out (by kernel_rfl)) ?_
   refine take_ (i := 1) (N := some 37) (v := ?_) (a' := ?_) #[Y,Y,Y,N,N,N,N,N,N,N,N,N,N,N,N,N,N,N,N] rfl rfl (take_ofW HT_.out HW_.out (by kernel_rfl)) (fun _ _ _ h => h) (Or.inl ⟨by rfl, ?_⟩) hHeld ?_ ?_; rotate_left
   ·rintro w' ⟨s0, s1, s2, s3, s4, s5⟩; go_simp
    with_reducible rfl
   rotate_left
   ·simp only [Act.put, sA, sB, sC, i64_w, i32_w]
    rfl
   refine take_ (i := 3) (N := some 39) (v := ?_) (a' := ?_) #[Y,Y,Y,Y,N,N,N,N,N,N,N,N,N,N,N,N,N,N,N] rfl rfl (take_ofW HT_.out HW_.out (by kernel_rfl)) (fun _ _ _ h => h) (Or.inl ⟨by rfl, ?_⟩) hHeld ?_ ?_; rotate_left
   ·rintro w' ⟨s0, s1, s2, s3, s4, s5⟩; go_simp
    with_reducible rfl
   rotate_left
   ·simp only [Act.put, sA, sB, sC, i64_w, i32_w]
    rfl
   refine pureA_ (i := 4) (N := some 40) #[Y,Y,Y,Y,Y,N,N,N,N,N,N,N,N,N,N,N,N,N,N] rfl rfl (any_of HT_.out (by kernel_rfl)) ?_
   refine pureA_ (i := 5) (N := some 41) #[Y,Y,Y,Y,Y,Y,N,N,N,N,N,N,N,N,N,N,N,N,N] rfl rfl (any_of HT_.out (by kernel_rfl)) ?_
   refine pure_ (i := 6) (N := some 42) (v := undef) (a' := ?_) #[Y,Y,Y,Y,Y,Y,Y,N,N,N,N,N,N,N,N,N,N,N,N] rfl rfl (any_of HT_.out (by kernel_rfl)) (fun _ _ _ h => h) (Or.inr ⟨by rfl, rfl⟩) ?_ ?_; rotate_left
   ·simp only [Act.put, sA, sB, sC, i64_w, i32_w]
    rfl
   refine pure_ (i := 7) (N := some 43) (v := undef) (a' := ?_) #[Y,Y,Y,Y,Y,Y,Y,Y,N,N,N,N,N,N,N,N,N,N,N] rfl rfl (any_of HT_.out (by kernel_rfl)) (fun _ _ _ h => h) (Or.inr ⟨by rfl, rfl⟩) ?_ ?_; rotate_left
   ·simp only [Act.put, sA, sB, sC, i64_w, i32_w]
    rfl
   refine pure_ (i := 8) (N := some 44) (v := undef) (a' := ?_) #[Y,Y,Y,Y,Y,Y,Y,Y,Y,N,N,N,N,N,N,N,N,N,N] rfl rfl (any_of HT_.out (by kernel_rfl)) (fun _ _ _ h => h) (Or.inr ⟨by rfl, rfl⟩) ?_ ?_; rotate_left
   ·simp only [Act.put, sA, sB, sC, i64_w, i32_w]
    rfl
   refine pure_ (i := 9) (N := some 45) (v := undef) (a' := ?_) #[Y,Y,Y,Y,Y,Y,Y,Y,Y,Y,N,N,N,N,N,N,N,N,N] rfl rfl (any_of HT_.out (by kernel_rfl)) (fun _ _ _ h => h) (Or.inr ⟨by rfl, rfl⟩) ?_ ?_; rotate_left
   ·simp only [Act.put, sA, sB, sC, i64_w, i32_w]
    rfl
   refine pure_ (i := 10) (N := some 46) (v := undef) (a' := ?_) #[Y,Y,Y,Y,Y,Y,Y,Y,Y,Y,Y,N,N,N,N,N,N,N,N] rfl rfl (any_of HT_.out (by kernel_rfl)) (fun _ _ _ h => h) (Or.inr ⟨by rfl, rfl⟩) ?_ ?_; rotate_left
   ·simp only [Act.put, sA, sB, sC, i64_w, i32_w]
    rfl
   refine pure_ (i := 11) (N := some 47) (v := undef) (a' := ?_) #[Y,Y,Y,Y,Y,Y,Y,Y,Y,Y,Y,Y,N,N,N,N,N,N,N] rfl rfl (any_of HT_.out (by kernel_rfl)) (fun _ _ _ h => h) (Or.inr ⟨by rfl, rfl⟩) ?_ ?_; rotate_left
   ·simp only [Act.put, sA, sB, sC, i64_w, i32_w]
    rfl
   refine pure_ (i := 12) (N := some 48) (v := undef) (a' := ?_) #[Y,Y,Y,Y,Y,Y,Y,Y,Y,Y,Y,Y,Y,N,N,N,N,N,N] rfl rfl (any_of HT_.out (by kernel_rfl)) (fun _ _ _ h => h) (Or.inr ⟨by rfl, rfl⟩) ?_ ?_; rotate_left
   ·simp only [Act.put, sA, sB, sC, i64_w, i32_w]
    rfl
   refine pure_ (i := 13) (N := some 49) (v := undef) (a' := ?_) #[Y,Y,Y,Y,Y,Y,Y,Y,Y,Y,Y,Y,Y,Y,N,N,N,N,N] rfl rfl (any_of HT_.out (by kernel_rfl)) (fun _ _ _ h => h) (Or.inr ⟨by rfl, rfl⟩) ?_ ?_; rotate_left
   ·simp only [Act.put, sA, sB, sC, i64_w, i32_w]
    rfl
   refine pure_ (i := 14) (N := some 50) (v := undef) (a' := ?_) #[Y,Y,Y,Y,Y,Y,Y,Y,Y,Y,Y,Y,Y,Y,Y,N,N,N,N] rfl rfl (any_of HT_.out (by kernel_rfl)) (fun _ _ _ h => h) (Or.inr ⟨by rfl, rfl⟩) ?_ ?_; rotate_left
   ·simp only [Act.put, sA, sB, sC, i64_w, i32_w]
    rfl
   refine pure_ (i := 15) (N := some 51) (v := undef) (a' := ?_) #[Y,Y,Y,Y,Y,Y,Y,Y,Y,Y,Y,Y,Y,Y,Y,Y,N,N,N] rfl rfl (any_of HT_.out (by kernel_rfl)) (fun _ _ _ h => h) (Or.inr ⟨by rfl, rfl⟩) ?_ ?_; rotate_left
   ·simp only [Act.put, sA, sB, sC, i64_w, i32_w]
    rfl
   refine pure_ (i := 16) (N := some 52) (v := undef) (a' := ?_) #[Y,Y,Y,Y,Y,Y,Y,Y,Y,Y,Y,Y,Y,Y,Y,Y,Y,N,N] rfl rfl (any_of HT_.out (by kernel_rfl)) (fun _ _ _ h => h) (Or.inr ⟨by rfl, rfl⟩) ?_ ?_; rotate_left
   ·simp only [Act.put, sA, sB, sC, i64_w, i32_w]
    rfl
   refine pureA_ (i := 17) (N := some 53) #[Y,Y,Y,Y,Y,Y,Y,Y,Y,Y,Y,Y,Y,Y,Y,Y,Y,Y,N] rfl rfl (any_of HT_.out (by kernel_rfl)) ?_
   refine pureA_ (i := 18) (N := some 18) #[Y,Y,Y,Y,Y,Y,Y,Y,Y,Y,Y,Y,Y,Y,Y,Y,Y,Y,Y] rfl rfl (any_of HT_.out (by kernel_rfl)) ?_
   refine done_ (done_of HT_.out (by kernel_rfl)) ?_
   try go_wp2
   go_meet
   case rel => exact ⟨_, (true), (by first | rfl | (simp; done) | (simp [*]; done)), H', ⟨by first | omega | exact Nat.le_refl _⟩, ⟨by (with_reducible repeat first | apply blk_drewN | apply blk_drew | apply blk_alloc); exact BK293.out⟩, ⟨by (with_reducible repeat first | apply blk_drewN | apply blk_drew | apply blk_alloc); exact BK294.out⟩, ⟨by repeat (first | (with_reducible first | exact HB.out | apply below_alloc | apply pw_below_drewN | apply below_drew1 | refine below_set ?_ (Aside0.out (by assumption))) | exact HB.out)⟩⟩
  ·rw [if_neg c18] at H
   have c18b0 : decide ((wrap64 (8 * (wrap64 (1 + (wrap64 (Int.tmod (ji10) 1073741824)))))) < (wrap64 (8 * (wrap64 (1 + (wrap64 (Int.tmod (ji9) 1073741824))))))) = false := decide_eq_false c18; clear c18
   (first | rw [c18b0] | (simp only [i64_w, i32_w]; rw [c18b0]) | skip)
   replace H := Option.bind_eq_some_iff.mp H; obtain ⟨t295, A210, H⟩ := H; (try dsimp only at H); have A21 := Aside0.mk A210; clear A210; replace H := Option.bind_eq_some_iff.mp H; obtain ⟨t296, A220, H⟩ := H; replace H : (sawtoothlaw17_RateRises.j0 k a0 a1 a2 a3 a6 t292 (decide (t295 ≤ t296)) true (wrap64 (8 * (wrap64 (1 + (wrap64 (Int.tmod (ji9) 1073741824)))))) 0) = some r := H; have A22 := Aside0.mk A220; clear A220; have H' := Aside0.mk H; clear H
   try go_wp2
   have n0_ : Aside0 ((((w15.setCell ⟨gb294, 0, none⟩ (.bool true)).setCell ⟨gb294, 1, none⟩ (.int .i64 (wrap64 (8 * (wrap64 (1 + (wrap64 (Int.tmod (ji10) 1073741824)))))))).setCell ⟨gb294, 2, none⟩ (.int .i64 0)).heap[gb293]? = some (.cells #[.bool true, .int .i64 (wrap64 (8 * (wrap64 (1 + (wrap64 (Int.tmod (ji9) 1073741824)))))), .int .i64 0] 23 (0, 0))) := ⟨by (with_reducible repeat first | apply blk_drewN | apply blk_drew | apply blk_alloc); refine blk_far ?_ NB293_294.out _; (with_reducible repeat first | apply blk_drewN | apply blk_drew | apply blk_alloc); refine blk_far ?_ NB293_294.out _; (with_reducible repeat first | apply blk_drewN | apply blk_drew | apply blk_alloc); refine blk_far ?_ NB293_294.out _; (with_reducible repeat first | apply blk_drewN | apply blk_drew | apply blk_alloc); exact BK293.out⟩
   have n1_ : Aside0 ((((w15.setCell ⟨gb294, 0, none⟩ (.bool true)).setCell ⟨gb294, 1, none⟩ (.int .i64 (wrap64 (8 * (wrap64 (1 + (wrap64 (Int.tmod (ji10) 1073741824)))))))).setCell ⟨gb294, 2, none⟩ (.int .i64 0)).heap[gb294]? = some (.cells #[.bool true, .int .i64 (wrap64 (8 * (wrap64 (1 + (wrap64 (Int.tmod (ji10) 1073741824)))))), .int .i64 0] 23 (0, 0))) := ⟨by (with_reducible repeat first | apply blk_drewN | apply blk_drew | apply blk_alloc); refine blk_put (cs := #[.bool true, .int .i64 (wrap64 (8 * (wrap64 (1 + (wrap64 (Int.tmod (ji10) 1073741824)))))), .int .i64 0]) ?_ 2 _ rfl; (with_reducible repeat first | apply blk_drewN | apply blk_drew | apply blk_alloc); refine blk_put (cs := #[.bool true, .int .i64 0, .int .i64 0]) ?_ 1 _ rfl; (with_reducible repeat first | apply blk_drewN | apply blk_drew | apply blk_alloc); refine blk_put (cs := #[.bool false, .int .i64 0, .int .i64 0]) ?_ 0 _ rfl; (with_reducible repeat first | apply blk_drewN | apply blk_drew | apply blk_alloc); exact BK294.out⟩
   have n2_ : Aside0 (Below w.heap.size w (((w15.setCell ⟨gb294, 0, none⟩ (.bool true)).setCell ⟨gb294, 1, none⟩ (.int .i64 (wrap64 (8 * (wrap64 (1 + (wrap64 (Int.tmod (ji10) 1073741824)))))))).setCell ⟨gb294, 2, none⟩ (.int .i64 0))) := ⟨by repeat (first | (with_reducible first | exact HB.out | apply below_alloc | apply pw_below_drewN | apply below_drew1 | refine below_set ?_ (Aside0.out (by assumption))) | exact HB.out)⟩
   (try clear BK293); (try clear BK294); (try clear HB)
   generalize (((w15.setCell ⟨gb294, 0, none⟩ (.bool true)).setCell ⟨gb294, 1, none⟩ (.int .i64 (wrap64 (8 * (wrap64 (1 + (wrap64 (Int.tmod (ji10) 1073741824)))))))).setCell ⟨gb294, 2, none⟩ (.int .i64 0)) = w23 at n0_ n1_ n2_ ⊢
   have BK293 := n0_; have BK294 := n1_; have HB := n2_; clear n0_ n1_ n2_; replace BK293 := Aside0.mk (blk_drew BK293.out); replace BK294 := Aside0.mk (blk_drew BK294.out); replace HB := Aside0.mk (below_drew1 HB.out); refine start_ (n := 19) (S := fun w' => w'.cell? ⟨gb293, 0, none⟩ = some (.bool true) ∧ w'.cell? ⟨gb293, 1, none⟩ = some (.int .i64 (wrap64 (8 * (wrap64 (1 + (wrap64 (Int.tmod (ji9) 1073741824))))))) ∧ w'.cell? ⟨gb293, 2, none⟩ = some (.int .i64 0) ∧ w'.cell? ⟨gb294, 0, none⟩ = some (.bool true) ∧ w'.cell? ⟨gb294, 1, none⟩ = some (.int .i64 (wrap64 (8 * (wrap64 (1 + (wrap64 (Int.tmod (ji10) 1073741824))))))) ∧ w'.cell? ⟨gb294, 2, none⟩ = some (.int .i64 0)) (ds := []) #[N,N,N,N,N,N,N,N,N,N,N,N,N,N,N,N,N,N,N] (by kernel_rfl) rfl rfl ⟨(blk_cell BK293.out 0).trans rfl, (blk_cell BK293.out 1).trans rfl, (blk_cell BK293.out 2).trans rfl, (blk_cell BK294.out 0).trans rfl, (blk_cell BK294.out 1).trans rfl, (blk_cell BK294.out 2).trans rfl⟩ (fun hHeld => ?_); refine with_tabW sawtoothlaw17_RateRises.tab4 sawtoothlaw17_RateRises.bits4 (fun HT_ HW_ => ?_)
   generalize w23.drew = w24 at BK293 BK294 HB hHeld ⊢
   refine pureA_ (i := 0) (N := some 36) #[Y,N,N,N,N,N,N,N,N,N,N,N,N,N,N,N,N,N,N] rfl rfl (any_of HT_.out (by kernel_rfl)) ?_
   refine pureA_ (i := 2) (N := some 38) #[Y,N,Y,N,N,N,N,N,N,N,N,N,N,N,N,N,N,N,N] rfl rfl (any_of HT_.out (by kernel_rfl)) ?_
   refine take_ (i := 1) (N := some 37) (v := ?_) (a' := ?_) #[Y,Y,Y,N,N,N,N,N,N,N,N,N,N,N,N,N,N,N,N] rfl rfl (take_ofW HT_.out HW_.out (by kernel_rfl)) (fun _ _ _ h => h) (Or.inl ⟨by rfl, ?_⟩) hHeld ?_ ?_; rotate_left
   ·rintro w' ⟨s0, s1, s2, s3, s4, s5⟩; go_simp
    with_reducible rfl
   rotate_left
   ·simp only [Act.put, sA, sB, sC, i64_w, i32_w]
    rfl
   refine take_ (i := 3) (N := some 39) (v := ?_) (a' := ?_) #[Y,Y,Y,Y,N,N,N,N,N,N,N,N,N,N,N,N,N,N,N] rfl rfl (take_ofW HT_.out HW_.out (by kernel_rfl)) (fun _ _ _ h => h) (Or.inl ⟨by rfl, ?_⟩) hHeld ?_ ?_; rotate_left
   ·rintro w' ⟨s0, s1, s2, s3, s4, s5⟩; go_simp
    with_reducible rfl
   rotate_left
   ·simp only [Act.put, sA, sB, sC, i64_w, i32_w]
    rfl
   refine pureA_ (i := 4) (N := some 40) #[Y,Y,Y,Y,Y,N,N,N,N,N,N,N,N,N,N,N,N,N,N] rfl rfl (any_of HT_.out (by kernel_rfl)) ?_
   refine pureA_ (i := 5) (N := some 41) #[Y,Y,Y,Y,Y,Y,N,N,N,N,N,N,N,N,N,N,N,N,N] rfl rfl (any_of HT_.out (by kernel_rfl)) ?_
   refine pureA_ (i := 6) (N := some 42) #[Y,Y,Y,Y,Y,Y,Y,N,N,N,N,N,N,N,N,N,N,N,N] rfl rfl (any_of HT_.out (by kernel_rfl)) ?_
   refine pureA_ (i := 7) (N := some 43) #[Y,Y,Y,Y,Y,Y,Y,Y,N,N,N,N,N,N,N,N,N,N,N] rfl rfl (any_of HT_.out (by kernel_rfl)) ?_
   refine pureA_ (i := 9) (N := some 45) #[Y,Y,Y,Y,Y,Y,Y,Y,N,Y,N,N,N,N,N,N,N,N,N] rfl rfl (any_of HT_.out (by kernel_rfl)) ?_
   refine pureA_ (i := 11) (N := some 47) #[Y,Y,Y,Y,Y,Y,Y,Y,N,Y,N,Y,N,N,N,N,N,N,N] rfl rfl (any_of HT_.out (by kernel_rfl)) ?_
   refine pureA_ (i := 12) (N := some 48) #[Y,Y,Y,Y,Y,Y,Y,Y,N,Y,N,Y,Y,N,N,N,N,N,N] rfl rfl (any_of HT_.out (by kernel_rfl)) ?_
   refine pureA_ (i := 14) (N := some 50) #[Y,Y,Y,Y,Y,Y,Y,Y,N,Y,N,Y,Y,N,Y,N,N,N,N] rfl rfl (any_of HT_.out (by kernel_rfl)) ?_
   refine take_ (i := 8) (N := some 44) (v := ?_) (a' := ?_) #[Y,Y,Y,Y,Y,Y,Y,Y,Y,Y,N,Y,Y,N,Y,N,N,N,N] rfl rfl (take_ofW HT_.out HW_.out (by kernel_rfl)) (fun _ _ _ h => h) (Or.inl ⟨by rfl, ?_⟩) hHeld ?_ ?_; rotate_left
   ·rintro w' ⟨s0, s1, s2, s3, s4, s5⟩; go_simp
    with_reducible rfl
   rotate_left
   ·simp only [Act.put, sA, sB, sC, i64_w, i32_w]
    rfl
   refine take_ (i := 13) (N := some 49) (v := ?_) (a' := ?_) #[Y,Y,Y,Y,Y,Y,Y,Y,Y,Y,N,Y,Y,Y,Y,N,N,N,N] rfl rfl (take_ofW HT_.out HW_.out (by kernel_rfl)) (fun _ _ _ h => h) (Or.inl ⟨by rfl, ?_⟩) hHeld ?_ ?_; rotate_left
   ·rintro w' ⟨s0, s1, s2, s3, s4, s5⟩; go_simp
    with_reducible rfl
   rotate_left
   ·simp only [Act.put, sA, sB, sC, i64_w, i32_w]
    rfl
   refine one_ (i := 10) (N := some 46) #[Y,Y,Y,Y,Y,Y,Y,Y,Y,Y,Y,Y,Y,Y,Y,N,N,N,N] rfl rfl (one_of HT_.out (by kernel_rfl)) (by decide) (fun K hK => ?_); refine goes_ Try.func18 (by kernel_rfl) rfl #[.int .i64 a0, .int .i64 a2, .agg #[.bool true, .int .i64 (wrap64 (8 * (wrap64 (1 + (wrap64 (Int.tmod (ji10) 1073741824)))))), .int .i64 0], .bool a6] (by rfl) rfl rfl (by (try simp only [List.map_toArray, List.map_cons, List.map_nil]); first | done | (simp only [hji10]; rfl) | rfl | (simp only [List.length_drop, List.length_take]; rfl)) ?_
   with_reducible refine (rate_OfS.calls a0 a2 true (wrap64 (8 * (wrap64 (1 + (wrap64 (Int.tmod (ji10) 1073741824)))))) 0 a6 t295 _ A21.out).mono ?_
   rintro e w25 ⟨rfl, hb⟩; refine ⟨_, rfl, ?_⟩; replace BK293 := Aside0.mk (blk_below (g := gb293) (o := .cells #[.bool true, .int .i64 (wrap64 (8 * (wrap64 (1 + (wrap64 (Int.tmod (ji9) 1073741824)))))), .int .i64 0] 23 (0, 0)) BK293.out hb); replace BK294 := Aside0.mk (blk_below (g := gb294) (o := .cells #[.bool true, .int .i64 (wrap64 (8 * (wrap64 (1 + (wrap64 (Int.tmod (ji10) 1073741824)))))), .int .i64 0] 23 (0, 0)) BK294.out hb); replace HB := Aside0.mk (below_step HB.out hb); clear hb; refine hK.out _ _ ⟨(blk_cell BK293.out 0).trans rfl, (blk_cell BK293.out 1).trans rfl, (blk_cell BK293.out 2).trans rfl, (blk_cell BK294.out 0).trans rfl, (blk_cell BK294.out 1).trans rfl, (blk_cell BK294.out 2).trans rfl⟩ (fun hHeld => ?_); clear hK K; refine normA_ (some 46) ?_
   refine one_ (i := 15) (N := some 51) #[Y,Y,Y,Y,Y,Y,Y,Y,Y,Y,Y,Y,Y,Y,Y,Y,N,N,N] rfl rfl (one_of HT_.out (by kernel_rfl)) (by decide) (fun K hK => ?_); refine goes_ Try.func18 (by kernel_rfl) rfl #[.int .i64 a0, .int .i64 a2, .agg #[.bool true, .int .i64 (wrap64 (8 * (wrap64 (1 + (wrap64 (Int.tmod (ji9) 1073741824)))))), .int .i64 0], .bool a6] (by rfl) rfl rfl (by (try simp only [List.map_toArray, List.map_cons, List.map_nil]); first | done | (simp only [hji9]; rfl) | rfl | (simp only [List.length_drop, List.length_take]; rfl)) ?_
   with_reducible refine (rate_OfS.calls a0 a2 true (wrap64 (8 * (wrap64 (1 + (wrap64 (Int.tmod (ji9) 1073741824)))))) 0 a6 t296 _ A22.out).mono ?_
   rintro e w26 ⟨rfl, hb⟩; refine ⟨_, rfl, ?_⟩; replace BK293 := Aside0.mk (blk_below (g := gb293) (o := .cells #[.bool true, .int .i64 (wrap64 (8 * (wrap64 (1 + (wrap64 (Int.tmod (ji9) 1073741824)))))), .int .i64 0] 23 (0, 0)) BK293.out hb); replace BK294 := Aside0.mk (blk_below (g := gb294) (o := .cells #[.bool true, .int .i64 (wrap64 (8 * (wrap64 (1 + (wrap64 (Int.tmod (ji10) 1073741824)))))), .int .i64 0] 23 (0, 0)) BK294.out hb); replace HB := Aside0.mk (below_step HB.out hb); clear hb; refine hK.out _ _ ⟨(blk_cell BK293.out 0).trans rfl, (blk_cell BK293.out 1).trans rfl, (blk_cell BK293.out 2).trans rfl, (blk_cell BK294.out 0).trans rfl, (blk_cell BK294.out 1).trans rfl, (blk_cell BK294.out 2).trans rfl⟩ (fun hHeld => ?_); clear hK K; refine normA_ (some 51) ?_
   refine pureA_ (i := 16) (N := some 52) #[Y,Y,Y,Y,Y,Y,Y,Y,Y,Y,Y,Y,Y,Y,Y,Y,Y,N,N] rfl rfl (any_of HT_.out (by kernel_rfl)) ?_
   refine pureA_ (i := 17) (N := some 53) #[Y,Y,Y,Y,Y,Y,Y,Y,Y,Y,Y,Y,Y,Y,Y,Y,Y,Y,N] rfl rfl (any_of HT_.out (by kernel_rfl)) ?_
   refine pureA_ (i := 18) (N := some 18) #[Y,Y,Y,Y,Y,Y,Y,Y,Y,Y,Y,Y,Y,Y,Y,Y,Y,Y,Y] rfl rfl (any_of HT_.out (by kernel_rfl)) ?_
   refine done_ (done_of HT_.out (by kernel_rfl)) ?_
   try go_wp2
   go_meet
   case rel => exact ⟨_, (decide (t295 ≤ t296)), (by first | rfl | (simp; done) | (simp [*]; done)), H', ⟨by first | omega | exact Nat.le_refl _⟩, ⟨by (with_reducible repeat first | apply blk_drewN | apply blk_drew | apply blk_alloc); exact BK293.out⟩, ⟨by (with_reducible repeat first | apply blk_drewN | apply blk_drew | apply blk_alloc); exact BK294.out⟩, ⟨by repeat (first | (with_reducible first | exact HB.out | apply below_alloc | apply pw_below_drewN | apply below_drew1 | refine below_set ?_ (Aside0.out (by assumption))) | exact HB.out)⟩⟩
 case rest =>
  clear HC11
  try clear c1
  try clear p2
  try clear c5
  try clear p6
  try clear c15
  try clear c16
  try clear c18
  try clear c18b0
  try clear hcz14_0
  try clear hcz14_1
  try clear hcz14_2
  try clear hcz17_0
  try clear hcz17_1
  try clear hcz17_2
  try clear hfz14_0
  try clear hfz14_1
  try clear hfz14_2
  try clear hfz17_0
  try clear hfz17_1
  try clear hfz17_2
  obtain ⟨kq, x18_10, rfl, HA, HJ10, BK293, BK294, HB⟩ := hcut
  cases kq with
  | zero => exact absurd HA.out (by simp [sawtoothlaw17_RateRises.j0])
  | succ kj10 =>
   have H := HA.out; clear HA; simp only [sawtoothlaw17_RateRises.j0] at H
   by_cases c27 : t292 = true
   ·subst c27
    have H1 : ((rate_OfS.f (mn a0 a1) a2 true (wrap64 (8 * (wrap64 (1 + (wrap64 (Int.tmod (ji9) 1073741824)))))) 0 a6).bind fun t297 => ((rate_OfS.f (mx a0 a1) a2 true (wrap64 (8 * (wrap64 (1 + (wrap64 (Int.tmod (ji9) 1073741824)))))) 0 a6).bind fun t298 => (if t297 ≤ t298 then ((rate_OfS.f a0 (mn a2 a3) true (wrap64 (8 * (wrap64 (1 + (wrap64 (Int.tmod (ji9) 1073741824)))))) 0 a6).bind fun t299 => ((rate_OfS.f a0 (mx a2 a3) true (wrap64 (8 * (wrap64 (1 + (wrap64 (Int.tmod (ji9) 1073741824)))))) 0 a6).bind fun t300 => (if t299 ≤ t300 then (if x18_10 = true then ((rate_OfS.f a0 a2 true (wrap64 (8 * (wrap64 (1 + (wrap64 (Int.tmod (ji9) 1073741824)))))) 0 false).bind fun t301 => ((rate_OfS.f a0 a2 true (wrap64 (8 * (wrap64 (1 + (wrap64 (Int.tmod (ji9) 1073741824)))))) 0 true).bind fun t302 => (some (decide (t301 ≤ t302))))) else (none)) else (none)))) else (none)))) = some r := by rw [if_pos rfl] at H; exact H
    clear H; have H := H1; clear H1
    obtain ⟨ji28, hji28⟩ : ∃ j_ : Int, (mn a0 a1) = j_ := ⟨_, rfl⟩
    replace H : ((rate_OfS.f (ji28) a2 true (wrap64 (8 * (wrap64 (1 + (wrap64 (Int.tmod (ji9) 1073741824)))))) 0 a6).bind fun t297 => ((rate_OfS.f (mx a0 a1) a2 true (wrap64 (8 * (wrap64 (1 + (wrap64 (Int.tmod (ji9) 1073741824)))))) 0 a6).bind fun t298 => (if t297 ≤ t298 then ((rate_OfS.f a0 (mn a2 a3) true (wrap64 (8 * (wrap64 (1 + (wrap64 (Int.tmod (ji9) 1073741824)))))) 0 a6).bind fun t299 => ((rate_OfS.f a0 (mx a2 a3) true (wrap64 (8 * (wrap64 (1 + (wrap64 (Int.tmod (ji9) 1073741824)))))) 0 a6).bind fun t300 => (if t299 ≤ t300 then (if x18_10 = true then ((rate_OfS.f a0 a2 true (wrap64 (8 * (wrap64 (1 + (wrap64 (Int.tmod (ji9) 1073741824)))))) 0 false).bind fun t301 => ((rate_OfS.f a0 a2 true (wrap64 (8 * (wrap64 (1 + (wrap64 (Int.tmod (ji9) 1073741824)))))) 0 true).bind fun t302 => (some (decide (t301 ≤ t302))))) else (none)) else (none)))) else (none)))) = some r := by first | (rw [hji28] at H; exact H) | (simp only [hji28] at H ⊢; exact H)
    have hji28_ : (if a1 < a0 then a1 else a0) = ji28 := hji28; replace H := Option.bind_eq_some_iff.mp H; obtain ⟨t297, A290, H⟩ := H; (try dsimp only at H); have A29 := Aside0.mk A290; clear A290
    obtain ⟨ji30, hji30⟩ : ∃ j_ : Int, (mx a0 a1) = j_ := ⟨_, rfl⟩
    replace H : ((rate_OfS.f (ji30) a2 true (wrap64 (8 * (wrap64 (1 + (wrap64 (Int.tmod (ji9) 1073741824)))))) 0 a6).bind fun t298 => (if t297 ≤ t298 then ((rate_OfS.f a0 (mn a2 a3) true (wrap64 (8 * (wrap64 (1 + (wrap64 (Int.tmod (ji9) 1073741824)))))) 0 a6).bind fun t299 => ((rate_OfS.f a0 (mx a2 a3) true (wrap64 (8 * (wrap64 (1 + (wrap64 (Int.tmod (ji9) 1073741824)))))) 0 a6).bind fun t300 => (if t299 ≤ t300 then (if x18_10 = true then ((rate_OfS.f a0 a2 true (wrap64 (8 * (wrap64 (1 + (wrap64 (Int.tmod (ji9) 1073741824)))))) 0 false).bind fun t301 => ((rate_OfS.f a0 a2 true (wrap64 (8 * (wrap64 (1 + (wrap64 (Int.tmod (ji9) 1073741824)))))) 0 true).bind fun t302 => (some (decide (t301 ≤ t302))))) else (none)) else (none)))) else (none))) = some r := by first | (rw [hji30] at H; exact H) | (simp only [hji30] at H ⊢; exact H)
    (try rw [hji30] at A29)
    have hji30_ : (if a0 < a1 then a1 else a0) = ji30 := hji30; replace H := Option.bind_eq_some_iff.mp H; obtain ⟨t298, A310, H⟩ := H; (try dsimp only at H); have A31 := Aside0.mk A310; clear A310
    by_cases c32 : t297 ≤ t298
    ·rw [if_pos c32] at H
     have c32b0 : decide (t297 ≤ t298) = true := decide_eq_true c32; clear c32
     obtain ⟨ji33, hji33⟩ : ∃ j_ : Int, (mn a2 a3) = j_ := ⟨_, rfl⟩
     replace H : ((rate_OfS.f a0 (ji33) true (wrap64 (8 * (wrap64 (1 + (wrap64 (Int.tmod (ji9) 1073741824)))))) 0 a6).bind fun t299 => ((rate_OfS.f a0 (mx a2 a3) true (wrap64 (8 * (wrap64 (1 + (wrap64 (Int.tmod (ji9) 1073741824)))))) 0 a6).bind fun t300 => (if t299 ≤ t300 then (if x18_10 = true then ((rate_OfS.f a0 a2 true (wrap64 (8 * (wrap64 (1 + (wrap64 (Int.tmod (ji9) 1073741824)))))) 0 false).bind fun t301 => ((rate_OfS.f a0 a2 true (wrap64 (8 * (wrap64 (1 + (wrap64 (Int.tmod (ji9) 1073741824)))))) 0 true).bind fun t302 => (some (decide (t301 ≤ t302))))) else (none)) else (none)))) = some r := by first | (rw [hji33] at H; exact H) | (simp only [hji33] at H ⊢; exact H)
     (try rw [hji33] at A29)
     (try rw [hji33] at A31)
     have hji33_ : (if a3 < a2 then a3 else a2) = ji33 := hji33; replace H := Option.bind_eq_some_iff.mp H; obtain ⟨t299, A340, H⟩ := H; (try dsimp only at H); have A34 := Aside0.mk A340; clear A340
     obtain ⟨ji35, hji35⟩ : ∃ j_ : Int, (mx a2 a3) = j_ := ⟨_, rfl⟩
     replace H : ((rate_OfS.f a0 (ji35) true (wrap64 (8 * (wrap64 (1 + (wrap64 (Int.tmod (ji9) 1073741824)))))) 0 a6).bind fun t300 => (if t299 ≤ t300 then (if x18_10 = true then ((rate_OfS.f a0 a2 true (wrap64 (8 * (wrap64 (1 + (wrap64 (Int.tmod (ji9) 1073741824)))))) 0 false).bind fun t301 => ((rate_OfS.f a0 a2 true (wrap64 (8 * (wrap64 (1 + (wrap64 (Int.tmod (ji9) 1073741824)))))) 0 true).bind fun t302 => (some (decide (t301 ≤ t302))))) else (none)) else (none))) = some r := by first | (rw [hji35] at H; exact H) | (simp only [hji35] at H ⊢; exact H)
     (try rw [hji35] at A29)
     (try rw [hji35] at A31)
     (try rw [hji35] at A34)
     have hji35_ : (if a2 < a3 then a3 else a2) = ji35 := hji35; replace H := Option.bind_eq_some_iff.mp H; obtain ⟨t300, A360, H⟩ := H; (try dsimp only at H); have A36 := Aside0.mk A360; clear A360
     by_cases c37 : t299 ≤ t300
     ·rw [if_pos c37] at H
      have c37b0 : decide (t299 ≤ t300) = true := decide_eq_true c37; clear c37
      by_cases c38 : x18_10 = true
      ·subst c38
       have H1 : ((rate_OfS.f a0 a2 true (wrap64 (8 * (wrap64 (1 + (wrap64 (Int.tmod (ji9) 1073741824)))))) 0 false).bind fun t301 => ((rate_OfS.f a0 a2 true (wrap64 (8 * (wrap64 (1 + (wrap64 (Int.tmod (ji9) 1073741824)))))) 0 true).bind fun t302 => (some (decide (t301 ≤ t302))))) = some r := by rw [if_pos rfl] at H; exact H
       clear H; have H := H1; clear H1; replace H := Option.bind_eq_some_iff.mp H; obtain ⟨t301, A390, H⟩ := H; replace H : ((rate_OfS.f a0 a2 true (wrap64 (8 * (wrap64 (1 + (wrap64 (Int.tmod (ji9) 1073741824)))))) 0 true).bind fun t302 => (some (decide (t301 ≤ t302)))) = some r := H; have A39 := Aside0.mk A390; clear A390; replace H := Option.bind_eq_some_iff.mp H; obtain ⟨t302, A400, H⟩ := H; replace H : (some (decide (t301 ≤ t302))) = some r := H; have A40 := Aside0.mk A400; clear A400; obtain rfl := Option.some.inj H
       try go_wp2
       replace BK293 := Aside0.mk (blk_drew BK293.out); replace BK294 := Aside0.mk (blk_drew BK294.out); replace HB := Aside0.mk (below_drew1 HB.out); refine start_ (n := 50) (S := fun w' => w'.cell? ⟨gb293, 0, none⟩ = some (.bool true) ∧ w'.cell? ⟨gb293, 1, none⟩ = some (.int .i64 (wrap64 (8 * (wrap64 (1 + (wrap64 (Int.tmod (ji9) 1073741824))))))) ∧ w'.cell? ⟨gb293, 2, none⟩ = some (.int .i64 0)) (ds := []) #[N,N,N,N,N,N,N,N,N,N,N,N,N,N,N,N,N,N,N,N,N,N,N,N,N,N,N,N,N,N,N,N,N,N,N,N,N,N,N,N,N,N,N,N,N,N,N,N,N,N] (by kernel_rfl) rfl rfl ⟨(blk_cell BK293.out 0).trans rfl, (blk_cell BK293.out 1).trans rfl, (blk_cell BK293.out 2).trans rfl⟩ (fun hHeld => ?_); refine with_tabW sawtoothlaw17_RateRises.tab5 sawtoothlaw17_RateRises.bits5 (fun HT_ HW_ => ?_)
       generalize wc.drew = w41 at BK293 BK294 HB hHeld ⊢
       refine pureA_ (i := 0) (N := some 54) #[Y,N,N,N,N,N,N,N,N,N,N,N,N,N,N,N,N,N,N,N,N,N,N,N,N,N,N,N,N,N,N,N,N,N,N,N,N,N,N,N,N,N,N,N,N,N,N,N,N,N] rfl rfl (any_of HT_.out (by kernel_rfl)) ?_
       refine pureA_ (i := 1) (N := some 55) #[Y,Y,N,N,N,N,N,N,N,N,N,N,N,N,N,N,N,N,N,N,N,N,N,N,N,N,N,N,N,N,N,N,N,N,N,N,N,N,N,N,N,N,N,N,N,N,N,N,N,N] rfl rfl (any_of HT_.out (by kernel_rfl)) ?_
       refine pureA_ (i := 2) (N := some 56) #[Y,Y,Y,N,N,N,N,N,N,N,N,N,N,N,N,N,N,N,N,N,N,N,N,N,N,N,N,N,N,N,N,N,N,N,N,N,N,N,N,N,N,N,N,N,N,N,N,N,N,N] rfl rfl (any_of HT_.out (by kernel_rfl)) ?_
       refine pureA_ (i := 3) (N := some 57) #[Y,Y,Y,Y,N,N,N,N,N,N,N,N,N,N,N,N,N,N,N,N,N,N,N,N,N,N,N,N,N,N,N,N,N,N,N,N,N,N,N,N,N,N,N,N,N,N,N,N,N,N] rfl rfl (any_of HT_.out (by kernel_rfl)) ?_
       refine pureA_ (i := 4) (N := some 58) #[Y,Y,Y,Y,Y,N,N,N,N,N,N,N,N,N,N,N,N,N,N,N,N,N,N,N,N,N,N,N,N,N,N,N,N,N,N,N,N,N,N,N,N,N,N,N,N,N,N,N,N,N] rfl rfl (any_of HT_.out (by kernel_rfl)) ?_
       refine pureA_ (i := 5) (N := some 59) #[Y,Y,Y,Y,Y,Y,N,N,N,N,N,N,N,N,N,N,N,N,N,N,N,N,N,N,N,N,N,N,N,N,N,N,N,N,N,N,N,N,N,N,N,N,N,N,N,N,N,N,N,N] rfl rfl (any_of HT_.out (by kernel_rfl)) ?_
       refine pureA_ (i := 7) (N := some 61) #[Y,Y,Y,Y,Y,Y,N,Y,N,N,N,N,N,N,N,N,N,N,N,N,N,N,N,N,N,N,N,N,N,N,N,N,N,N,N,N,N,N,N,N,N,N,N,N,N,N,N,N,N,N] rfl rfl (any_of HT_.out (by kernel_rfl)) ?_
       refine pureA_ (i := 9) (N := some 63) #[Y,Y,Y,Y,Y,Y,N,Y,N,Y,N,N,N,N,N,N,N,N,N,N,N,N,N,N,N,N,N,N,N,N,N,N,N,N,N,N,N,N,N,N,N,N,N,N,N,N,N,N,N,N] rfl rfl (any_of HT_.out (by kernel_rfl)) ?_
       refine pureA_ (i := 10) (N := some 64) #[Y,Y,Y,Y,Y,Y,N,Y,N,Y,Y,N,N,N,N,N,N,N,N,N,N,N,N,N,N,N,N,N,N,N,N,N,N,N,N,N,N,N,N,N,N,N,N,N,N,N,N,N,N,N] rfl rfl (any_of HT_.out (by kernel_rfl)) ?_
       refine pureA_ (i := 11) (N := some 65) #[Y,Y,Y,Y,Y,Y,N,Y,N,Y,Y,Y,N,N,N,N,N,N,N,N,N,N,N,N,N,N,N,N,N,N,N,N,N,N,N,N,N,N,N,N,N,N,N,N,N,N,N,N,N,N] rfl rfl (any_of HT_.out (by kernel_rfl)) ?_
       refine pureA_ (i := 12) (N := some 66) #[Y,Y,Y,Y,Y,Y,N,Y,N,Y,Y,Y,Y,N,N,N,N,N,N,N,N,N,N,N,N,N,N,N,N,N,N,N,N,N,N,N,N,N,N,N,N,N,N,N,N,N,N,N,N,N] rfl rfl (any_of HT_.out (by kernel_rfl)) ?_
       refine pureA_ (i := 14) (N := some 68) #[Y,Y,Y,Y,Y,Y,N,Y,N,Y,Y,Y,Y,N,Y,N,N,N,N,N,N,N,N,N,N,N,N,N,N,N,N,N,N,N,N,N,N,N,N,N,N,N,N,N,N,N,N,N,N,N] rfl rfl (any_of HT_.out (by kernel_rfl)) ?_
       refine take_ (i := 6) (N := some 60) (v := ?_) (a' := ?_) #[Y,Y,Y,Y,Y,Y,Y,Y,N,Y,Y,Y,Y,N,Y,N,N,N,N,N,N,N,N,N,N,N,N,N,N,N,N,N,N,N,N,N,N,N,N,N,N,N,N,N,N,N,N,N,N,N] rfl rfl (take_ofW HT_.out HW_.out (by kernel_rfl)) (fun _ _ _ h => h) (Or.inl ⟨by rfl, ?_⟩) hHeld ?_ ?_; rotate_left
       ·rintro w' ⟨s0, s1, s2⟩; go_simp
        with_reducible rfl
       rotate_left
       ·simp only [Act.put, sA, sB, sC, i64_w, i32_w]
        rfl
       refine take_ (i := 13) (N := some 67) (v := ?_) (a' := ?_) #[Y,Y,Y,Y,Y,Y,Y,Y,N,Y,Y,Y,Y,Y,Y,N,N,N,N,N,N,N,N,N,N,N,N,N,N,N,N,N,N,N,N,N,N,N,N,N,N,N,N,N,N,N,N,N,N,N] rfl rfl (take_ofW HT_.out HW_.out (by kernel_rfl)) (fun _ _ _ h => h) (Or.inl ⟨by rfl, ?_⟩) hHeld ?_ ?_; rotate_left
       ·rintro w' ⟨s0, s1, s2⟩; go_simp
        with_reducible rfl
       rotate_left
       ·simp only [Act.put, sA, sB, sC, i64_w, i32_w]
        rfl
       refine one_ (i := 8) (N := some 62) #[Y,Y,Y,Y,Y,Y,Y,Y,Y,Y,Y,Y,Y,Y,Y,N,N,N,N,N,N,N,N,N,N,N,N,N,N,N,N,N,N,N,N,N,N,N,N,N,N,N,N,N,N,N,N,N,N,N] rfl rfl (one_of HT_.out (by kernel_rfl)) (by decide) (fun K hK => ?_); refine goes_ Try.func18 (by kernel_rfl) rfl #[.int .i64 ji28, .int .i64 a2, .agg #[.bool true, .int .i64 (wrap64 (8 * (wrap64 (1 + (wrap64 (Int.tmod (ji9) 1073741824)))))), .int .i64 0], .bool a6] (by rfl) rfl rfl (by (try simp only [List.map_toArray, List.map_cons, List.map_nil]); first | done | (simp only [hji28, hji9]; rfl) | rfl | (simp only [List.length_drop, List.length_take]; rfl)) ?_
       with_reducible refine (rate_OfS.calls ji28 a2 true (wrap64 (8 * (wrap64 (1 + (wrap64 (Int.tmod (ji9) 1073741824)))))) 0 a6 t297 _ A29.out).mono ?_
       rintro e w42 ⟨rfl, hb⟩; refine ⟨_, rfl, ?_⟩; replace BK293 := Aside0.mk (blk_below (g := gb293) (o := .cells #[.bool true, .int .i64 (wrap64 (8 * (wrap64 (1 + (wrap64 (Int.tmod (ji9) 1073741824)))))), .int .i64 0] 23 (0, 0)) BK293.out hb); replace BK294 := Aside0.mk (blk_below (g := gb294) (o := .cells #[.bool true, .int .i64 (wrap64 (8 * (wrap64 (1 + (wrap64 (Int.tmod (ji10) 1073741824)))))), .int .i64 0] 23 (0, 0)) BK294.out hb); replace HB := Aside0.mk (below_step HB.out hb); clear hb; refine hK.out _ _ ⟨(blk_cell BK293.out 0).trans rfl, (blk_cell BK293.out 1).trans rfl, (blk_cell BK293.out 2).trans rfl⟩ (fun hHeld => ?_); clear hK K; refine normA_ (some 62) ?_
       refine one_ (i := 15) (N := some 69) #[Y,Y,Y,Y,Y,Y,Y,Y,Y,Y,Y,Y,Y,Y,Y,Y,N,N,N,N,N,N,N,N,N,N,N,N,N,N,N,N,N,N,N,N,N,N,N,N,N,N,N,N,N,N,N,N,N,N] rfl rfl (one_of HT_.out (by kernel_rfl)) (by decide) (fun K hK => ?_); refine goes_ Try.func18 (by kernel_rfl) rfl #[.int .i64 ji30, .int .i64 a2, .agg #[.bool true, .int .i64 (wrap64 (8 * (wrap64 (1 + (wrap64 (Int.tmod (ji9) 1073741824)))))), .int .i64 0], .bool a6] (by rfl) rfl rfl (by (try simp only [List.map_toArray, List.map_cons, List.map_nil]); first | done | (simp only [hji30, hji9]; rfl) | rfl | (simp only [List.length_drop, List.length_take]; rfl)) ?_
       with_reducible refine (rate_OfS.calls ji30 a2 true (wrap64 (8 * (wrap64 (1 + (wrap64 (Int.tmod (ji9) 1073741824)))))) 0 a6 t298 _ A31.out).mono ?_
       rintro e w43 ⟨rfl, hb⟩; refine ⟨_, rfl, ?_⟩; replace BK293 := Aside0.mk (blk_below (g := gb293) (o := .cells #[.bool true, .int .i64 (wrap64 (8 * (wrap64 (1 + (wrap64 (Int.tmod (ji9) 1073741824)))))), .int .i64 0] 23 (0, 0)) BK293.out hb); replace BK294 := Aside0.mk (blk_below (g := gb294) (o := .cells #[.bool true, .int .i64 (wrap64 (8 * (wrap64 (1 + (wrap64 (Int.tmod (ji10) 1073741824)))))), .int .i64 0] 23 (0, 0)) BK294.out hb); replace HB := Aside0.mk (below_step HB.out hb); clear hb; refine hK.out _ _ ⟨(blk_cell BK293.out 0).trans rfl, (blk_cell BK293.out 1).trans rfl, (blk_cell BK293.out 2).trans rfl⟩ (fun hHeld => ?_); clear hK K; refine normA_ (some 69) ?_
       refine pureA_ (i := 16) (N := some 70) #[Y,Y,Y,Y,Y,Y,Y,Y,Y,Y,Y,Y,Y,Y,Y,Y,Y,N,N,N,N,N,N,N,N,N,N,N,N,N,N,N,N,N,N,N,N,N,N,N,N,N,N,N,N,N,N,N,N,N] rfl rfl (any_of HT_.out (by kernel_rfl)) ?_
       refine pureA_ (i := 17) (N := some 71) #[Y,Y,Y,Y,Y,Y,Y,Y,Y,Y,Y,Y,Y,Y,Y,Y,Y,Y,N,N,N,N,N,N,N,N,N,N,N,N,N,N,N,N,N,N,N,N,N,N,N,N,N,N,N,N,N,N,N,N] rfl rfl (any_of HT_.out (by kernel_rfl)) ?_
       refine pureA_ (i := 18) (N := some 72) #[Y,Y,Y,Y,Y,Y,Y,Y,Y,Y,Y,Y,Y,Y,Y,Y,Y,Y,Y,N,N,N,N,N,N,N,N,N,N,N,N,N,N,N,N,N,N,N,N,N,N,N,N,N,N,N,N,N,N,N] rfl rfl (any_of HT_.out (by kernel_rfl)) ?_
       refine pureA_ (i := 19) (N := some 73) #[Y,Y,Y,Y,Y,Y,Y,Y,Y,Y,Y,Y,Y,Y,Y,Y,Y,Y,Y,Y,N,N,N,N,N,N,N,N,N,N,N,N,N,N,N,N,N,N,N,N,N,N,N,N,N,N,N,N,N,N] rfl rfl (any_of HT_.out (by kernel_rfl)) ?_
       refine pureA_ (i := 20) (N := some 74) #[Y,Y,Y,Y,Y,Y,Y,Y,Y,Y,Y,Y,Y,Y,Y,Y,Y,Y,Y,Y,Y,N,N,N,N,N,N,N,N,N,N,N,N,N,N,N,N,N,N,N,N,N,N,N,N,N,N,N,N,N] rfl rfl (any_of HT_.out (by kernel_rfl)) ?_
       refine pureA_ (i := 21) (N := some 75) #[Y,Y,Y,Y,Y,Y,Y,Y,Y,Y,Y,Y,Y,Y,Y,Y,Y,Y,Y,Y,Y,Y,N,N,N,N,N,N,N,N,N,N,N,N,N,N,N,N,N,N,N,N,N,N,N,N,N,N,N,N] rfl rfl (any_of HT_.out (by kernel_rfl)) ?_
       refine pureA_ (i := 22) (N := some 76) #[Y,Y,Y,Y,Y,Y,Y,Y,Y,Y,Y,Y,Y,Y,Y,Y,Y,Y,Y,Y,Y,Y,Y,N,N,N,N,N,N,N,N,N,N,N,N,N,N,N,N,N,N,N,N,N,N,N,N,N,N,N] rfl rfl (any_of HT_.out (by kernel_rfl)) ?_
       refine pureA_ (i := 24) (N := some 78) #[Y,Y,Y,Y,Y,Y,Y,Y,Y,Y,Y,Y,Y,Y,Y,Y,Y,Y,Y,Y,Y,Y,Y,N,Y,N,N,N,N,N,N,N,N,N,N,N,N,N,N,N,N,N,N,N,N,N,N,N,N,N] rfl rfl (any_of HT_.out (by kernel_rfl)) ?_
       refine pureA_ (i := 26) (N := some 80) #[Y,Y,Y,Y,Y,Y,Y,Y,Y,Y,Y,Y,Y,Y,Y,Y,Y,Y,Y,Y,Y,Y,Y,N,Y,N,Y,N,N,N,N,N,N,N,N,N,N,N,N,N,N,N,N,N,N,N,N,N,N,N] rfl rfl (any_of HT_.out (by kernel_rfl)) ?_
       refine pureA_ (i := 27) (N := some 81) #[Y,Y,Y,Y,Y,Y,Y,Y,Y,Y,Y,Y,Y,Y,Y,Y,Y,Y,Y,Y,Y,Y,Y,N,Y,N,Y,Y,N,N,N,N,N,N,N,N,N,N,N,N,N,N,N,N,N,N,N,N,N,N] rfl rfl (any_of HT_.out (by kernel_rfl)) ?_
       refine pureA_ (i := 28) (N := some 82) #[Y,Y,Y,Y,Y,Y,Y,Y,Y,Y,Y,Y,Y,Y,Y,Y,Y,Y,Y,Y,Y,Y,Y,N,Y,N,Y,Y,Y,N,N,N,N,N,N,N,N,N,N,N,N,N,N,N,N,N,N,N,N,N] rfl rfl (any_of HT_.out (by kernel_rfl)) ?_
       refine pureA_ (i := 29) (N := some 83) #[Y,Y,Y,Y,Y,Y,Y,Y,Y,Y,Y,Y,Y,Y,Y,Y,Y,Y,Y,Y,Y,Y,Y,N,Y,N,Y,Y,Y,Y,N,N,N,N,N,N,N,N,N,N,N,N,N,N,N,N,N,N,N,N] rfl rfl (any_of HT_.out (by kernel_rfl)) ?_
       refine pureA_ (i := 31) (N := some 85) #[Y,Y,Y,Y,Y,Y,Y,Y,Y,Y,Y,Y,Y,Y,Y,Y,Y,Y,Y,Y,Y,Y,Y,N,Y,N,Y,Y,Y,Y,N,Y,N,N,N,N,N,N,N,N,N,N,N,N,N,N,N,N,N,N] rfl rfl (any_of HT_.out (by kernel_rfl)) ?_
       refine take_ (i := 23) (N := some 77) (v := ?_) (a' := ?_) #[Y,Y,Y,Y,Y,Y,Y,Y,Y,Y,Y,Y,Y,Y,Y,Y,Y,Y,Y,Y,Y,Y,Y,Y,Y,N,Y,Y,Y,Y,N,Y,N,N,N,N,N,N,N,N,N,N,N,N,N,N,N,N,N,N] rfl rfl (take_ofW HT_.out HW_.out (by kernel_rfl)) (fun _ _ _ h => h) (Or.inl ⟨by rfl, ?_⟩) hHeld ?_ ?_; rotate_left
       ·rintro w' ⟨s0, s1, s2⟩; go_simp
        with_reducible rfl
       rotate_left
       ·simp only [Act.put, sA, sB, sC, i64_w, i32_w]
        rfl
       refine take_ (i := 30) (N := some 84) (v := ?_) (a' := ?_) #[Y,Y,Y,Y,Y,Y,Y,Y,Y,Y,Y,Y,Y,Y,Y,Y,Y,Y,Y,Y,Y,Y,Y,Y,Y,N,Y,Y,Y,Y,Y,Y,N,N,N,N,N,N,N,N,N,N,N,N,N,N,N,N,N,N] rfl rfl (take_ofW HT_.out HW_.out (by kernel_rfl)) (fun _ _ _ h => h) (Or.inl ⟨by rfl, ?_⟩) hHeld ?_ ?_; rotate_left
       ·rintro w' ⟨s0, s1, s2⟩; go_simp
        with_reducible rfl
       rotate_left
       ·simp only [Act.put, sA, sB, sC, i64_w, i32_w]
        rfl
       refine one_ (i := 25) (N := some 79) #[Y,Y,Y,Y,Y,Y,Y,Y,Y,Y,Y,Y,Y,Y,Y,Y,Y,Y,Y,Y,Y,Y,Y,Y,Y,Y,Y,Y,Y,Y,Y,Y,N,N,N,N,N,N,N,N,N,N,N,N,N,N,N,N,N,N] rfl rfl (one_of HT_.out (by kernel_rfl)) (by decide) (fun K hK => ?_); refine goes_ Try.func18 (by kernel_rfl) rfl #[.int .i64 a0, .int .i64 ji33, .agg #[.bool true, .int .i64 (wrap64 (8 * (wrap64 (1 + (wrap64 (Int.tmod (ji9) 1073741824)))))), .int .i64 0], .bool a6] (by rfl) rfl rfl (by (try simp only [List.map_toArray, List.map_cons, List.map_nil]); first | done | (simp only [hji33, hji9]; rfl) | rfl | (simp only [List.length_drop, List.length_take]; rfl)) ?_
       with_reducible refine (rate_OfS.calls a0 ji33 true (wrap64 (8 * (wrap64 (1 + (wrap64 (Int.tmod (ji9) 1073741824)))))) 0 a6 t299 _ A34.out).mono ?_
       rintro e w44 ⟨rfl, hb⟩; refine ⟨_, rfl, ?_⟩; replace BK293 := Aside0.mk (blk_below (g := gb293) (o := .cells #[.bool true, .int .i64 (wrap64 (8 * (wrap64 (1 + (wrap64 (Int.tmod (ji9) 1073741824)))))), .int .i64 0] 23 (0, 0)) BK293.out hb); replace BK294 := Aside0.mk (blk_below (g := gb294) (o := .cells #[.bool true, .int .i64 (wrap64 (8 * (wrap64 (1 + (wrap64 (Int.tmod (ji10) 1073741824)))))), .int .i64 0] 23 (0, 0)) BK294.out hb); replace HB := Aside0.mk (below_step HB.out hb); clear hb; refine hK.out _ _ ⟨(blk_cell BK293.out 0).trans rfl, (blk_cell BK293.out 1).trans rfl, (blk_cell BK293.out 2).trans rfl⟩ (fun hHeld => ?_); clear hK K; refine normA_ (some 79) ?_
       refine one_ (i := 32) (N := some 86) #[Y,Y,Y,Y,Y,Y,Y,Y,Y,Y,Y,Y,Y,Y,Y,Y,Y,Y,Y,Y,Y,Y,Y,Y,Y,Y,Y,Y,Y,Y,Y,Y,Y,N,N,N,N,N,N,N,N,N,N,N,N,N,N,N,N,N] rfl rfl (one_of HT_.out (by kernel_rfl)) (by decide) (fun K hK => ?_); refine goes_ Try.func18 (by kernel_rfl) rfl #[.int .i64 a0, .int .i64 ji35, .agg #[.bool true, .int .i64 (wrap64 (8 * (wrap64 (1 + (wrap64 (Int.tmod (ji9) 1073741824)))))), .int .i64 0], .bool a6] (by rfl) rfl rfl (by (try simp only [List.map_toArray, List.map_cons, List.map_nil]); first | done | (simp only [hji35, hji9]; rfl) | rfl | (simp only [List.length_drop, List.length_take]; rfl)) ?_
       with_reducible refine (rate_OfS.calls a0 ji35 true (wrap64 (8 * (wrap64 (1 + (wrap64 (Int.tmod (ji9) 1073741824)))))) 0 a6 t300 _ A36.out).mono ?_
       rintro e w45 ⟨rfl, hb⟩; refine ⟨_, rfl, ?_⟩; replace BK293 := Aside0.mk (blk_below (g := gb293) (o := .cells #[.bool true, .int .i64 (wrap64 (8 * (wrap64 (1 + (wrap64 (Int.tmod (ji9) 1073741824)))))), .int .i64 0] 23 (0, 0)) BK293.out hb); replace BK294 := Aside0.mk (blk_below (g := gb294) (o := .cells #[.bool true, .int .i64 (wrap64 (8 * (wrap64 (1 + (wrap64 (Int.tmod (ji10) 1073741824)))))), .int .i64 0] 23 (0, 0)) BK294.out hb); replace HB := Aside0.mk (below_step HB.out hb); clear hb; refine hK.out _ _ ⟨(blk_cell BK293.out 0).trans rfl, (blk_cell BK293.out 1).trans rfl, (blk_cell BK293.out 2).trans rfl⟩ (fun hHeld => ?_); clear hK K; refine normA_ (some 86) ?_
       refine pureA_ (i := 33) (N := some 87) #[Y,Y,Y,Y,Y,Y,Y,Y,Y,Y,Y,Y,Y,Y,Y,Y,Y,Y,Y,Y,Y,Y,Y,Y,Y,Y,Y,Y,Y,Y,Y,Y,Y,Y,N,N,N,N,N,N,N,N,N,N,N,N,N,N,N,N] rfl rfl (any_of HT_.out (by kernel_rfl)) ?_
       refine pureA_ (i := 34) (N := some 88) #[Y,Y,Y,Y,Y,Y,Y,Y,Y,Y,Y,Y,Y,Y,Y,Y,Y,Y,Y,Y,Y,Y,Y,Y,Y,Y,Y,Y,Y,Y,Y,Y,Y,Y,Y,N,N,N,N,N,N,N,N,N,N,N,N,N,N,N] rfl rfl (any_of HT_.out (by kernel_rfl)) ?_
       refine pureA_ (i := 35) (N := some 89) #[Y,Y,Y,Y,Y,Y,Y,Y,Y,Y,Y,Y,Y,Y,Y,Y,Y,Y,Y,Y,Y,Y,Y,Y,Y,Y,Y,Y,Y,Y,Y,Y,Y,Y,Y,Y,N,N,N,N,N,N,N,N,N,N,N,N,N,N] rfl rfl (any_of HT_.out (by kernel_rfl)) ?_
       refine pureA_ (i := 36) (N := some 90) #[Y,Y,Y,Y,Y,Y,Y,Y,Y,Y,Y,Y,Y,Y,Y,Y,Y,Y,Y,Y,Y,Y,Y,Y,Y,Y,Y,Y,Y,Y,Y,Y,Y,Y,Y,Y,Y,N,N,N,N,N,N,N,N,N,N,N,N,N] rfl rfl (any_of HT_.out (by kernel_rfl)) ?_
       refine pureA_ (i := 37) (N := some 91) #[Y,Y,Y,Y,Y,Y,Y,Y,Y,Y,Y,Y,Y,Y,Y,Y,Y,Y,Y,Y,Y,Y,Y,Y,Y,Y,Y,Y,Y,Y,Y,Y,Y,Y,Y,Y,Y,Y,N,N,N,N,N,N,N,N,N,N,N,N] rfl rfl (any_of HT_.out (by kernel_rfl)) ?_
       refine pureA_ (i := 38) (N := some 92) #[Y,Y,Y,Y,Y,Y,Y,Y,Y,Y,Y,Y,Y,Y,Y,Y,Y,Y,Y,Y,Y,Y,Y,Y,Y,Y,Y,Y,Y,Y,Y,Y,Y,Y,Y,Y,Y,Y,Y,N,N,N,N,N,N,N,N,N,N,N] rfl rfl (any_of HT_.out (by kernel_rfl)) ?_
       refine pureA_ (i := 39) (N := some 93) #[Y,Y,Y,Y,Y,Y,Y,Y,Y,Y,Y,Y,Y,Y,Y,Y,Y,Y,Y,Y,Y,Y,Y,Y,Y,Y,Y,Y,Y,Y,Y,Y,Y,Y,Y,Y,Y,Y,Y,Y,N,N,N,N,N,N,N,N,N,N] rfl rfl (any_of HT_.out (by kernel_rfl)) ?_
       refine pureA_ (i := 40) (N := some 94) #[Y,Y,Y,Y,Y,Y,Y,Y,Y,Y,Y,Y,Y,Y,Y,Y,Y,Y,Y,Y,Y,Y,Y,Y,Y,Y,Y,Y,Y,Y,Y,Y,Y,Y,Y,Y,Y,Y,Y,Y,Y,N,N,N,N,N,N,N,N,N] rfl rfl (any_of HT_.out (by kernel_rfl)) ?_
       refine pureA_ (i := 43) (N := some 97) #[Y,Y,Y,Y,Y,Y,Y,Y,Y,Y,Y,Y,Y,Y,Y,Y,Y,Y,Y,Y,Y,Y,Y,Y,Y,Y,Y,Y,Y,Y,Y,Y,Y,Y,Y,Y,Y,Y,Y,Y,Y,N,N,Y,N,N,N,N,N,N] rfl rfl (any_of HT_.out (by kernel_rfl)) ?_
       refine pureA_ (i := 44) (N := some 98) #[Y,Y,Y,Y,Y,Y,Y,Y,Y,Y,Y,Y,Y,Y,Y,Y,Y,Y,Y,Y,Y,Y,Y,Y,Y,Y,Y,Y,Y,Y,Y,Y,Y,Y,Y,Y,Y,Y,Y,Y,Y,N,N,Y,Y,N,N,N,N,N] rfl rfl (any_of HT_.out (by kernel_rfl)) ?_
       refine take_ (i := 41) (N := some 95) (v := ?_) (a' := ?_) #[Y,Y,Y,Y,Y,Y,Y,Y,Y,Y,Y,Y,Y,Y,Y,Y,Y,Y,Y,Y,Y,Y,Y,Y,Y,Y,Y,Y,Y,Y,Y,Y,Y,Y,Y,Y,Y,Y,Y,Y,Y,Y,N,Y,Y,N,N,N,N,N] rfl rfl (take_ofW HT_.out HW_.out (by kernel_rfl)) (fun _ _ _ h => h) (Or.inl ⟨by rfl, ?_⟩) hHeld ?_ ?_; rotate_left
       ·rintro w' ⟨s0, s1, s2⟩; go_simp
        with_reducible rfl
       rotate_left
       ·simp only [Act.put, sA, sB, sC, i64_w, i32_w]
        rfl
       refine take_ (i := 45) (N := some 99) (v := ?_) (a' := ?_) #[Y,Y,Y,Y,Y,Y,Y,Y,Y,Y,Y,Y,Y,Y,Y,Y,Y,Y,Y,Y,Y,Y,Y,Y,Y,Y,Y,Y,Y,Y,Y,Y,Y,Y,Y,Y,Y,Y,Y,Y,Y,Y,N,Y,Y,Y,N,N,N,N] rfl rfl (take_ofW HT_.out HW_.out (by kernel_rfl)) (fun _ _ _ h => h) (Or.inl ⟨by rfl, ?_⟩) hHeld ?_ ?_; rotate_left
       ·rintro w' ⟨s0, s1, s2⟩; go_simp
        with_reducible rfl
       rotate_left
       ·simp only [Act.put, sA, sB, sC, i64_w, i32_w]
        rfl
       refine one_ (i := 42) (N := some 96) #[Y,Y,Y,Y,Y,Y,Y,Y,Y,Y,Y,Y,Y,Y,Y,Y,Y,Y,Y,Y,Y,Y,Y,Y,Y,Y,Y,Y,Y,Y,Y,Y,Y,Y,Y,Y,Y,Y,Y,Y,Y,Y,Y,Y,Y,Y,N,N,N,N] rfl rfl (one_of HT_.out (by kernel_rfl)) (by decide) (fun K hK => ?_); refine goes_ Try.func18 (by kernel_rfl) rfl #[.int .i64 a0, .int .i64 a2, .agg #[.bool true, .int .i64 (wrap64 (8 * (wrap64 (1 + (wrap64 (Int.tmod (ji9) 1073741824)))))), .int .i64 0], .bool false] (by rfl) rfl rfl (by (try simp only [List.map_toArray, List.map_cons, List.map_nil]); first | done | (simp only [hji9]; rfl) | rfl | (simp only [List.length_drop, List.length_take]; rfl)) ?_
       with_reducible refine (rate_OfS.calls a0 a2 true (wrap64 (8 * (wrap64 (1 + (wrap64 (Int.tmod (ji9) 1073741824)))))) 0 false t301 _ A39.out).mono ?_
       rintro e w46 ⟨rfl, hb⟩; refine ⟨_, rfl, ?_⟩; replace BK293 := Aside0.mk (blk_below (g := gb293) (o := .cells #[.bool true, .int .i64 (wrap64 (8 * (wrap64 (1 + (wrap64 (Int.tmod (ji9) 1073741824)))))), .int .i64 0] 23 (0, 0)) BK293.out hb); replace BK294 := Aside0.mk (blk_below (g := gb294) (o := .cells #[.bool true, .int .i64 (wrap64 (8 * (wrap64 (1 + (wrap64 (Int.tmod (ji10) 1073741824)))))), .int .i64 0] 23 (0, 0)) BK294.out hb); replace HB := Aside0.mk (below_step HB.out hb); clear hb; refine hK.out _ _ ⟨(blk_cell BK293.out 0).trans rfl, (blk_cell BK293.out 1).trans rfl, (blk_cell BK293.out 2).trans rfl⟩ (fun hHeld => ?_); clear hK K; refine normA_ (some 96) ?_
       refine one_ (i := 46) (N := some 100) #[Y,Y,Y,Y,Y,Y,Y,Y,Y,Y,Y,Y,Y,Y,Y,Y,Y,Y,Y,Y,Y,Y,Y,Y,Y,Y,Y,Y,Y,Y,Y,Y,Y,Y,Y,Y,Y,Y,Y,Y,Y,Y,Y,Y,Y,Y,Y,N,N,N] rfl rfl (one_of HT_.out (by kernel_rfl)) (by decide) (fun K hK => ?_); refine goes_ Try.func18 (by kernel_rfl) rfl #[.int .i64 a0, .int .i64 a2, .agg #[.bool true, .int .i64 (wrap64 (8 * (wrap64 (1 + (wrap64 (Int.tmod (ji9) 1073741824)))))), .int .i64 0], .bool true] (by rfl) rfl rfl (by (try simp only [List.map_toArray, List.map_cons, List.map_nil]); first | done | (simp only [hji9]; rfl) | rfl | (simp only [List.length_drop, List.length_take]; rfl)) ?_
       with_reducible refine (rate_OfS.calls a0 a2 true (wrap64 (8 * (wrap64 (1 + (wrap64 (Int.tmod (ji9) 1073741824)))))) 0 true t302 _ A40.out).mono ?_
       rintro e w47 ⟨rfl, hb⟩; refine ⟨_, rfl, ?_⟩; replace BK293 := Aside0.mk (blk_below (g := gb293) (o := .cells #[.bool true, .int .i64 (wrap64 (8 * (wrap64 (1 + (wrap64 (Int.tmod (ji9) 1073741824)))))), .int .i64 0] 23 (0, 0)) BK293.out hb); replace BK294 := Aside0.mk (blk_below (g := gb294) (o := .cells #[.bool true, .int .i64 (wrap64 (8 * (wrap64 (1 + (wrap64 (Int.tmod (ji10) 1073741824)))))), .int .i64 0] 23 (0, 0)) BK294.out hb); replace HB := Aside0.mk (below_step HB.out hb); clear hb; refine hK.out _ _ ⟨(blk_cell BK293.out 0).trans rfl, (blk_cell BK293.out 1).trans rfl, (blk_cell BK293.out 2).trans rfl⟩ (fun hHeld => ?_); clear hK K; refine normA_ (some 100) ?_
       refine pureA_ (i := 47) (N := some 101) #[Y,Y,Y,Y,Y,Y,Y,Y,Y,Y,Y,Y,Y,Y,Y,Y,Y,Y,Y,Y,Y,Y,Y,Y,Y,Y,Y,Y,Y,Y,Y,Y,Y,Y,Y,Y,Y,Y,Y,Y,Y,Y,Y,Y,Y,Y,Y,Y,N,N] rfl rfl (any_of HT_.out (by kernel_rfl)) ?_
       refine pureA_ (i := 48) (N := some 102) #[Y,Y,Y,Y,Y,Y,Y,Y,Y,Y,Y,Y,Y,Y,Y,Y,Y,Y,Y,Y,Y,Y,Y,Y,Y,Y,Y,Y,Y,Y,Y,Y,Y,Y,Y,Y,Y,Y,Y,Y,Y,Y,Y,Y,Y,Y,Y,Y,Y,N] rfl rfl (any_of HT_.out (by kernel_rfl)) ?_
       refine pureA_ (i := 49) (N := some 14) #[Y,Y,Y,Y,Y,Y,Y,Y,Y,Y,Y,Y,Y,Y,Y,Y,Y,Y,Y,Y,Y,Y,Y,Y,Y,Y,Y,Y,Y,Y,Y,Y,Y,Y,Y,Y,Y,Y,Y,Y,Y,Y,Y,Y,Y,Y,Y,Y,Y,Y] rfl rfl (any_of HT_.out (by kernel_rfl)) ?_
       refine done_ (done_of HT_.out (by kernel_rfl)) ?_
       try go_wp2
       go_ret
       exact ⟨by first | rfl | (simp [errW_none, errW_some] <;> rfl) | (simp only [← hji9, ← hji10, ← hji28, ← hji30, ← hji33, ← hji35]; first | rfl | (simp [errW_none, errW_some] <;> rfl)) | (simp [*, errW_none, errW_some] <;> rfl), by repeat (first | (with_reducible first | exact HB.out | apply below_alloc | apply pw_below_drewN | apply below_drew1 | refine below_set ?_ (Aside0.out (by assumption))) | exact HB.out)⟩
      ·replace c38 := Bool.eq_false_iff.mpr c38
       subst c38
       have H1 : (none) = some r := by rw [if_neg (show ¬ (false = true) by decide)] at H; exact H
       clear H; have H := H1; clear H1; exact absurd H (by simp)
     ·rw [if_neg c37] at H
      have c37b0 : decide (t299 ≤ t300) = false := decide_eq_false c37; clear c37; exact absurd H (by simp)
    ·rw [if_neg c32] at H
     have c32b0 : decide (t297 ≤ t298) = false := decide_eq_false c32; clear c32; exact absurd H (by simp)
   ·replace c27 := Bool.eq_false_iff.mpr c27
    subst c27
    have H1 : (none) = some r := by rw [if_neg (show ¬ (false = true) by decide)] at H; exact H
    clear H; have H := H1; clear H1; exact absurd H (by simp)

/-- THE ONE PURE STATEMENT of sawtoothlaw17_RateRises: yours. -/
def sawtoothlaw17_RateRises.Pure : Prop := ∀ (a0 : Int) (a1 : Int) (a2 : Int) (a3 : Int) (a4 : Int) (a5 : Int) (a6 : Bool), (Lit.int .i64 a0).wf = true → (Lit.int .i64 a1).wf = true → (Lit.int .i64 a2).wf = true → (Lit.int .i64 a3).wf = true → (Lit.int .u32 a4).wf = true → (Lit.int .u32 a5).wf = true → ∃ k, sawtoothlaw17_RateRises.f k a0 a1 a2 a3 a4 a5 a6 = some true
theorem sawtoothlaw17_RateRises.walk (P : sawtoothlaw17_RateRises.Pure) (a0 : Int) (a1 : Int) (a2 : Int) (a3 : Int) (a4 : Int) (a5 : Int) (a6 : Bool) (w : World) (w0 : (Lit.int .i64 a0).wf = true) (w1 : (Lit.int .i64 a1).wf = true) (w2 : (Lit.int .i64 a2).wf = true) (w3 : (Lit.int .i64 a3).wf = true) (w4 : (Lit.int .u32 a4).wf = true) (w5 : (Lit.int .u32 a5).wf = true) :
  Calls Try.prog 5 #[.int .i64 a0, .int .i64 a1, .int .i64 a2, .int .i64 a3, .int .u32 a4, .int .u32 a5, .bool a6] w fun e w' => e = .returned (.bool true) ∧ Below w.heap.size w w' := by
 obtain ⟨k, h⟩ := P a0 a1 a2 a3 a4 a5 a6 w0 w1 w2 w3 w4 w5; refine (sawtoothlaw17_RateRises.calls k a0 a1 a2 a3 a4 a5 a6 true w h).mono ?_; rintro e w' ⟨rfl, hd⟩; exact ⟨rfl, hd⟩

end Go.Proofs.Ytghpecgpdhaibaa.Px
