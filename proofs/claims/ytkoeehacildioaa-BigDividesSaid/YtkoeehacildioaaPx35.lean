/- Printed by a program of this session (wip/tool/px.py), over the kit's print: for each Go function a Lean function, and the proof that the machine's call answers as that function says. Conditions: none beside what the theorems state. -/
import Derived.Test.YtkoeehacildioaaPx0
import Derived.Test.YtkoeehacildioaaPx1
import Derived.Test.YtkoeehacildioaaPx11
import Derived.Test.YtkoeehacildioaaPx14
import Derived.Test.YtkoeehacildioaaPx16
import Derived.Test.YtkoeehacildioaaPx22
import Derived.Test.YtkoeehacildioaaPx28
import Derived.Test.YtkoeehacildioaaPx32
namespace Go.Proofs.Ytkoeehacildioaa.Px
open Go.RowKit Go.Proofs.YtkoeehacildioaaW.PrintWords Go.Proofs.YtkoeehacildioaaW.PrintLast Go.Proofs.YtkoeehacildioaaW.PrintMore
attribute [local go_sem] max2_int min2_int max_two min_two max_three min_three max_four min_four   -- for this text's walks alone
set_option linter.unusedVariables false
set_option linter.unusedSimpArgs false

attribute [local go_sem high] eqA24
/-! ### sawtoothlaw02_BigDivides: function 5 -/
noncomputable def sawtoothlaw02_BigDivides.j0 : Nat → Int → Bool → Int → Int → Bool → Bool → Int → Int → Bool → Int → Int → Option (Bool)
 | 0, _, _, _, _, _, _, _, _, _, _, _ => none
 | k + 1, x1, x5, x7, x8, x34, x459000, x459001, x459002, x466000, x466001, x466002 => if x34 = true then (if x5 = true then (if ((x1 == 0) == (x8 == 20)) = true then (if (!x466000 && (x466001 == 0 && (x466002 == 0))) = true then (some (x7 == 0)) else (none)) else (none)) else (none)) else ((big_CmpS.f x459000 x459001 x459002 false 0 0).bind fun t466 => (if t466 ≥ 0 then ((big_ScaleS.f x466000 x466001 x466002 x1).bind fun bt467 => ((big_AddS.f bt467.1 bt467.2.1 bt467.2.2.1 false 0 x7).bind fun bt472 => (if x5 = true then (if x7 < x1 then (if bt467.2.2.2 = 0 then (if bt472.2.2.2 = 0 then ((big_CmpS.f bt472.1 bt472.2.1 bt472.2.2.1 x459000 x459001 x459002).bind fun t477 => (some (t477 == 0))) else (none)) else (none)) else (none)) else (none)))) else ((big_OfS.f 1).bind fun bt478 => ((big_AddS.f x466000 x466001 x466002 bt478.1 bt478.2.1 bt478.2.2).bind fun bt481 => ((big_ScaleS.f bt481.1 bt481.2.1 bt481.2.2.1 x1).bind fun bt486 => ((big_AddS.f false 0 x7 true 0 x1).bind fun bt491 => ((big_AddS.f bt486.1 bt486.2.1 bt486.2.2.1 bt491.1 bt491.2.1 bt491.2.2.1).bind fun bt496 => (if x5 = true then (if x7 < x1 then (if bt481.2.2.2 = 0 then (if bt486.2.2.2 = 0 then (if bt491.2.2.2 = 0 then (if bt496.2.2.2 = 0 then ((big_CmpS.f bt496.1 bt496.2.1 bt496.2.2.1 x459000 x459001 x459002).bind fun t501 => (some (t501 == 0))) else (none)) else (none)) else (none)) else (none)) else (none)) else (none)))))))))
noncomputable def sawtoothlaw02_BigDivides.f (k : Nat) (a0_0 : Bool) (a0_1 : Int) (a0_2 : Int) (a1 : Int) : Option (Bool) := (sawtoothlaw02_awakeS.f).bind fun t459 => ((big_DivS.f a0_0 a0_1 a0_2 a1).bind fun bt460 => (if a1 = 0 then (sawtoothlaw02_BigDivides.j0 k a1 t459 bt460.2.2.2.1 bt460.2.2.2.2 true a0_0 a0_1 a0_2 bt460.1 bt460.2.1 bt460.2.2.1) else (sawtoothlaw02_BigDivides.j0 k a1 t459 bt460.2.2.2.1 bt460.2.2.2.2 (bt460.2.2.2.2 != 0) a0_0 a0_1 a0_2 bt460.1 bt460.2.1 bt460.2.2.1)))
theorem sawtoothlaw02_BigDivides.mono_l : ∀ k, (∀ y0 y1 y2 y3 y4 y5 y6 y7 y8 y9 y10, LeO (sawtoothlaw02_BigDivides.j0 k y0 y1 y2 y3 y4 y5 y6 y7 y8 y9 y10) (sawtoothlaw02_BigDivides.j0 (k + 1) y0 y1 y2 y3 y4 y5 y6 y7 y8 y9 y10))
 | 0 => fun _ _ _ _ _ _ _ _ _ _ _ r h => by simp [sawtoothlaw02_BigDivides.j0] at h
 | k + 1 => by
  have ih0 := sawtoothlaw02_BigDivides.mono_l k
  ·intro y0 y1 y2 y3 y4 y5 y6 y7 y8 y9 y10
   unfold sawtoothlaw02_BigDivides.j0
   repeat' first
   | (with_reducible exact ih0 _ _ _ _ _ _ _ _ _ _ _)
   | (with_reducible exact LeO.refl _)
   | (with_reducible exact LeO.none _)
   | (with_reducible refine LeO.ite ?_ ?_)
   | (with_reducible refine LeO.bind ?_ (fun _ => ?_))
   | exact ih0 _ _ _ _ _ _ _ _ _ _ _
   | exact LeO.none _
   | refine LeO.ite ?_ ?_
   | refine LeO.bind ?_ (fun _ => ?_)
theorem sawtoothlaw02_BigDivides.mono : ∀ a0 a1 a2 a3 k, LeO (sawtoothlaw02_BigDivides.f k a0 a1 a2 a3) (sawtoothlaw02_BigDivides.f (k + 1) a0 a1 a2 a3) := by
 intro a0 a1 a2 a3 k
 have ih0 := sawtoothlaw02_BigDivides.mono_l k
 unfold sawtoothlaw02_BigDivides.f
 repeat' first
   | (with_reducible exact ih0 _ _ _ _ _ _ _ _ _ _ _)
   | (with_reducible exact LeO.refl _)
   | (with_reducible exact LeO.none _)
   | (with_reducible refine LeO.ite ?_ ?_)
   | (with_reducible refine LeO.bind ?_ (fun _ => ?_))
   | exact ih0 _ _ _ _ _ _ _ _ _ _ _
   | exact LeO.none _
   | refine LeO.ite ?_ ?_
   | refine LeO.bind ?_ (fun _ => ?_)
def sawtoothlaw02_BigDivides.T9 : Bool × List (List Nat × List Nat) := (true, [([], []), ([], []), ([0, 1, 1], [0, 1]), ([2], [2]), ([3], [3]), ([3], [3]), ([], []), ([6, 4, 2, 0, 1, 2, 3, 4, 6], [4, 6]), ([5, 7, 0, 1, 2, 3, 4, 5, 6, 7], [5])])
def sawtoothlaw02_BigDivides.B9 : List Nat := [0, 0, 3, 7, 15, 15, 0, 95, 255]
theorem sawtoothlaw02_BigDivides.tab9 : rtab .any (opsOf Try.f5 9) = sawtoothlaw02_BigDivides.T9 := by kernel_rfl
theorem sawtoothlaw02_BigDivides.bits9 : waitsOk sawtoothlaw02_BigDivides.T9.2 sawtoothlaw02_BigDivides.B9 = true := by kernel_rfl
set_option maxHeartbeats 8000000 in
set_option maxRecDepth 100000 in
theorem sawtoothlaw02_BigDivides.calls (k : Nat) (a0_0 : Bool) (a0_1 : Int) (a0_2 : Int) (a1 : Int) (r : Bool) (w : World) (h : sawtoothlaw02_BigDivides.f k a0_0 a0_1 a0_2 a1 = some r) :
  Calls Try.prog 5 #[.agg #[.bool a0_0, .int .u64 a0_1, .int .u64 a0_2], .int .u64 a1] w fun e w' => e = .returned (.bool r) ∧ Below w.heap.size w w' := by
 have hu24 := Try.underlying24
 have HB := Aside0.mk (Below.refl w.heap.size w)
 have H : ((sawtoothlaw02_awakeS.f).bind fun t459 => ((big_DivS.f a0_0 a0_1 a0_2 a1).bind fun bt460 => (if a1 = 0 then (sawtoothlaw02_BigDivides.j0 k a1 t459 bt460.2.2.2.1 bt460.2.2.2.2 true a0_0 a0_1 a0_2 bt460.1 bt460.2.1 bt460.2.2.1) else (sawtoothlaw02_BigDivides.j0 k a1 t459 bt460.2.2.2.1 bt460.2.2.2.2 (bt460.2.2.2.2 != 0) a0_0 a0_1 a0_2 bt460.1 bt460.2.1 bt460.2.2.1)))) = some r := h
 clear h
 replace H := Option.bind_eq_some_iff.mp H
 obtain ⟨t459, A30, H⟩ := H
 try dsimp only at H
 have A3 := Aside0.mk A30
 clear A30
 replace H := Option.bind_eq_some_iff.mp H
 obtain ⟨⟨t460, t461, t462, t463, t464⟩, A40, H⟩ := H
 try dsimp only at H
 have A4 := Aside0.mk A40
 clear A40
 have HC5 := Aside0.mk H
 clear H
 go_enter Try.func5, Try.ntmps5
 go_upto_region 3 with (first | ((with_reducible refine gate_dst (N := 2) rfl ?_); refine box_event ?hg (N := 2) ?hd (cs := #[.bool a0_0, .int .u64 a0_1, .int .u64 a0_2]) (t := 24) ?hr ?_; (case hd => rfl); (case hg => rfl); (case hr => first | (go_simp; done) | (go_simp; rfl)); intro gb458 hg w6 hbox hb; have BK458 := Aside0.mk (hbox); have GW458 := Aside0.mk ((by rw [hg]; exact (below_size (by repeat (first | (with_reducible first | exact HB.out | apply below_alloc | apply pw_below_drewN | apply below_drew1) | exact HB.out))) : w.heap.size ≤ gb458)); have GE458 := Aside0.mk ((by rw [hg]; exact (below_size (by repeat (first | (with_reducible first | exact HB.out | apply below_alloc | apply pw_below_drewN | apply below_drew1) | exact HB.out))) : w.heap.size ≤ gb458)); replace HB := Aside0.mk (below_step (by repeat (first | (with_reducible first | exact HB.out | apply below_alloc | apply pw_below_drewN | apply below_drew1) | exact HB.out)) hb); clear hb hbox hg) | ((with_reducible refine gate_callee (f := 15) rfl ?_); refine goesL_ (some 21) rfl rfl Try.func15 (by kernel_rfl) rfl #[] rfl (by (try simp only [List.map_toArray, List.map_cons, List.map_nil]); first | done | rfl | (simp only [List.length_drop, List.length_take]; rfl)) ?_; (with_reducible refine (sawtoothlaw02_awakeS.calls  t459 _ A3.out).mono ?_); rintro e w7 ⟨rfl, hb⟩; refine ⟨_, rfl, ?_⟩; replace BK458 := Aside0.mk (blk_below (g := gb458) (o := .cells #[.bool a0_0, .int .u64 a0_1, .int .u64 a0_2] 24 (0, 0)) (by (with_reducible repeat (first | refine blk_drewN ?_ _ | refine blk_drew ?_ | refine blk_alloc ?_ _)); exact BK458.out) hb); replace HB := Aside0.mk (below_step (by repeat (first | (with_reducible first | exact HB.out | apply below_alloc | apply pw_below_drewN | apply below_drew1 | refine below_set ?_ GE458.out) | exact HB.out)) hb); (try clear hb); (try clear hb2); (try clear hk); (try clear hi); have hcz8_0 : w7.cell? ⟨gb458, 0, none⟩ = some (.bool a0_0) := (blk_cell BK458.out 0).trans rfl; have hcz8_1 : w7.cell? ⟨gb458, 1, none⟩ = some (.int .u64 a0_1) := (blk_cell BK458.out 1).trans rfl; have hcz8_2 : w7.cell? ⟨gb458, 2, none⟩ = some (.int .u64 a0_2) := (blk_cell BK458.out 2).trans rfl; have hfz8_0 := blk_frozen BK458.out 0; have hfz8_1 := blk_frozen BK458.out 1; have hfz8_2 := blk_frozen BK458.out 2) | ((with_reducible refine gate_callee (f := 20) rfl ?_); refine goesL_ (some 25) rfl rfl Try.func20 (by kernel_rfl) rfl #[.agg #[.bool a0_0, .int .u64 a0_1, .int .u64 a0_2], .int .u64 a1] rfl (by (try simp only [List.map_toArray, List.map_cons, List.map_nil]); first | done | rfl | (simp only [List.length_drop, List.length_take]; rfl)) ?_; (with_reducible refine (big_DivS.calls a0_0 a0_1 a0_2 a1 t460 t461 t462 t463 t464 _ A4.out).mono ?_); rintro e w9 ⟨rfl, hb⟩; refine ⟨_, rfl, ?_⟩; replace BK458 := Aside0.mk (blk_below (g := gb458) (o := .cells #[.bool a0_0, .int .u64 a0_1, .int .u64 a0_2] 24 (0, 0)) (by (with_reducible repeat (first | refine blk_drewN ?_ _ | refine blk_drew ?_ | refine blk_alloc ?_ _)); exact BK458.out) hb); replace HB := Aside0.mk (below_step (by repeat (first | (with_reducible first | exact HB.out | apply below_alloc | apply pw_below_drewN | apply below_drew1 | refine below_set ?_ GE458.out) | exact HB.out)) hb); (try clear hb); (try clear hb2); (try clear hk); (try clear hi)) | ((with_reducible refine gate_dst (N := 6) rfl ?_); refine box_event ?hg (N := 6) ?hd (cs := #[.bool false, .int .u64 0, .int .u64 0]) (t := 24) ?hr ?_; (case hd => rfl); (case hg => rfl); (case hr => first | (go_simp; done) | (go_simp; rfl)); intro gb465 hg w10 hbox hb; have BK465 := Aside0.mk (hbox); have GW465 := Aside0.mk ((by rw [hg]; exact (below_size (by repeat (first | (with_reducible first | exact HB.out | apply below_alloc | apply pw_below_drewN | apply below_drew1 | refine below_set ?_ GE458.out) | exact HB.out))) : w.heap.size ≤ gb465)); have GE465 := Aside0.mk ((by rw [hg]; exact (below_size (by repeat (first | (with_reducible first | exact HB.out | apply below_alloc | apply pw_below_drewN | apply below_drew1 | refine below_set ?_ GE458.out) | exact HB.out))) : w.heap.size ≤ gb465)); have NB458_465 := Aside0.mk ((by rw [hg]; exact Nat.ne_of_lt (blk_lt (g := gb458) (o := .cells #[.bool a0_0, .int .u64 a0_1, .int .u64 a0_2] 24 (0, 0)) (by (with_reducible repeat (first | refine blk_drewN ?_ _ | refine blk_drew ?_ | refine blk_alloc ?_ _)); exact BK458.out)) : gb458 ≠ gb465)); have NB465_458 := Aside0.mk ((by rw [hg]; exact Nat.ne_of_gt (blk_lt (g := gb458) (o := .cells #[.bool a0_0, .int .u64 a0_1, .int .u64 a0_2] 24 (0, 0)) (by (with_reducible repeat (first | refine blk_drewN ?_ _ | refine blk_drew ?_ | refine blk_alloc ?_ _)); exact BK458.out)) : gb465 ≠ gb458)); replace BK458 := Aside0.mk (blk_below (g := gb458) (o := .cells #[.bool a0_0, .int .u64 a0_1, .int .u64 a0_2] 24 (0, 0)) (by (with_reducible repeat (first | refine blk_drewN ?_ _ | refine blk_drew ?_ | refine blk_alloc ?_ _)); exact BK458.out) hb); replace HB := Aside0.mk (below_step (by repeat (first | (with_reducible first | exact HB.out | apply below_alloc | apply pw_below_drewN | apply below_drew1 | refine below_set ?_ GE458.out) | exact HB.out)) hb); clear hb hbox hg; have hnb11 := NB465_458.out; have hnc11 := NB458_465.out; have hcz12_0 : w10.cell? ⟨gb465, 0, none⟩ = some (.bool false) := (blk_cell BK465.out 0).trans rfl; have hcz12_1 : w10.cell? ⟨gb465, 1, none⟩ = some (.int .u64 0) := (blk_cell BK465.out 1).trans rfl; have hcz12_2 : w10.cell? ⟨gb465, 2, none⟩ = some (.int .u64 0) := (blk_cell BK465.out 2).trans rfl; have hfz12_0 := blk_frozen BK465.out 0; have hfz12_1 := blk_frozen BK465.out 1; have hfz12_2 := blk_frozen BK465.out 2))
 (try simp only [Act.put, List.setIfInBounds_toArray, List.set_cons_zero, List.set_cons_succ])
 go_cut [34] (fun v34 wc => ∃ (kq : Nat) (x34_4 : Bool), v34 = .bool x34_4 ∧ Aside0 (sawtoothlaw02_BigDivides.j0 kq a1 t459 t463 t464 x34_4 a0_0 a0_1 a0_2 t460 t461 t462 = some r) ∧ Aside0 (kq ≤ k) ∧ Aside0 (wc.heap[gb458]? = some (.cells #[.bool a0_0, .int .u64 a0_1, .int .u64 a0_2] 24 (0, 0))) ∧ Aside0 (wc.heap[gb465]? = some (.cells #[.bool t460, .int .u64 t461, .int .u64 t462] 24 (0, 0))) ∧ Aside0 (Below w.heap.size w wc))
 case first =>
  have H := HC5.out
  clear HC5
  by_cases c13 : a1 = 0
  ·rw [if_pos c13] at H
   have c13b0 : (a1 == 0) = true := beq_iff_eq.mpr c13
   have c13b1 : (a1 != 0) = false := bne_eq_false_iff_eq.mpr c13
   clear c13
   (first | rw [c13b0] | (simp only [i64_w, i32_w]; rw [c13b0]) | skip)
   have H' := Aside0.mk H
   clear H
   go_wp2
   go_meet
   case rel => exact ⟨_, (true), (by first | rfl | (simp; done) | (simp [*]; done)), H', ⟨by first | omega | exact Nat.le_refl _⟩, ⟨by (with_reducible repeat (first | refine blk_drewN ?_ _ | refine blk_drew ?_ | refine blk_alloc ?_ _)); refine blk_far ?_ NB458_465.out _; (with_reducible repeat (first | refine blk_drewN ?_ _ | refine blk_drew ?_ | refine blk_alloc ?_ _)); refine blk_far ?_ NB458_465.out _; (with_reducible repeat (first | refine blk_drewN ?_ _ | refine blk_drew ?_ | refine blk_alloc ?_ _)); refine blk_far ?_ NB458_465.out _; (with_reducible repeat (first | refine blk_drewN ?_ _ | refine blk_drew ?_ | refine blk_alloc ?_ _)); exact BK458.out⟩, ⟨by (with_reducible repeat (first | refine blk_drewN ?_ _ | refine blk_drew ?_ | refine blk_alloc ?_ _)); refine blk_put (cs := #[.bool t460, .int .u64 t461, .int .u64 0]) ?_ 2 _ rfl; (with_reducible repeat (first | refine blk_drewN ?_ _ | refine blk_drew ?_ | refine blk_alloc ?_ _)); refine blk_put (cs := #[.bool t460, .int .u64 0, .int .u64 0]) ?_ 1 _ rfl; (with_reducible repeat (first | refine blk_drewN ?_ _ | refine blk_drew ?_ | refine blk_alloc ?_ _)); refine blk_put (cs := #[.bool false, .int .u64 0, .int .u64 0]) ?_ 0 _ rfl; (with_reducible repeat (first | refine blk_drewN ?_ _ | refine blk_drew ?_ | refine blk_alloc ?_ _)); exact BK465.out⟩, ⟨by repeat (first | (with_reducible first | exact HB.out | apply below_alloc | apply pw_below_drewN | apply below_drew1 | refine below_set ?_ GE458.out | refine below_set ?_ GE465.out) | exact HB.out)⟩⟩
  ·rw [if_neg c13] at H
   have c13b0 : (a1 == 0) = false := beq_eq_false_iff_ne.mpr c13
   have c13b1 : (a1 != 0) = true := bne_iff_ne.mpr c13
   (first | rw [c13b0] | (simp only [i64_w, i32_w]; rw [c13b0]) | skip)
   have H' := Aside0.mk H
   clear H
   go_wp2
   go_meet
   case rel => exact ⟨_, ((t464 != 0)), (by first | rfl | (simp; done) | (simp [*]; done)), H', ⟨by first | omega | exact Nat.le_refl _⟩, ⟨by (with_reducible repeat (first | refine blk_drewN ?_ _ | refine blk_drew ?_ | refine blk_alloc ?_ _)); refine blk_far ?_ NB458_465.out _; (with_reducible repeat (first | refine blk_drewN ?_ _ | refine blk_drew ?_ | refine blk_alloc ?_ _)); refine blk_far ?_ NB458_465.out _; (with_reducible repeat (first | refine blk_drewN ?_ _ | refine blk_drew ?_ | refine blk_alloc ?_ _)); refine blk_far ?_ NB458_465.out _; (with_reducible repeat (first | refine blk_drewN ?_ _ | refine blk_drew ?_ | refine blk_alloc ?_ _)); exact BK458.out⟩, ⟨by (with_reducible repeat (first | refine blk_drewN ?_ _ | refine blk_drew ?_ | refine blk_alloc ?_ _)); refine blk_put (cs := #[.bool t460, .int .u64 t461, .int .u64 0]) ?_ 2 _ rfl; (with_reducible repeat (first | refine blk_drewN ?_ _ | refine blk_drew ?_ | refine blk_alloc ?_ _)); refine blk_put (cs := #[.bool t460, .int .u64 0, .int .u64 0]) ?_ 1 _ rfl; (with_reducible repeat (first | refine blk_drewN ?_ _ | refine blk_drew ?_ | refine blk_alloc ?_ _)); refine blk_put (cs := #[.bool false, .int .u64 0, .int .u64 0]) ?_ 0 _ rfl; (with_reducible repeat (first | refine blk_drewN ?_ _ | refine blk_drew ?_ | refine blk_alloc ?_ _)); exact BK465.out⟩, ⟨by repeat (first | (with_reducible first | exact HB.out | apply below_alloc | apply pw_below_drewN | apply below_drew1 | refine below_set ?_ GE458.out | refine below_set ?_ GE465.out) | exact HB.out)⟩⟩
 case rest =>
  clear HC5
  try clear c1
  try clear c2
  try clear p2
  try clear c5
  try clear c11
  try clear c13
  try clear c13b0
  try clear c13b1
  try clear hcz12_0
  try clear hcz12_1
  try clear hcz12_2
  try clear hcz8_0
  try clear hcz8_1
  try clear hcz8_2
  try clear hfz12_0
  try clear hfz12_1
  try clear hfz12_2
  try clear hfz8_0
  try clear hfz8_1
  try clear hfz8_2
  obtain ⟨kq, x34_4, rfl, HA, HJ4, BK458, BK465, HB⟩ := hcut
  cases kq with
  | zero => exact absurd HA.out (by simp [sawtoothlaw02_BigDivides.j0])
  | succ kj4 =>
   have H := HA.out
   clear HA
   simp only [sawtoothlaw02_BigDivides.j0] at H
   by_cases c14 : x34_4 = true
   ·subst c14
    have H1 : (if t459 = true then (if ((a1 == 0) == (t464 == 20)) = true then (if (!t460 && (t461 == 0 && (t462 == 0))) = true then (some (t463 == 0)) else (none)) else (none)) else (none)) = some r := by rw [if_pos rfl] at H; exact H
    clear H
    have H := H1
    clear H1
    by_cases c15 : t459 = true
    ·subst c15
     have H1 : (if ((a1 == 0) == (t464 == 20)) = true then (if (!t460 && (t461 == 0 && (t462 == 0))) = true then (some (t463 == 0)) else (none)) else (none)) = some r := by rw [if_pos rfl] at H; exact H
     clear H
     have H := H1
     clear H1
     by_cases c16 : ((a1 == 0) == (t464 == 20)) = true
     ·rw [if_pos c16] at H
      have c16b0 : ((a1 == 0) == (t464 == 20)) = true := c16
      (try (have c16b1 : decide ((a1 == 0) = (t464 == 20)) = true := by simpa using c16))
      (try (have c16b2 : ((a1 == 0) == (t464 == 20)) = true := by simpa using c16))
      clear c16
      by_cases c17 : (!t460 && (t461 == 0 && (t462 == 0))) = true
      ·rw [if_pos c17] at H
       have c17b0 : (!t460 && (t461 == 0 && (t462 == 0))) = true := c17
       clear c17
       obtain rfl := Option.some.inj H
       have hnb18 := NB465_458.out
       have hnc18 := NB458_465.out
       have hcz19_0 : wc.cell? ⟨gb465, 0, none⟩ = some (.bool t460) := (blk_cell BK465.out 0).trans rfl
       have hcz19_1 : wc.cell? ⟨gb465, 1, none⟩ = some (.int .u64 t461) := (blk_cell BK465.out 1).trans rfl
       have hcz19_2 : wc.cell? ⟨gb465, 2, none⟩ = some (.int .u64 t462) := (blk_cell BK465.out 2).trans rfl
       have hfz19_0 := blk_frozen BK465.out 0
       have hfz19_1 := blk_frozen BK465.out 1
       have hfz19_2 := blk_frozen BK465.out 2
       go_wp2
       go_ret
       exact ⟨by first | rfl | (simp [errW_none, errW_some] <;> rfl) | (simp [*, errW_none, errW_some] <;> rfl), by repeat (first | (with_reducible first | exact HB.out | apply below_alloc | apply pw_below_drewN | apply below_drew1 | refine below_set ?_ GE458.out | refine below_set ?_ GE465.out) | exact HB.out)⟩
      ·rw [if_neg c17] at H
       exact absurd H (by simp)
     ·rw [if_neg c16] at H
      exact absurd H (by simp)
    ·replace c15 := Bool.eq_false_iff.mpr c15
     subst c15
     have H1 : (none) = some r := by rw [if_neg (show ¬ (false = true) by decide)] at H; exact H
     clear H
     have H := H1
     clear H1
     exact absurd H (by simp)
   ·replace c14 := Bool.eq_false_iff.mpr c14
    subst c14
    have H1 : ((big_CmpS.f a0_0 a0_1 a0_2 false 0 0).bind fun t466 => (if t466 ≥ 0 then ((big_ScaleS.f t460 t461 t462 a1).bind fun bt467 => ((big_AddS.f bt467.1 bt467.2.1 bt467.2.2.1 false 0 t463).bind fun bt472 => (if t459 = true then (if t463 < a1 then (if bt467.2.2.2 = 0 then (if bt472.2.2.2 = 0 then ((big_CmpS.f bt472.1 bt472.2.1 bt472.2.2.1 a0_0 a0_1 a0_2).bind fun t477 => (some (t477 == 0))) else (none)) else (none)) else (none)) else (none)))) else ((big_OfS.f 1).bind fun bt478 => ((big_AddS.f t460 t461 t462 bt478.1 bt478.2.1 bt478.2.2).bind fun bt481 => ((big_ScaleS.f bt481.1 bt481.2.1 bt481.2.2.1 a1).bind fun bt486 => ((big_AddS.f false 0 t463 true 0 a1).bind fun bt491 => ((big_AddS.f bt486.1 bt486.2.1 bt486.2.2.1 bt491.1 bt491.2.1 bt491.2.2.1).bind fun bt496 => (if t459 = true then (if t463 < a1 then (if bt481.2.2.2 = 0 then (if bt486.2.2.2 = 0 then (if bt491.2.2.2 = 0 then (if bt496.2.2.2 = 0 then ((big_CmpS.f bt496.1 bt496.2.1 bt496.2.2.1 a0_0 a0_1 a0_2).bind fun t501 => (some (t501 == 0))) else (none)) else (none)) else (none)) else (none)) else (none)) else (none))))))))) = some r := by rw [if_neg (show ¬ (false = true) by decide)] at H; exact H
    clear H
    have H := H1
    clear H1
    replace H := Option.bind_eq_some_iff.mp H
    obtain ⟨t466, A200, H⟩ := H
    try dsimp only at H
    have A20 := Aside0.mk A200
    clear A200
    by_cases c21 : t466 ≥ 0
    ·rw [if_pos c21] at H
     have c21b0 : decide (0 ≤ t466) = true := decide_eq_true c21
     clear c21
     replace H := Option.bind_eq_some_iff.mp H
     obtain ⟨⟨t467, t468, t469, t470⟩, A220, H⟩ := H
     try dsimp only at H
     have A22 := Aside0.mk A220
     clear A220
     replace H := Option.bind_eq_some_iff.mp H
     obtain ⟨⟨t472, t473, t474, t475⟩, A230, H⟩ := H
     try dsimp only at H
     have A23 := Aside0.mk A230
     clear A230
     by_cases c24 : t459 = true
     ·subst c24
      have H1 : (if t463 < a1 then (if t470 = 0 then (if t475 = 0 then ((big_CmpS.f t472 t473 t474 a0_0 a0_1 a0_2).bind fun t477 => (some (t477 == 0))) else (none)) else (none)) else (none)) = some r := by rw [if_pos rfl] at H; exact H
      clear H
      have H := H1
      clear H1
      by_cases c25 : t463 < a1
      ·rw [if_pos c25] at H
       have c25b0 : decide (t463 < a1) = true := decide_eq_true c25
       clear c25
       by_cases c26 : t470 = 0
       ·rw [if_pos c26] at H
        have c26b0 : (t470 == 0) = true := beq_iff_eq.mpr c26
        have c26b1 : (t470 != 0) = false := bne_eq_false_iff_eq.mpr c26
        clear c26
        by_cases c27 : t475 = 0
        ·rw [if_pos c27] at H
         have c27b0 : (t475 == 0) = true := beq_iff_eq.mpr c27
         have c27b1 : (t475 != 0) = false := bne_eq_false_iff_eq.mpr c27
         clear c27
         replace H := Option.bind_eq_some_iff.mp H
         obtain ⟨t477, A280, H⟩ := H
         replace H : (some (t477 == 0)) = some r := H
         have A28 := Aside0.mk A280
         clear A280
         obtain rfl := Option.some.inj H
         have hnb29 := NB458_465.out
         have hnc29 := NB465_458.out
         have hcz30_0 : wc.cell? ⟨gb458, 0, none⟩ = some (.bool a0_0) := (blk_cell BK458.out 0).trans rfl
         have hcz30_1 : wc.cell? ⟨gb458, 1, none⟩ = some (.int .u64 a0_1) := (blk_cell BK458.out 1).trans rfl
         have hcz30_2 : wc.cell? ⟨gb458, 2, none⟩ = some (.int .u64 a0_2) := (blk_cell BK458.out 2).trans rfl
         have hfz30_0 := blk_frozen BK458.out 0
         have hfz30_1 := blk_frozen BK458.out 1
         have hfz30_2 := blk_frozen BK458.out 2
         go_wp2_with (first | ((with_reducible refine gate_callee (f := 28) rfl ?_); refine goesL_ (some 54) rfl rfl Try.func28 (by kernel_rfl) rfl #[.agg #[.bool a0_0, .int .u64 a0_1, .int .u64 a0_2], .agg #[.bool false, .int .u64 0, .int .u64 0]] rfl (by (try simp only [List.map_toArray, List.map_cons, List.map_nil]); first | done | rfl | (simp only [List.length_drop, List.length_take]; rfl)) ?_; (with_reducible refine (big_CmpS.calls a0_0 a0_1 a0_2 false 0 0 t466 _ A20.out).mono ?_); rintro e w31 ⟨rfl, hb⟩; refine ⟨_, rfl, ?_⟩; replace BK458 := Aside0.mk (blk_below (g := gb458) (o := .cells #[.bool a0_0, .int .u64 a0_1, .int .u64 a0_2] 24 (0, 0)) (by (with_reducible repeat (first | refine blk_drewN ?_ _ | refine blk_drew ?_ | refine blk_alloc ?_ _)); exact BK458.out) hb); replace BK465 := Aside0.mk (blk_below (g := gb465) (o := .cells #[.bool t460, .int .u64 t461, .int .u64 t462] 24 (0, 0)) (by (with_reducible repeat (first | refine blk_drewN ?_ _ | refine blk_drew ?_ | refine blk_alloc ?_ _)); exact BK465.out) hb); replace HB := Aside0.mk (below_step (by repeat (first | (with_reducible first | exact HB.out | apply below_alloc | apply pw_below_drewN | apply below_drew1 | refine below_set ?_ GE458.out | refine below_set ?_ GE465.out) | exact HB.out)) hb); (try clear hb); (try clear hb2); (try clear hk); (try clear hi); have hcz32_0 : w31.cell? ⟨gb465, 0, none⟩ = some (.bool t460) := (blk_cell BK465.out 0).trans rfl; have hcz32_1 : w31.cell? ⟨gb465, 1, none⟩ = some (.int .u64 t461) := (blk_cell BK465.out 1).trans rfl; have hcz32_2 : w31.cell? ⟨gb465, 2, none⟩ = some (.int .u64 t462) := (blk_cell BK465.out 2).trans rfl; have hfz32_0 := blk_frozen BK465.out 0; have hfz32_1 := blk_frozen BK465.out 1; have hfz32_2 := blk_frozen BK465.out 2) | ((with_reducible refine gate_callee (f := 18) rfl ?_); refine goesL_ (some 59) rfl rfl Try.func18 (by kernel_rfl) rfl #[.agg #[.bool t460, .int .u64 t461, .int .u64 t462], .int .u64 a1] rfl (by (try simp only [List.map_toArray, List.map_cons, List.map_nil]); first | done | rfl | (simp only [List.length_drop, List.length_take]; rfl)) ?_; (with_reducible refine (big_ScaleS.calls t460 t461 t462 a1 t467 t468 t469 t470 _ A22.out).mono ?_); rintro e w33 ⟨rfl, hb⟩; refine ⟨_, rfl, ?_⟩; replace BK458 := Aside0.mk (blk_below (g := gb458) (o := .cells #[.bool a0_0, .int .u64 a0_1, .int .u64 a0_2] 24 (0, 0)) (by (with_reducible repeat (first | refine blk_drewN ?_ _ | refine blk_drew ?_ | refine blk_alloc ?_ _)); exact BK458.out) hb); replace BK465 := Aside0.mk (blk_below (g := gb465) (o := .cells #[.bool t460, .int .u64 t461, .int .u64 t462] 24 (0, 0)) (by (with_reducible repeat (first | refine blk_drewN ?_ _ | refine blk_drew ?_ | refine blk_alloc ?_ _)); exact BK465.out) hb); replace HB := Aside0.mk (below_step (by repeat (first | (with_reducible first | exact HB.out | apply below_alloc | apply pw_below_drewN | apply below_drew1 | refine below_set ?_ GE458.out | refine below_set ?_ GE465.out) | exact HB.out)) hb); (try clear hb); (try clear hb2); (try clear hk); (try clear hi)) | ((with_reducible refine gate_dst (N := 9) rfl ?_); refine box_event ?hg (N := 9) ?hd (cs := #[.bool false, .int .u64 0, .int .u64 0]) (t := 24) ?hr ?_; (case hd => rfl); (case hg => rfl); (case hr => first | (go_simp; done) | (go_simp; rfl)); intro gb471 hg w34 hbox hb; have BK471 := Aside0.mk (hbox); have GW471 := Aside0.mk ((by rw [hg]; exact (below_size (by repeat (first | (with_reducible first | exact HB.out | apply below_alloc | apply pw_below_drewN | apply below_drew1 | refine below_set ?_ GE458.out | refine below_set ?_ GE465.out) | exact HB.out))) : w.heap.size ≤ gb471)); have GE471 := Aside0.mk ((by rw [hg]; exact (below_size (by repeat (first | (with_reducible first | exact HB.out | apply below_alloc | apply pw_below_drewN | apply below_drew1 | refine below_set ?_ GE458.out | refine below_set ?_ GE465.out) | exact HB.out))) : w.heap.size ≤ gb471)); have NB458_471 := Aside0.mk ((by rw [hg]; exact Nat.ne_of_lt (blk_lt (g := gb458) (o := .cells #[.bool a0_0, .int .u64 a0_1, .int .u64 a0_2] 24 (0, 0)) (by (with_reducible repeat (first | refine blk_drewN ?_ _ | refine blk_drew ?_ | refine blk_alloc ?_ _)); exact BK458.out)) : gb458 ≠ gb471)); have NB471_458 := Aside0.mk ((by rw [hg]; exact Nat.ne_of_gt (blk_lt (g := gb458) (o := .cells #[.bool a0_0, .int .u64 a0_1, .int .u64 a0_2] 24 (0, 0)) (by (with_reducible repeat (first | refine blk_drewN ?_ _ | refine blk_drew ?_ | refine blk_alloc ?_ _)); exact BK458.out)) : gb471 ≠ gb458)); have NB465_471 := Aside0.mk ((by rw [hg]; exact Nat.ne_of_lt (blk_lt (g := gb465) (o := .cells #[.bool t460, .int .u64 t461, .int .u64 t462] 24 (0, 0)) (by (with_reducible repeat (first | refine blk_drewN ?_ _ | refine blk_drew ?_ | refine blk_alloc ?_ _)); exact BK465.out)) : gb465 ≠ gb471)); have NB471_465 := Aside0.mk ((by rw [hg]; exact Nat.ne_of_gt (blk_lt (g := gb465) (o := .cells #[.bool t460, .int .u64 t461, .int .u64 t462] 24 (0, 0)) (by (with_reducible repeat (first | refine blk_drewN ?_ _ | refine blk_drew ?_ | refine blk_alloc ?_ _)); exact BK465.out)) : gb471 ≠ gb465)); replace BK458 := Aside0.mk (blk_below (g := gb458) (o := .cells #[.bool a0_0, .int .u64 a0_1, .int .u64 a0_2] 24 (0, 0)) (by (with_reducible repeat (first | refine blk_drewN ?_ _ | refine blk_drew ?_ | refine blk_alloc ?_ _)); exact BK458.out) hb); replace BK465 := Aside0.mk (blk_below (g := gb465) (o := .cells #[.bool t460, .int .u64 t461, .int .u64 t462] 24 (0, 0)) (by (with_reducible repeat (first | refine blk_drewN ?_ _ | refine blk_drew ?_ | refine blk_alloc ?_ _)); exact BK465.out) hb); replace HB := Aside0.mk (below_step (by repeat (first | (with_reducible first | exact HB.out | apply below_alloc | apply pw_below_drewN | apply below_drew1 | refine below_set ?_ GE458.out | refine below_set ?_ GE465.out) | exact HB.out)) hb); clear hb hbox hg; have hnb35 := NB471_458.out; have hnc35 := NB458_471.out; have hnb36 := NB471_465.out; have hnc36 := NB465_471.out; have hcz37_0 : w34.cell? ⟨gb471, 0, none⟩ = some (.bool false) := (blk_cell BK471.out 0).trans rfl; have hcz37_1 : w34.cell? ⟨gb471, 1, none⟩ = some (.int .u64 0) := (blk_cell BK471.out 1).trans rfl; have hcz37_2 : w34.cell? ⟨gb471, 2, none⟩ = some (.int .u64 0) := (blk_cell BK471.out 2).trans rfl; have hfz37_0 := blk_frozen BK471.out 0; have hfz37_1 := blk_frozen BK471.out 1; have hfz37_2 := blk_frozen BK471.out 2) | ((with_reducible refine gate_callee (f := 16) rfl ?_); refine goesL_ (some 66) rfl rfl Try.func16 (by kernel_rfl) rfl #[.agg #[.bool t467, .int .u64 t468, .int .u64 t469], .agg #[.bool false, .int .u64 0, .int .u64 t463]] rfl (by (try simp only [List.map_toArray, List.map_cons, List.map_nil]); first | done | rfl | (simp only [List.length_drop, List.length_take]; rfl)) ?_; (with_reducible refine (big_AddS.calls t467 t468 t469 false 0 t463 t472 t473 t474 t475 _ A23.out).mono ?_); rintro e w38 ⟨rfl, hb⟩; refine ⟨_, rfl, ?_⟩; replace BK458 := Aside0.mk (blk_below (g := gb458) (o := .cells #[.bool a0_0, .int .u64 a0_1, .int .u64 a0_2] 24 (0, 0)) (by (with_reducible repeat (first | refine blk_drewN ?_ _ | refine blk_drew ?_ | refine blk_alloc ?_ _)); refine blk_far ?_ NB458_471.out _; (with_reducible repeat (first | refine blk_drewN ?_ _ | refine blk_drew ?_ | refine blk_alloc ?_ _)); refine blk_far ?_ NB458_471.out _; (with_reducible repeat (first | refine blk_drewN ?_ _ | refine blk_drew ?_ | refine blk_alloc ?_ _)); refine blk_far ?_ NB458_471.out _; (with_reducible repeat (first | refine blk_drewN ?_ _ | refine blk_drew ?_ | refine blk_alloc ?_ _)); exact BK458.out) hb); replace BK465 := Aside0.mk (blk_below (g := gb465) (o := .cells #[.bool t460, .int .u64 t461, .int .u64 t462] 24 (0, 0)) (by (with_reducible repeat (first | refine blk_drewN ?_ _ | refine blk_drew ?_ | refine blk_alloc ?_ _)); refine blk_far ?_ NB465_471.out _; (with_reducible repeat (first | refine blk_drewN ?_ _ | refine blk_drew ?_ | refine blk_alloc ?_ _)); refine blk_far ?_ NB465_471.out _; (with_reducible repeat (first | refine blk_drewN ?_ _ | refine blk_drew ?_ | refine blk_alloc ?_ _)); refine blk_far ?_ NB465_471.out _; (with_reducible repeat (first | refine blk_drewN ?_ _ | refine blk_drew ?_ | refine blk_alloc ?_ _)); exact BK465.out) hb); replace BK471 := Aside0.mk (blk_below (g := gb471) (o := .cells #[.bool t467, .int .u64 t468, .int .u64 t469] 24 (0, 0)) (by (with_reducible repeat (first | refine blk_drewN ?_ _ | refine blk_drew ?_ | refine blk_alloc ?_ _)); refine blk_put (cs := #[.bool t467, .int .u64 t468, .int .u64 0]) ?_ 2 _ rfl; (with_reducible repeat (first | refine blk_drewN ?_ _ | refine blk_drew ?_ | refine blk_alloc ?_ _)); refine blk_put (cs := #[.bool t467, .int .u64 0, .int .u64 0]) ?_ 1 _ rfl; (with_reducible repeat (first | refine blk_drewN ?_ _ | refine blk_drew ?_ | refine blk_alloc ?_ _)); refine blk_put (cs := #[.bool false, .int .u64 0, .int .u64 0]) ?_ 0 _ rfl; (with_reducible repeat (first | refine blk_drewN ?_ _ | refine blk_drew ?_ | refine blk_alloc ?_ _)); exact BK471.out) hb); replace HB := Aside0.mk (below_step (by repeat (first | (with_reducible first | exact HB.out | apply below_alloc | apply pw_below_drewN | apply below_drew1 | refine below_set ?_ GE458.out | refine below_set ?_ GE465.out | refine below_set ?_ GE471.out) | exact HB.out)) hb); (try clear hb); (try clear hb2); (try clear hk); (try clear hi)) | ((with_reducible refine gate_dst (N := 11) rfl ?_); refine box_event ?hg (N := 11) ?hd (cs := #[.bool false, .int .u64 0, .int .u64 0]) (t := 24) ?hr ?_; (case hd => rfl); (case hg => rfl); (case hr => first | (go_simp; done) | (go_simp; rfl)); intro gb476 hg w39 hbox hb; have BK476 := Aside0.mk (hbox); have GW476 := Aside0.mk ((by rw [hg]; exact (below_size (by repeat (first | (with_reducible first | exact HB.out | apply below_alloc | apply pw_below_drewN | apply below_drew1 | refine below_set ?_ GE458.out | refine below_set ?_ GE465.out | refine below_set ?_ GE471.out) | exact HB.out))) : w.heap.size ≤ gb476)); have GE476 := Aside0.mk ((by rw [hg]; exact (below_size (by repeat (first | (with_reducible first | exact HB.out | apply below_alloc | apply pw_below_drewN | apply below_drew1 | refine below_set ?_ GE458.out | refine below_set ?_ GE465.out | refine below_set ?_ GE471.out) | exact HB.out))) : w.heap.size ≤ gb476)); have NB458_476 := Aside0.mk ((by rw [hg]; exact Nat.ne_of_lt (blk_lt (g := gb458) (o := .cells #[.bool a0_0, .int .u64 a0_1, .int .u64 a0_2] 24 (0, 0)) (by (with_reducible repeat (first | refine blk_drewN ?_ _ | refine blk_drew ?_ | refine blk_alloc ?_ _)); exact BK458.out)) : gb458 ≠ gb476)); have NB476_458 := Aside0.mk ((by rw [hg]; exact Nat.ne_of_gt (blk_lt (g := gb458) (o := .cells #[.bool a0_0, .int .u64 a0_1, .int .u64 a0_2] 24 (0, 0)) (by (with_reducible repeat (first | refine blk_drewN ?_ _ | refine blk_drew ?_ | refine blk_alloc ?_ _)); exact BK458.out)) : gb476 ≠ gb458)); have NB465_476 := Aside0.mk ((by rw [hg]; exact Nat.ne_of_lt (blk_lt (g := gb465) (o := .cells #[.bool t460, .int .u64 t461, .int .u64 t462] 24 (0, 0)) (by (with_reducible repeat (first | refine blk_drewN ?_ _ | refine blk_drew ?_ | refine blk_alloc ?_ _)); exact BK465.out)) : gb465 ≠ gb476)); have NB476_465 := Aside0.mk ((by rw [hg]; exact Nat.ne_of_gt (blk_lt (g := gb465) (o := .cells #[.bool t460, .int .u64 t461, .int .u64 t462] 24 (0, 0)) (by (with_reducible repeat (first | refine blk_drewN ?_ _ | refine blk_drew ?_ | refine blk_alloc ?_ _)); exact BK465.out)) : gb476 ≠ gb465)); have NB471_476 := Aside0.mk ((by rw [hg]; exact Nat.ne_of_lt (blk_lt (g := gb471) (o := .cells #[.bool t467, .int .u64 t468, .int .u64 t469] 24 (0, 0)) (by (with_reducible repeat (first | refine blk_drewN ?_ _ | refine blk_drew ?_ | refine blk_alloc ?_ _)); exact BK471.out)) : gb471 ≠ gb476)); have NB476_471 := Aside0.mk ((by rw [hg]; exact Nat.ne_of_gt (blk_lt (g := gb471) (o := .cells #[.bool t467, .int .u64 t468, .int .u64 t469] 24 (0, 0)) (by (with_reducible repeat (first | refine blk_drewN ?_ _ | refine blk_drew ?_ | refine blk_alloc ?_ _)); exact BK471.out)) : gb476 ≠ gb471)); replace BK458 := Aside0.mk (blk_below (g := gb458) (o := .cells #[.bool a0_0, .int .u64 a0_1, .int .u64 a0_2] 24 (0, 0)) (by (with_reducible repeat (first | refine blk_drewN ?_ _ | refine blk_drew ?_ | refine blk_alloc ?_ _)); exact BK458.out) hb); replace BK465 := Aside0.mk (blk_below (g := gb465) (o := .cells #[.bool t460, .int .u64 t461, .int .u64 t462] 24 (0, 0)) (by (with_reducible repeat (first | refine blk_drewN ?_ _ | refine blk_drew ?_ | refine blk_alloc ?_ _)); exact BK465.out) hb); replace BK471 := Aside0.mk (blk_below (g := gb471) (o := .cells #[.bool t467, .int .u64 t468, .int .u64 t469] 24 (0, 0)) (by (with_reducible repeat (first | refine blk_drewN ?_ _ | refine blk_drew ?_ | refine blk_alloc ?_ _)); exact BK471.out) hb); replace HB := Aside0.mk (below_step (by repeat (first | (with_reducible first | exact HB.out | apply below_alloc | apply pw_below_drewN | apply below_drew1 | refine below_set ?_ GE458.out | refine below_set ?_ GE465.out | refine below_set ?_ GE471.out) | exact HB.out)) hb); clear hb hbox hg; have hnb40 := NB476_458.out; have hnc40 := NB458_476.out; have hnb41 := NB476_465.out; have hnc41 := NB465_476.out; have hnb42 := NB476_471.out; have hnc42 := NB471_476.out; have hcz43_0 : w39.cell? ⟨gb476, 0, none⟩ = some (.bool false) := (blk_cell BK476.out 0).trans rfl; have hcz43_1 : w39.cell? ⟨gb476, 1, none⟩ = some (.int .u64 0) := (blk_cell BK476.out 1).trans rfl; have hcz43_2 : w39.cell? ⟨gb476, 2, none⟩ = some (.int .u64 0) := (blk_cell BK476.out 2).trans rfl; have hfz43_0 := blk_frozen BK476.out 0; have hfz43_1 := blk_frozen BK476.out 1; have hfz43_2 := blk_frozen BK476.out 2; have hcz44_0 : w39.cell? ⟨gb458, 0, none⟩ = some (.bool a0_0) := (blk_cell BK458.out 0).trans rfl; have hcz44_1 : w39.cell? ⟨gb458, 1, none⟩ = some (.int .u64 a0_1) := (blk_cell BK458.out 1).trans rfl; have hcz44_2 : w39.cell? ⟨gb458, 2, none⟩ = some (.int .u64 a0_2) := (blk_cell BK458.out 2).trans rfl; have hfz44_0 := blk_frozen BK458.out 0; have hfz44_1 := blk_frozen BK458.out 1; have hfz44_2 := blk_frozen BK458.out 2) | (go_at_call 28; (with_reducible refine (big_CmpS.calls t472 t473 t474 a0_0 a0_1 a0_2 t477 _ A28.out).mono ?_); rintro e w45 ⟨rfl, hb⟩; replace BK458 := Aside0.mk (blk_below (g := gb458) (o := .cells #[.bool a0_0, .int .u64 a0_1, .int .u64 a0_2] 24 (0, 0)) (by (with_reducible repeat (first | refine blk_drewN ?_ _ | refine blk_drew ?_ | refine blk_alloc ?_ _)); refine blk_far ?_ NB458_476.out _; (with_reducible repeat (first | refine blk_drewN ?_ _ | refine blk_drew ?_ | refine blk_alloc ?_ _)); refine blk_far ?_ NB458_476.out _; (with_reducible repeat (first | refine blk_drewN ?_ _ | refine blk_drew ?_ | refine blk_alloc ?_ _)); refine blk_far ?_ NB458_476.out _; (with_reducible repeat (first | refine blk_drewN ?_ _ | refine blk_drew ?_ | refine blk_alloc ?_ _)); exact BK458.out) hb); replace BK465 := Aside0.mk (blk_below (g := gb465) (o := .cells #[.bool t460, .int .u64 t461, .int .u64 t462] 24 (0, 0)) (by (with_reducible repeat (first | refine blk_drewN ?_ _ | refine blk_drew ?_ | refine blk_alloc ?_ _)); refine blk_far ?_ NB465_476.out _; (with_reducible repeat (first | refine blk_drewN ?_ _ | refine blk_drew ?_ | refine blk_alloc ?_ _)); refine blk_far ?_ NB465_476.out _; (with_reducible repeat (first | refine blk_drewN ?_ _ | refine blk_drew ?_ | refine blk_alloc ?_ _)); refine blk_far ?_ NB465_476.out _; (with_reducible repeat (first | refine blk_drewN ?_ _ | refine blk_drew ?_ | refine blk_alloc ?_ _)); exact BK465.out) hb); replace BK471 := Aside0.mk (blk_below (g := gb471) (o := .cells #[.bool t467, .int .u64 t468, .int .u64 t469] 24 (0, 0)) (by (with_reducible repeat (first | refine blk_drewN ?_ _ | refine blk_drew ?_ | refine blk_alloc ?_ _)); refine blk_far ?_ NB471_476.out _; (with_reducible repeat (first | refine blk_drewN ?_ _ | refine blk_drew ?_ | refine blk_alloc ?_ _)); refine blk_far ?_ NB471_476.out _; (with_reducible repeat (first | refine blk_drewN ?_ _ | refine blk_drew ?_ | refine blk_alloc ?_ _)); refine blk_far ?_ NB471_476.out _; (with_reducible repeat (first | refine blk_drewN ?_ _ | refine blk_drew ?_ | refine blk_alloc ?_ _)); exact BK471.out) hb); replace BK476 := Aside0.mk (blk_below (g := gb476) (o := .cells #[.bool t472, .int .u64 t473, .int .u64 t474] 24 (0, 0)) (by (with_reducible repeat (first | refine blk_drewN ?_ _ | refine blk_drew ?_ | refine blk_alloc ?_ _)); refine blk_put (cs := #[.bool t472, .int .u64 t473, .int .u64 0]) ?_ 2 _ rfl; (with_reducible repeat (first | refine blk_drewN ?_ _ | refine blk_drew ?_ | refine blk_alloc ?_ _)); refine blk_put (cs := #[.bool t472, .int .u64 0, .int .u64 0]) ?_ 1 _ rfl; (with_reducible repeat (first | refine blk_drewN ?_ _ | refine blk_drew ?_ | refine blk_alloc ?_ _)); refine blk_put (cs := #[.bool false, .int .u64 0, .int .u64 0]) ?_ 0 _ rfl; (with_reducible repeat (first | refine blk_drewN ?_ _ | refine blk_drew ?_ | refine blk_alloc ?_ _)); exact BK476.out) hb); replace HB := Aside0.mk (below_step (by repeat (first | (with_reducible first | exact HB.out | apply below_alloc | apply pw_below_drewN | apply below_drew1 | refine below_set ?_ GE458.out | refine below_set ?_ GE465.out | refine below_set ?_ GE471.out | refine below_set ?_ GE476.out) | exact HB.out)) hb); (try clear hb); (try clear hb2); (try clear hk); (try clear hi)))
         go_ret
         exact ⟨by first | rfl | (simp [errW_none, errW_some] <;> rfl) | (simp [*, errW_none, errW_some] <;> rfl), by repeat (first | (with_reducible first | exact HB.out | apply below_alloc | apply pw_below_drewN | apply below_drew1 | refine below_set ?_ GE458.out | refine below_set ?_ GE465.out | refine below_set ?_ GE471.out | refine below_set ?_ GE476.out) | exact HB.out)⟩
        ·rw [if_neg c27] at H
         exact absurd H (by simp)
       ·rw [if_neg c26] at H
        exact absurd H (by simp)
      ·rw [if_neg c25] at H
       exact absurd H (by simp)
     ·replace c24 := Bool.eq_false_iff.mpr c24
      subst c24
      have H1 : (none) = some r := by rw [if_neg (show ¬ (false = true) by decide)] at H; exact H
      clear H
      have H := H1
      clear H1
      exact absurd H (by simp)
    ·rw [if_neg c21] at H
     have c21b0 : decide (0 ≤ t466) = false := decide_eq_false c21
     clear c21
     replace H := Option.bind_eq_some_iff.mp H
     obtain ⟨⟨t478, t479, t480⟩, A460, H⟩ := H
     try dsimp only at H
     have A46 := Aside0.mk A460
     clear A460
     replace H := Option.bind_eq_some_iff.mp H
     obtain ⟨⟨t481, t482, t483, t484⟩, A470, H⟩ := H
     try dsimp only at H
     have A47 := Aside0.mk A470
     clear A470
     replace H := Option.bind_eq_some_iff.mp H
     obtain ⟨⟨t486, t487, t488, t489⟩, A480, H⟩ := H
     try dsimp only at H
     have A48 := Aside0.mk A480
     clear A480
     replace H := Option.bind_eq_some_iff.mp H
     obtain ⟨⟨t491, t492, t493, t494⟩, A490, H⟩ := H
     try dsimp only at H
     have A49 := Aside0.mk A490
     clear A490
     replace H := Option.bind_eq_some_iff.mp H
     obtain ⟨⟨t496, t497, t498, t499⟩, A500, H⟩ := H
     try dsimp only at H
     have A50 := Aside0.mk A500
     clear A500
     by_cases c51 : t459 = true
     ·subst c51
      have H1 : (if t463 < a1 then (if t484 = 0 then (if t489 = 0 then (if t494 = 0 then (if t499 = 0 then ((big_CmpS.f t496 t497 t498 a0_0 a0_1 a0_2).bind fun t501 => (some (t501 == 0))) else (none)) else (none)) else (none)) else (none)) else (none)) = some r := by rw [if_pos rfl] at H; exact H
      clear H
      have H := H1
      clear H1
      by_cases c52 : t463 < a1
      ·rw [if_pos c52] at H
       have c52b0 : decide (t463 < a1) = true := decide_eq_true c52
       clear c52
       by_cases c53 : t484 = 0
       ·rw [if_pos c53] at H
        have c53b0 : (t484 == 0) = true := beq_iff_eq.mpr c53
        have c53b1 : (t484 != 0) = false := bne_eq_false_iff_eq.mpr c53
        clear c53
        by_cases c54 : t489 = 0
        ·rw [if_pos c54] at H
         have c54b0 : (t489 == 0) = true := beq_iff_eq.mpr c54
         have c54b1 : (t489 != 0) = false := bne_eq_false_iff_eq.mpr c54
         clear c54
         by_cases c55 : t494 = 0
         ·rw [if_pos c55] at H
          have c55b0 : (t494 == 0) = true := beq_iff_eq.mpr c55
          have c55b1 : (t494 != 0) = false := bne_eq_false_iff_eq.mpr c55
          clear c55
          by_cases c56 : t499 = 0
          ·rw [if_pos c56] at H
           have c56b0 : (t499 == 0) = true := beq_iff_eq.mpr c56
           have c56b1 : (t499 != 0) = false := bne_eq_false_iff_eq.mpr c56
           clear c56
           replace H := Option.bind_eq_some_iff.mp H
           obtain ⟨t501, A570, H⟩ := H
           replace H : (some (t501 == 0)) = some r := H
           have A57 := Aside0.mk A570
           clear A570
           obtain rfl := Option.some.inj H
           have hnb58 := NB458_465.out
           have hnc58 := NB465_458.out
           have hcz59_0 : wc.cell? ⟨gb458, 0, none⟩ = some (.bool a0_0) := (blk_cell BK458.out 0).trans rfl
           have hcz59_1 : wc.cell? ⟨gb458, 1, none⟩ = some (.int .u64 a0_1) := (blk_cell BK458.out 1).trans rfl
           have hcz59_2 : wc.cell? ⟨gb458, 2, none⟩ = some (.int .u64 a0_2) := (blk_cell BK458.out 2).trans rfl
           have hfz59_0 := blk_frozen BK458.out 0
           have hfz59_1 := blk_frozen BK458.out 1
           have hfz59_2 := blk_frozen BK458.out 2
           try go_wp2_with (first | ((with_reducible refine gate_callee (f := 28) rfl ?_); refine goesL_ (some 54) rfl rfl Try.func28 (by kernel_rfl) rfl #[.agg #[.bool a0_0, .int .u64 a0_1, .int .u64 a0_2], .agg #[.bool false, .int .u64 0, .int .u64 0]] rfl (by (try simp only [List.map_toArray, List.map_cons, List.map_nil]); first | done | rfl | (simp only [List.length_drop, List.length_take]; rfl)) ?_; (with_reducible refine (big_CmpS.calls a0_0 a0_1 a0_2 false 0 0 t466 _ A20.out).mono ?_); rintro e w60 ⟨rfl, hb⟩; refine ⟨_, rfl, ?_⟩; replace BK458 := Aside0.mk (blk_below (g := gb458) (o := .cells #[.bool a0_0, .int .u64 a0_1, .int .u64 a0_2] 24 (0, 0)) (by (with_reducible repeat (first | refine blk_drewN ?_ _ | refine blk_drew ?_ | refine blk_alloc ?_ _)); exact BK458.out) hb); replace BK465 := Aside0.mk (blk_below (g := gb465) (o := .cells #[.bool t460, .int .u64 t461, .int .u64 t462] 24 (0, 0)) (by (with_reducible repeat (first | refine blk_drewN ?_ _ | refine blk_drew ?_ | refine blk_alloc ?_ _)); exact BK465.out) hb); replace HB := Aside0.mk (below_step (by repeat (first | (with_reducible first | exact HB.out | apply below_alloc | apply pw_below_drewN | apply below_drew1 | refine below_set ?_ GE458.out | refine below_set ?_ GE465.out) | exact HB.out)) hb); (try clear hb); (try clear hb2); (try clear hk); (try clear hi)))
           replace BK458 := Aside0.mk (blk_drew BK458.out)
           replace BK465 := Aside0.mk (blk_drew BK465.out)
           replace HB := Aside0.mk (below_drew1 HB.out)
           refine start_ (n := 9) (S := fun w' => w'.cell? ⟨gb465, 0, none⟩ = some (.bool t460) ∧ w'.cell? ⟨gb465, 1, none⟩ = some (.int .u64 t461) ∧ w'.cell? ⟨gb465, 2, none⟩ = some (.int .u64 t462)) (ds := []) #[N,N,N,N,N,N,N,N,N] (by kernel_rfl) rfl rfl ⟨(blk_cell BK465.out 0).trans rfl, (blk_cell BK465.out 1).trans rfl, (blk_cell BK465.out 2).trans rfl⟩ (fun hHeld => ?_); refine with_tabW sawtoothlaw02_BigDivides.tab9 sawtoothlaw02_BigDivides.bits9 (fun HT_ HW_ => ?_)
           generalize w60.drew = w61 at BK458 BK465 HB hHeld ⊢
           refine take_ (i := 0) (N := some 90) (v := ?_) (a' := ?_) #[Y,N,N,N,N,N,N,N,N] rfl rfl (take_ofW HT_.out HW_.out (by kernel_rfl)) (fun _ _ _ h => h) (Or.inl ⟨by rfl, ?_⟩) hHeld ?_ ?_
           rotate_left
           ·rintro w' ⟨s0, s1, s2⟩
            go_simp
            with_reducible rfl
           rotate_left
           ·simp only [Act.put, List.setIfInBounds_toArray, List.set_cons_zero, List.set_cons_succ, i64_w, i32_w]
            rfl
           refine join_ (σ := Nat) 2 #[Y,Y,Y,Y,Y,Y,Y,N,N] (fun s_ => [(91, .agg #[.bool t478, .int .u64 t479, .int .u64 t480]), (92, .tuple #[.agg #[.bool t481, .int .u64 t482, .int .u64 t483], .int .i64 t484]), (13, .pointer (some ⟨s_, 0, none⟩)), (89, .tuple #[.agg #[.bool t481, .int .u64 t482, .int .u64 t483], .int .i64 t484]), (93, .agg #[.bool t481, .int .u64 t482, .int .u64 t483]), (94, .int .i64 t484)]) (fun s_ w' => (w'.cell? ⟨gb465, 0, none⟩ = some (.bool t460) ∧ w'.cell? ⟨gb465, 1, none⟩ = some (.int .u64 t461) ∧ w'.cell? ⟨gb465, 2, none⟩ = some (.int .u64 t462)) ∧ (w'.heap[gb458]? = some (.cells #[.bool a0_0, .int .u64 a0_1, .int .u64 a0_2] 24 (0, 0))) ∧ (w'.heap[gb465]? = some (.cells #[.bool t460, .int .u64 t461, .int .u64 t462] 24 (0, 0))) ∧ (w'.heap[s_]? = some (.cells #[.bool false, .int .u64 0, .int .u64 0] 24 (0, 0))) ∧ (w.heap.size ≤ s_) ∧ (w.heap.size ≤ s_) ∧ (gb458 ≠ s_) ∧ (s_ ≠ gb458) ∧ (gb465 ≠ s_) ∧ (s_ ≠ gb465) ∧ (Below w.heap.size w w')) ?_ ?_
           rotate_left
           ·intro hCont
            refine two_ (i := 1) (j := 6) (Ni := some 91) (Nj := some 13) #[Y,Y,N,N,N,N,N,N,N] #[Y,N,N,N,N,N,Y,N,N] rfl rfl rfl rfl (two_of HT_.out (by kernel_rfl)) (by decide) (by decide) (fun K hK => ?_) (fun K hK => ?_)
            ·skip
             refine goes_ Try.func22 (by kernel_rfl) rfl #[.int .i64 1] (by rfl) rfl rfl (by (try simp only [List.map_toArray, List.map_cons, List.map_nil]); first | done | rfl | (simp only [List.length_drop, List.length_take]; rfl)) ?_
             with_reducible refine (big_OfS.calls 1 t478 t479 t480 _ A46.out).mono ?_
             rintro e w62 ⟨rfl, hb⟩
             refine ⟨_, rfl, ?_⟩
             replace BK458 := Aside0.mk (blk_below BK458.out hb)
             replace BK465 := Aside0.mk (blk_below BK465.out hb)
             replace HB := Aside0.mk (below_step HB.out hb)
             (try clear hb)
             (try clear hb2)
             (try clear hk)
             (try clear hi)
             refine hK.out _ _ ⟨(blk_cell BK465.out 0).trans rfl, (blk_cell BK465.out 1).trans rfl, (blk_cell BK465.out 2).trans rfl⟩ (fun hHeld => ?_)
             clear hK K
             refine norm_ (a' := ?_) ?_ ?_
             rotate_left
             ·show Act.put _ (some 91) _ = _
              simp only [Act.put, List.setIfInBounds_toArray, List.set_cons_zero, List.set_cons_succ, i64_w, i32_w]
              rfl
             refine two_ (i := 2) (j := 6) (Ni := some 92) (Nj := some 13) #[Y,Y,Y,N,N,N,N,N,N] #[Y,Y,N,N,N,N,Y,N,N] rfl rfl rfl rfl (two_of HT_.out (by kernel_rfl)) (by decide) (by decide) (fun K hK => ?_) (fun K hK => ?_)
             ·skip
              refine goes_ Try.func16 (by kernel_rfl) rfl #[.agg #[.bool t460, .int .u64 t461, .int .u64 t462], .agg #[.bool t478, .int .u64 t479, .int .u64 t480]] (by rfl) rfl rfl (by (try simp only [List.map_toArray, List.map_cons, List.map_nil]); first | done | rfl | (simp only [List.length_drop, List.length_take]; rfl)) ?_
              with_reducible refine (big_AddS.calls t460 t461 t462 t478 t479 t480 t481 t482 t483 t484 _ A47.out).mono ?_
              rintro e w63 ⟨rfl, hb⟩
              refine ⟨_, rfl, ?_⟩
              replace BK458 := Aside0.mk (blk_below BK458.out hb)
              replace BK465 := Aside0.mk (blk_below BK465.out hb)
              replace HB := Aside0.mk (below_step HB.out hb)
              (try clear hb)
              (try clear hb2)
              (try clear hk)
              (try clear hi)
              refine hK.out _ _ ⟨(blk_cell BK465.out 0).trans rfl, (blk_cell BK465.out 1).trans rfl, (blk_cell BK465.out 2).trans rfl⟩ (fun hHeld => ?_)
              clear hK K
              refine norm_ (a' := ?_) ?_ ?_
              rotate_left
              ·show Act.put _ (some 92) _ = _
               simp only [Act.put, List.setIfInBounds_toArray, List.set_cons_zero, List.set_cons_succ, i64_w, i32_w]
               rfl
              refine pure_ (i := 3) (N := some 89) (v := ?_) (a' := ?_) #[Y,Y,Y,Y,N,N,N,N,N] rfl rfl (any_of HT_.out (by kernel_rfl)) (fun _ _ _ h => h) (Or.inl ⟨by rfl, ?_⟩) ?_ ?_
              rotate_left
              ·intro w'
               go_simp
               with_reducible rfl
              rotate_left
              ·simp only [Act.put, List.setIfInBounds_toArray, List.set_cons_zero, List.set_cons_succ, i64_w, i32_w]
               rfl
              refine pure_ (i := 4) (N := some 93) (v := ?_) (a' := ?_) #[Y,Y,Y,Y,Y,N,N,N,N] rfl rfl (any_of HT_.out (by kernel_rfl)) (fun _ _ _ h => h) (Or.inl ⟨by rfl, ?_⟩) ?_ ?_
              rotate_left
              ·intro w'
               go_simp
               with_reducible rfl
              rotate_left
              ·simp only [Act.put, List.setIfInBounds_toArray, List.set_cons_zero, List.set_cons_succ, i64_w, i32_w]
               rfl
              refine pure_ (i := 5) (N := some 94) (v := ?_) (a' := ?_) #[Y,Y,Y,Y,Y,Y,N,N,N] rfl rfl (any_of HT_.out (by kernel_rfl)) (fun _ _ _ h => h) (Or.inl ⟨by rfl, ?_⟩) ?_ ?_
              rotate_left
              ·intro w'
               go_simp
               with_reducible rfl
              rotate_left
              ·simp only [Act.put, List.setIfInBounds_toArray, List.set_cons_zero, List.set_cons_succ, i64_w, i32_w]
               rfl
              refine one_ (i := 6) (N := some 13) #[Y,Y,Y,Y,Y,Y,Y,N,N] rfl rfl (one_of HT_.out (by kernel_rfl)) (by decide) (fun K hK => ?_)
              refine box_step ?hg (N := 13) ?hd (cs := #[.bool false, .int .u64 0, .int .u64 0]) (t := 24) ?hr ?_; (case hd => rfl); (case hg => rfl); (case hr => first | (go_simp; done) | (go_simp; rfl))
              intro gb485 hg w64 hbox hb
              have BK485 := Aside0.mk (hbox)
              have GW485 := Aside0.mk ((by rw [hg]; exact below_size HB.out : w.heap.size ≤ gb485))
              have GE485 := Aside0.mk ((by rw [hg]; exact below_size HB.out : w.heap.size ≤ gb485))
              have NB458_485 := Aside0.mk ((by rw [hg]; exact Nat.ne_of_lt (blk_lt BK458.out) : gb458 ≠ gb485))
              have NB485_458 := Aside0.mk ((by rw [hg]; exact Nat.ne_of_gt (blk_lt BK458.out) : gb485 ≠ gb458))
              have NB465_485 := Aside0.mk ((by rw [hg]; exact Nat.ne_of_lt (blk_lt BK465.out) : gb465 ≠ gb485))
              have NB485_465 := Aside0.mk ((by rw [hg]; exact Nat.ne_of_gt (blk_lt BK465.out) : gb485 ≠ gb465))
              replace BK458 := Aside0.mk (blk_below BK458.out hb)
              replace BK465 := Aside0.mk (blk_below BK465.out hb)
              replace HB := Aside0.mk (below_step HB.out hb)
              clear hb hbox hg
              refine hK.out _ _ ⟨(blk_cell BK465.out 0).trans rfl, (blk_cell BK465.out 1).trans rfl, (blk_cell BK465.out 2).trans rfl⟩ (fun hHeld => ?_)
              clear hK K
              refine norm_ (a' := ?_) ?_ ?_
              rotate_left
              ·show Act.put _ (some 13) _ = _
               simp only [Act.put, List.setIfInBounds_toArray, List.set_cons_zero, List.set_cons_succ, i64_w, i32_w]
               rfl
              exact norm_ (by simp only [putAll, Act.put, List.setIfInBounds_toArray, List.set_cons_zero, List.set_cons_succ]) (hCont (gb485) _ ⟨hHeld, BK458.out, BK465.out, BK485.out, GW485.out, GE485.out, NB458_485.out, NB485_458.out, NB465_485.out, NB485_465.out, (by repeat (first | (with_reducible first | exact HB.out | apply below_alloc | apply pw_below_drewN | apply below_drew1 | refine below_set ?_ GE458.out | refine below_set ?_ GE465.out | refine below_set ?_ GE485.out) | exact HB.out))⟩)
             ·skip
              refine box_step ?hg (N := 13) ?hd (cs := #[.bool false, .int .u64 0, .int .u64 0]) (t := 24) ?hr ?_; (case hd => rfl); (case hg => rfl); (case hr => first | (go_simp; done) | (go_simp; rfl))
              intro gb485 hg w63 hbox hb
              have BK485 := Aside0.mk (hbox)
              have GW485 := Aside0.mk ((by rw [hg]; exact below_size HB.out : w.heap.size ≤ gb485))
              have GE485 := Aside0.mk ((by rw [hg]; exact below_size HB.out : w.heap.size ≤ gb485))
              have NB458_485 := Aside0.mk ((by rw [hg]; exact Nat.ne_of_lt (blk_lt BK458.out) : gb458 ≠ gb485))
              have NB485_458 := Aside0.mk ((by rw [hg]; exact Nat.ne_of_gt (blk_lt BK458.out) : gb485 ≠ gb458))
              have NB465_485 := Aside0.mk ((by rw [hg]; exact Nat.ne_of_lt (blk_lt BK465.out) : gb465 ≠ gb485))
              have NB485_465 := Aside0.mk ((by rw [hg]; exact Nat.ne_of_gt (blk_lt BK465.out) : gb485 ≠ gb465))
              replace BK458 := Aside0.mk (blk_below BK458.out hb)
              replace BK465 := Aside0.mk (blk_below BK465.out hb)
              replace HB := Aside0.mk (below_step HB.out hb)
              clear hb hbox hg
              refine hK.out _ _ ⟨(blk_cell BK465.out 0).trans rfl, (blk_cell BK465.out 1).trans rfl, (blk_cell BK465.out 2).trans rfl⟩ (fun hHeld => ?_)
              clear hK K
              refine norm_ (a' := ?_) ?_ ?_
              rotate_left
              ·show Act.put _ (some 13) _ = _
               simp only [Act.put, List.setIfInBounds_toArray, List.set_cons_zero, List.set_cons_succ, i64_w, i32_w]
               rfl
              refine one_ (i := 2) (N := some 92) #[Y,Y,Y,N,N,N,Y,N,N] rfl rfl (one_of HT_.out (by kernel_rfl)) (by decide) (fun K hK => ?_)
              refine goes_ Try.func16 (by kernel_rfl) rfl #[.agg #[.bool t460, .int .u64 t461, .int .u64 t462], .agg #[.bool t478, .int .u64 t479, .int .u64 t480]] (by rfl) rfl rfl (by (try simp only [List.map_toArray, List.map_cons, List.map_nil]); first | done | rfl | (simp only [List.length_drop, List.length_take]; rfl)) ?_
              with_reducible refine (big_AddS.calls t460 t461 t462 t478 t479 t480 t481 t482 t483 t484 _ A47.out).mono ?_
              rintro e w64 ⟨rfl, hb⟩
              refine ⟨_, rfl, ?_⟩
              replace BK458 := Aside0.mk (blk_below BK458.out hb)
              replace BK465 := Aside0.mk (blk_below BK465.out hb)
              replace BK485 := Aside0.mk (blk_below BK485.out hb)
              replace HB := Aside0.mk (below_step HB.out hb)
              (try clear hb)
              (try clear hb2)
              (try clear hk)
              (try clear hi)
              refine hK.out _ _ ⟨(blk_cell BK465.out 0).trans rfl, (blk_cell BK465.out 1).trans rfl, (blk_cell BK465.out 2).trans rfl⟩ (fun hHeld => ?_)
              clear hK K
              refine norm_ (a' := ?_) ?_ ?_
              rotate_left
              ·show Act.put _ (some 92) _ = _
               simp only [Act.put, List.setIfInBounds_toArray, List.set_cons_zero, List.set_cons_succ, i64_w, i32_w]
               rfl
              refine pure_ (i := 3) (N := some 89) (v := ?_) (a' := ?_) #[Y,Y,Y,Y,N,N,Y,N,N] rfl rfl (any_of HT_.out (by kernel_rfl)) (fun _ _ _ h => h) (Or.inl ⟨by rfl, ?_⟩) ?_ ?_
              rotate_left
              ·intro w'
               go_simp
               with_reducible rfl
              rotate_left
              ·simp only [Act.put, List.setIfInBounds_toArray, List.set_cons_zero, List.set_cons_succ, i64_w, i32_w]
               rfl
              refine pure_ (i := 4) (N := some 93) (v := ?_) (a' := ?_) #[Y,Y,Y,Y,Y,N,Y,N,N] rfl rfl (any_of HT_.out (by kernel_rfl)) (fun _ _ _ h => h) (Or.inl ⟨by rfl, ?_⟩) ?_ ?_
              rotate_left
              ·intro w'
               go_simp
               with_reducible rfl
              rotate_left
              ·simp only [Act.put, List.setIfInBounds_toArray, List.set_cons_zero, List.set_cons_succ, i64_w, i32_w]
               rfl
              refine pure_ (i := 5) (N := some 94) (v := ?_) (a' := ?_) #[Y,Y,Y,Y,Y,Y,Y,N,N] rfl rfl (any_of HT_.out (by kernel_rfl)) (fun _ _ _ h => h) (Or.inl ⟨by rfl, ?_⟩) ?_ ?_
              rotate_left
              ·intro w'
               go_simp
               with_reducible rfl
              rotate_left
              ·simp only [Act.put, List.setIfInBounds_toArray, List.set_cons_zero, List.set_cons_succ, i64_w, i32_w]
               rfl
              exact norm_ (by simp only [putAll, Act.put, List.setIfInBounds_toArray, List.set_cons_zero, List.set_cons_succ]) (hCont (gb485) _ ⟨hHeld, BK458.out, BK465.out, BK485.out, GW485.out, GE485.out, NB458_485.out, NB485_458.out, NB465_485.out, NB485_465.out, (by repeat (first | (with_reducible first | exact HB.out | apply below_alloc | apply pw_below_drewN | apply below_drew1 | refine below_set ?_ GE458.out | refine below_set ?_ GE465.out | refine below_set ?_ GE485.out) | exact HB.out))⟩)
            ·skip
             refine box_step ?hg (N := 13) ?hd (cs := #[.bool false, .int .u64 0, .int .u64 0]) (t := 24) ?hr ?_; (case hd => rfl); (case hg => rfl); (case hr => first | (go_simp; done) | (go_simp; rfl))
             intro gb485 hg w62 hbox hb
             have BK485 := Aside0.mk (hbox)
             have GW485 := Aside0.mk ((by rw [hg]; exact below_size HB.out : w.heap.size ≤ gb485))
             have GE485 := Aside0.mk ((by rw [hg]; exact below_size HB.out : w.heap.size ≤ gb485))
             have NB458_485 := Aside0.mk ((by rw [hg]; exact Nat.ne_of_lt (blk_lt BK458.out) : gb458 ≠ gb485))
             have NB485_458 := Aside0.mk ((by rw [hg]; exact Nat.ne_of_gt (blk_lt BK458.out) : gb485 ≠ gb458))
             have NB465_485 := Aside0.mk ((by rw [hg]; exact Nat.ne_of_lt (blk_lt BK465.out) : gb465 ≠ gb485))
             have NB485_465 := Aside0.mk ((by rw [hg]; exact Nat.ne_of_gt (blk_lt BK465.out) : gb485 ≠ gb465))
             replace BK458 := Aside0.mk (blk_below BK458.out hb)
             replace BK465 := Aside0.mk (blk_below BK465.out hb)
             replace HB := Aside0.mk (below_step HB.out hb)
             clear hb hbox hg
             refine hK.out _ _ ⟨(blk_cell BK465.out 0).trans rfl, (blk_cell BK465.out 1).trans rfl, (blk_cell BK465.out 2).trans rfl⟩ (fun hHeld => ?_)
             clear hK K
             refine norm_ (a' := ?_) ?_ ?_
             rotate_left
             ·show Act.put _ (some 13) _ = _
              simp only [Act.put, List.setIfInBounds_toArray, List.set_cons_zero, List.set_cons_succ, i64_w, i32_w]
              rfl
             refine one_ (i := 1) (N := some 91) #[Y,Y,N,N,N,N,Y,N,N] rfl rfl (one_of HT_.out (by kernel_rfl)) (by decide) (fun K hK => ?_)
             refine goes_ Try.func22 (by kernel_rfl) rfl #[.int .i64 1] (by rfl) rfl rfl (by (try simp only [List.map_toArray, List.map_cons, List.map_nil]); first | done | rfl | (simp only [List.length_drop, List.length_take]; rfl)) ?_
             with_reducible refine (big_OfS.calls 1 t478 t479 t480 _ A46.out).mono ?_
             rintro e w63 ⟨rfl, hb⟩
             refine ⟨_, rfl, ?_⟩
             replace BK458 := Aside0.mk (blk_below BK458.out hb)
             replace BK465 := Aside0.mk (blk_below BK465.out hb)
             replace BK485 := Aside0.mk (blk_below BK485.out hb)
             replace HB := Aside0.mk (below_step HB.out hb)
             (try clear hb)
             (try clear hb2)
             (try clear hk)
             (try clear hi)
             refine hK.out _ _ ⟨(blk_cell BK465.out 0).trans rfl, (blk_cell BK465.out 1).trans rfl, (blk_cell BK465.out 2).trans rfl⟩ (fun hHeld => ?_)
             clear hK K
             refine norm_ (a' := ?_) ?_ ?_
             rotate_left
             ·show Act.put _ (some 91) _ = _
              simp only [Act.put, List.setIfInBounds_toArray, List.set_cons_zero, List.set_cons_succ, i64_w, i32_w]
              rfl
             refine one_ (i := 2) (N := some 92) #[Y,Y,Y,N,N,N,Y,N,N] rfl rfl (one_of HT_.out (by kernel_rfl)) (by decide) (fun K hK => ?_)
             refine goes_ Try.func16 (by kernel_rfl) rfl #[.agg #[.bool t460, .int .u64 t461, .int .u64 t462], .agg #[.bool t478, .int .u64 t479, .int .u64 t480]] (by rfl) rfl rfl (by (try simp only [List.map_toArray, List.map_cons, List.map_nil]); first | done | rfl | (simp only [List.length_drop, List.length_take]; rfl)) ?_
             with_reducible refine (big_AddS.calls t460 t461 t462 t478 t479 t480 t481 t482 t483 t484 _ A47.out).mono ?_
             rintro e w64 ⟨rfl, hb⟩
             refine ⟨_, rfl, ?_⟩
             replace BK458 := Aside0.mk (blk_below BK458.out hb)
             replace BK465 := Aside0.mk (blk_below BK465.out hb)
             replace BK485 := Aside0.mk (blk_below BK485.out hb)
             replace HB := Aside0.mk (below_step HB.out hb)
             (try clear hb)
             (try clear hb2)
             (try clear hk)
             (try clear hi)
             refine hK.out _ _ ⟨(blk_cell BK465.out 0).trans rfl, (blk_cell BK465.out 1).trans rfl, (blk_cell BK465.out 2).trans rfl⟩ (fun hHeld => ?_)
             clear hK K
             refine norm_ (a' := ?_) ?_ ?_
             rotate_left
             ·show Act.put _ (some 92) _ = _
              simp only [Act.put, List.setIfInBounds_toArray, List.set_cons_zero, List.set_cons_succ, i64_w, i32_w]
              rfl
             refine pure_ (i := 3) (N := some 89) (v := ?_) (a' := ?_) #[Y,Y,Y,Y,N,N,Y,N,N] rfl rfl (any_of HT_.out (by kernel_rfl)) (fun _ _ _ h => h) (Or.inl ⟨by rfl, ?_⟩) ?_ ?_
             rotate_left
             ·intro w'
              go_simp
              with_reducible rfl
             rotate_left
             ·simp only [Act.put, List.setIfInBounds_toArray, List.set_cons_zero, List.set_cons_succ, i64_w, i32_w]
              rfl
             refine pure_ (i := 4) (N := some 93) (v := ?_) (a' := ?_) #[Y,Y,Y,Y,Y,N,Y,N,N] rfl rfl (any_of HT_.out (by kernel_rfl)) (fun _ _ _ h => h) (Or.inl ⟨by rfl, ?_⟩) ?_ ?_
             rotate_left
             ·intro w'
              go_simp
              with_reducible rfl
             rotate_left
             ·simp only [Act.put, List.setIfInBounds_toArray, List.set_cons_zero, List.set_cons_succ, i64_w, i32_w]
              rfl
             refine pure_ (i := 5) (N := some 94) (v := ?_) (a' := ?_) #[Y,Y,Y,Y,Y,Y,Y,N,N] rfl rfl (any_of HT_.out (by kernel_rfl)) (fun _ _ _ h => h) (Or.inl ⟨by rfl, ?_⟩) ?_ ?_
             rotate_left
             ·intro w'
              go_simp
              with_reducible rfl
             rotate_left
             ·simp only [Act.put, List.setIfInBounds_toArray, List.set_cons_zero, List.set_cons_succ, i64_w, i32_w]
              rfl
             exact norm_ (by simp only [putAll, Act.put, List.setIfInBounds_toArray, List.set_cons_zero, List.set_cons_succ]) (hCont (gb485) _ ⟨hHeld, BK458.out, BK465.out, BK485.out, GW485.out, GE485.out, NB458_485.out, NB485_458.out, NB465_485.out, NB485_465.out, (by repeat (first | (with_reducible first | exact HB.out | apply below_alloc | apply pw_below_drewN | apply below_drew1 | refine below_set ?_ GE458.out | refine below_set ?_ GE465.out | refine below_set ?_ GE485.out) | exact HB.out))⟩)
           rintro gb485 w65 ⟨hS_, h0_, h1_, h2_, h3_, h4_, h5_, h6_, h7_, h8_, h9_⟩
           have BK485 := Aside0.mk h2_
           have GW485 := Aside0.mk h3_
           have GE485 := Aside0.mk h4_
           have NB458_485 := Aside0.mk h5_
           have NB485_458 := Aside0.mk h6_
           have NB465_485 := Aside0.mk h7_
           have NB485_465 := Aside0.mk h8_
           replace BK458 := Aside0.mk h0_
           replace BK465 := Aside0.mk h1_
           replace HB := Aside0.mk h9_
           clear h0_ h1_ h2_ h3_ h4_ h5_ h6_ h7_ h8_ h9_
           have hHeld : w65.cell? ⟨gb465, 0, none⟩ = some (.bool t460) ∧ w65.cell? ⟨gb465, 1, none⟩ = some (.int .u64 t461) ∧ w65.cell? ⟨gb465, 2, none⟩ = some (.int .u64 t462) := hS_
           refine norm_ (a' := ?_) ?_ ?_
           rotate_left
           ·simp only [putAll, Act.put, List.setIfInBounds_toArray, List.set_cons_zero, List.set_cons_succ]
            rfl
           refine one_ (i := 7) (N := none) #[Y,Y,Y,Y,Y,Y,Y,Y,N] rfl rfl (one_of HT_.out (by kernel_rfl)) (by decide) (fun K hK => ?_)
           have hs66 : w65.cell? ⟨gb485, 0, none⟩ = some (.bool false) := (blk_cell BK485.out 0).trans rfl
           have hfs66 := blk_frozen BK485.out 0
           have hns66_0 := NB458_485.out
           have hns66_1 := NB465_485.out
           have hms66_0 := NB485_458.out
           have hms66_1 := NB485_465.out
           have hs67 : w65.cell? ⟨gb485, 1, none⟩ = some (.int .u64 0) := (blk_cell BK485.out 1).trans rfl
           have hfs67 := blk_frozen BK485.out 1
           have hns67_0 := NB458_485.out
           have hns67_1 := NB465_485.out
           have hms67_0 := NB485_458.out
           have hms67_1 := NB485_465.out
           have hs68 : w65.cell? ⟨gb485, 2, none⟩ = some (.int .u64 0) := (blk_cell BK485.out 2).trans rfl
           have hfs68 := blk_frozen BK485.out 2
           have hns68_0 := NB458_485.out
           have hns68_1 := NB465_485.out
           have hms68_0 := NB485_458.out
           have hms68_1 := NB485_465.out
           refine skip_ (w1 := ?_) (by rfl) rfl ?_ ?_
           rotate_left
           ·go_simp
            rfl
           refine hK.out _ _ ⟨((cell_far (p := ⟨gb485, _, none⟩) NB465_485.out _).trans (((cell_far (p := ⟨gb485, _, none⟩) NB465_485.out _).trans (((cell_far (p := ⟨gb485, _, none⟩) NB465_485.out _).trans (hHeld.1)))))), ((cell_far (p := ⟨gb485, _, none⟩) NB465_485.out _).trans (((cell_far (p := ⟨gb485, _, none⟩) NB465_485.out _).trans (((cell_far (p := ⟨gb485, _, none⟩) NB465_485.out _).trans (hHeld.2.1)))))), ((cell_far (p := ⟨gb485, _, none⟩) NB465_485.out _).trans (((cell_far (p := ⟨gb485, _, none⟩) NB465_485.out _).trans (((cell_far (p := ⟨gb485, _, none⟩) NB465_485.out _).trans (hHeld.2.2))))))⟩ (fun hHeld => ?_)
           clear hK K
           refine pure_ (i := 8) (N := some 14) (v := ?_) (a' := ?_) #[Y,Y,Y,Y,Y,Y,Y,Y,Y] rfl rfl (any_of HT_.out (by kernel_rfl)) (fun _ _ _ h => h) (Or.inl ⟨by rfl, ?_⟩) ?_ ?_
           rotate_left
           ·intro w'
            go_simp
            with_reducible rfl
           rotate_left
           ·simp only [Act.put, List.setIfInBounds_toArray, List.set_cons_zero, List.set_cons_succ, i64_w, i32_w]
            rfl
           refine done_ (done_of HT_.out (by kernel_rfl)) ?_
           have hnb69 := NB485_458.out
           have hnc69 := NB458_485.out
           have hnb70 := NB485_465.out
           have hnc70 := NB465_485.out
           have hcz71_0 : w65.cell? ⟨gb485, 0, none⟩ = some (.bool false) := (blk_cell BK485.out 0).trans rfl
           have hcz71_1 : w65.cell? ⟨gb485, 1, none⟩ = some (.int .u64 0) := (blk_cell BK485.out 1).trans rfl
           have hcz71_2 : w65.cell? ⟨gb485, 2, none⟩ = some (.int .u64 0) := (blk_cell BK485.out 2).trans rfl
           have hfz71_0 := blk_frozen BK485.out 0
           have hfz71_1 := blk_frozen BK485.out 1
           have hfz71_2 := blk_frozen BK485.out 2
           try go_wp2_with (first | ((with_reducible refine gate_callee (f := 18) rfl ?_); refine goesL_ (some 98) rfl rfl Try.func18 (by kernel_rfl) rfl #[.agg #[.bool t481, .int .u64 t482, .int .u64 t483], .int .u64 a1] rfl (by (try simp only [List.map_toArray, List.map_cons, List.map_nil]); first | done | rfl | (simp only [List.length_drop, List.length_take]; rfl)) ?_; (with_reducible refine (big_ScaleS.calls t481 t482 t483 a1 t486 t487 t488 t489 _ A48.out).mono ?_); rintro e w72 ⟨rfl, hb⟩; refine ⟨_, rfl, ?_⟩; replace BK458 := Aside0.mk (blk_below (g := gb458) (o := .cells #[.bool a0_0, .int .u64 a0_1, .int .u64 a0_2] 24 (0, 0)) (by (with_reducible repeat (first | refine blk_drewN ?_ _ | refine blk_drew ?_ | refine blk_alloc ?_ _)); refine blk_far ?_ NB458_485.out _; (with_reducible repeat (first | refine blk_drewN ?_ _ | refine blk_drew ?_ | refine blk_alloc ?_ _)); refine blk_far ?_ NB458_485.out _; (with_reducible repeat (first | refine blk_drewN ?_ _ | refine blk_drew ?_ | refine blk_alloc ?_ _)); refine blk_far ?_ NB458_485.out _; (with_reducible repeat (first | refine blk_drewN ?_ _ | refine blk_drew ?_ | refine blk_alloc ?_ _)); exact BK458.out) hb); replace BK465 := Aside0.mk (blk_below (g := gb465) (o := .cells #[.bool t460, .int .u64 t461, .int .u64 t462] 24 (0, 0)) (by (with_reducible repeat (first | refine blk_drewN ?_ _ | refine blk_drew ?_ | refine blk_alloc ?_ _)); refine blk_far ?_ NB465_485.out _; (with_reducible repeat (first | refine blk_drewN ?_ _ | refine blk_drew ?_ | refine blk_alloc ?_ _)); refine blk_far ?_ NB465_485.out _; (with_reducible repeat (first | refine blk_drewN ?_ _ | refine blk_drew ?_ | refine blk_alloc ?_ _)); refine blk_far ?_ NB465_485.out _; (with_reducible repeat (first | refine blk_drewN ?_ _ | refine blk_drew ?_ | refine blk_alloc ?_ _)); exact BK465.out) hb); replace BK485 := Aside0.mk (blk_below (g := gb485) (o := .cells #[.bool t481, .int .u64 t482, .int .u64 t483] 24 (0, 0)) (by (with_reducible repeat (first | refine blk_drewN ?_ _ | refine blk_drew ?_ | refine blk_alloc ?_ _)); refine blk_put (cs := #[.bool t481, .int .u64 t482, .int .u64 0]) ?_ 2 _ rfl; (with_reducible repeat (first | refine blk_drewN ?_ _ | refine blk_drew ?_ | refine blk_alloc ?_ _)); refine blk_put (cs := #[.bool t481, .int .u64 0, .int .u64 0]) ?_ 1 _ rfl; (with_reducible repeat (first | refine blk_drewN ?_ _ | refine blk_drew ?_ | refine blk_alloc ?_ _)); refine blk_put (cs := #[.bool false, .int .u64 0, .int .u64 0]) ?_ 0 _ rfl; (with_reducible repeat (first | refine blk_drewN ?_ _ | refine blk_drew ?_ | refine blk_alloc ?_ _)); exact BK485.out) hb); replace HB := Aside0.mk (below_step (by repeat (first | (with_reducible first | exact HB.out | apply below_alloc | apply pw_below_drewN | apply below_drew1 | refine below_set ?_ GE458.out | refine below_set ?_ GE465.out | refine below_set ?_ GE485.out) | exact HB.out)) hb); (try clear hb); (try clear hb2); (try clear hk); (try clear hi)) | ((with_reducible refine gate_dst (N := 15) rfl ?_); refine box_event ?hg (N := 15) ?hd (cs := #[.bool false, .int .u64 0, .int .u64 0]) (t := 24) ?hr ?_; (case hd => rfl); (case hg => rfl); (case hr => first | (go_simp; done) | (go_simp; rfl)); intro gb490 hg w73 hbox hb; have BK490 := Aside0.mk (hbox); have GW490 := Aside0.mk ((by rw [hg]; exact (below_size (by repeat (first | (with_reducible first | exact HB.out | apply below_alloc | apply pw_below_drewN | apply below_drew1 | refine below_set ?_ GE458.out | refine below_set ?_ GE465.out | refine below_set ?_ GE485.out) | exact HB.out))) : w.heap.size ≤ gb490)); have GE490 := Aside0.mk ((by rw [hg]; exact (below_size (by repeat (first | (with_reducible first | exact HB.out | apply below_alloc | apply pw_below_drewN | apply below_drew1 | refine below_set ?_ GE458.out | refine below_set ?_ GE465.out | refine below_set ?_ GE485.out) | exact HB.out))) : w.heap.size ≤ gb490)); have NB458_490 := Aside0.mk ((by rw [hg]; exact Nat.ne_of_lt (blk_lt (g := gb458) (o := .cells #[.bool a0_0, .int .u64 a0_1, .int .u64 a0_2] 24 (0, 0)) (by (with_reducible repeat (first | refine blk_drewN ?_ _ | refine blk_drew ?_ | refine blk_alloc ?_ _)); exact BK458.out)) : gb458 ≠ gb490)); have NB490_458 := Aside0.mk ((by rw [hg]; exact Nat.ne_of_gt (blk_lt (g := gb458) (o := .cells #[.bool a0_0, .int .u64 a0_1, .int .u64 a0_2] 24 (0, 0)) (by (with_reducible repeat (first | refine blk_drewN ?_ _ | refine blk_drew ?_ | refine blk_alloc ?_ _)); exact BK458.out)) : gb490 ≠ gb458)); have NB465_490 := Aside0.mk ((by rw [hg]; exact Nat.ne_of_lt (blk_lt (g := gb465) (o := .cells #[.bool t460, .int .u64 t461, .int .u64 t462] 24 (0, 0)) (by (with_reducible repeat (first | refine blk_drewN ?_ _ | refine blk_drew ?_ | refine blk_alloc ?_ _)); exact BK465.out)) : gb465 ≠ gb490)); have NB490_465 := Aside0.mk ((by rw [hg]; exact Nat.ne_of_gt (blk_lt (g := gb465) (o := .cells #[.bool t460, .int .u64 t461, .int .u64 t462] 24 (0, 0)) (by (with_reducible repeat (first | refine blk_drewN ?_ _ | refine blk_drew ?_ | refine blk_alloc ?_ _)); exact BK465.out)) : gb490 ≠ gb465)); have NB485_490 := Aside0.mk ((by rw [hg]; exact Nat.ne_of_lt (blk_lt (g := gb485) (o := .cells #[.bool t481, .int .u64 t482, .int .u64 t483] 24 (0, 0)) (by (with_reducible repeat (first | refine blk_drewN ?_ _ | refine blk_drew ?_ | refine blk_alloc ?_ _)); exact BK485.out)) : gb485 ≠ gb490)); have NB490_485 := Aside0.mk ((by rw [hg]; exact Nat.ne_of_gt (blk_lt (g := gb485) (o := .cells #[.bool t481, .int .u64 t482, .int .u64 t483] 24 (0, 0)) (by (with_reducible repeat (first | refine blk_drewN ?_ _ | refine blk_drew ?_ | refine blk_alloc ?_ _)); exact BK485.out)) : gb490 ≠ gb485)); replace BK458 := Aside0.mk (blk_below (g := gb458) (o := .cells #[.bool a0_0, .int .u64 a0_1, .int .u64 a0_2] 24 (0, 0)) (by (with_reducible repeat (first | refine blk_drewN ?_ _ | refine blk_drew ?_ | refine blk_alloc ?_ _)); exact BK458.out) hb); replace BK465 := Aside0.mk (blk_below (g := gb465) (o := .cells #[.bool t460, .int .u64 t461, .int .u64 t462] 24 (0, 0)) (by (with_reducible repeat (first | refine blk_drewN ?_ _ | refine blk_drew ?_ | refine blk_alloc ?_ _)); exact BK465.out) hb); replace BK485 := Aside0.mk (blk_below (g := gb485) (o := .cells #[.bool t481, .int .u64 t482, .int .u64 t483] 24 (0, 0)) (by (with_reducible repeat (first | refine blk_drewN ?_ _ | refine blk_drew ?_ | refine blk_alloc ?_ _)); exact BK485.out) hb); replace HB := Aside0.mk (below_step (by repeat (first | (with_reducible first | exact HB.out | apply below_alloc | apply pw_below_drewN | apply below_drew1 | refine below_set ?_ GE458.out | refine below_set ?_ GE465.out | refine below_set ?_ GE485.out) | exact HB.out)) hb); clear hb hbox hg; have hnb74 := NB490_458.out; have hnc74 := NB458_490.out; have hnb75 := NB490_465.out; have hnc75 := NB465_490.out; have hnb76 := NB490_485.out; have hnc76 := NB485_490.out; have hcz77_0 : w73.cell? ⟨gb490, 0, none⟩ = some (.bool false) := (blk_cell BK490.out 0).trans rfl; have hcz77_1 : w73.cell? ⟨gb490, 1, none⟩ = some (.int .u64 0) := (blk_cell BK490.out 1).trans rfl; have hcz77_2 : w73.cell? ⟨gb490, 2, none⟩ = some (.int .u64 0) := (blk_cell BK490.out 2).trans rfl; have hfz77_0 := blk_frozen BK490.out 0; have hfz77_1 := blk_frozen BK490.out 1; have hfz77_2 := blk_frozen BK490.out 2) | ((with_reducible refine gate_callee (f := 16) rfl ?_); refine goesL_ (some 106) rfl rfl Try.func16 (by kernel_rfl) rfl #[.agg #[.bool false, .int .u64 0, .int .u64 t463], .agg #[.bool true, .int .u64 0, .int .u64 a1]] rfl (by (try simp only [List.map_toArray, List.map_cons, List.map_nil]); first | done | rfl | (simp only [List.length_drop, List.length_take]; rfl)) ?_; (with_reducible refine (big_AddS.calls false 0 t463 true 0 a1 t491 t492 t493 t494 _ A49.out).mono ?_); rintro e w78 ⟨rfl, hb⟩; refine ⟨_, rfl, ?_⟩; replace BK458 := Aside0.mk (blk_below (g := gb458) (o := .cells #[.bool a0_0, .int .u64 a0_1, .int .u64 a0_2] 24 (0, 0)) (by (with_reducible repeat (first | refine blk_drewN ?_ _ | refine blk_drew ?_ | refine blk_alloc ?_ _)); refine blk_far ?_ NB458_490.out _; (with_reducible repeat (first | refine blk_drewN ?_ _ | refine blk_drew ?_ | refine blk_alloc ?_ _)); refine blk_far ?_ NB458_490.out _; (with_reducible repeat (first | refine blk_drewN ?_ _ | refine blk_drew ?_ | refine blk_alloc ?_ _)); refine blk_far ?_ NB458_490.out _; (with_reducible repeat (first | refine blk_drewN ?_ _ | refine blk_drew ?_ | refine blk_alloc ?_ _)); exact BK458.out) hb); replace BK465 := Aside0.mk (blk_below (g := gb465) (o := .cells #[.bool t460, .int .u64 t461, .int .u64 t462] 24 (0, 0)) (by (with_reducible repeat (first | refine blk_drewN ?_ _ | refine blk_drew ?_ | refine blk_alloc ?_ _)); refine blk_far ?_ NB465_490.out _; (with_reducible repeat (first | refine blk_drewN ?_ _ | refine blk_drew ?_ | refine blk_alloc ?_ _)); refine blk_far ?_ NB465_490.out _; (with_reducible repeat (first | refine blk_drewN ?_ _ | refine blk_drew ?_ | refine blk_alloc ?_ _)); refine blk_far ?_ NB465_490.out _; (with_reducible repeat (first | refine blk_drewN ?_ _ | refine blk_drew ?_ | refine blk_alloc ?_ _)); exact BK465.out) hb); replace BK485 := Aside0.mk (blk_below (g := gb485) (o := .cells #[.bool t481, .int .u64 t482, .int .u64 t483] 24 (0, 0)) (by (with_reducible repeat (first | refine blk_drewN ?_ _ | refine blk_drew ?_ | refine blk_alloc ?_ _)); refine blk_far ?_ NB485_490.out _; (with_reducible repeat (first | refine blk_drewN ?_ _ | refine blk_drew ?_ | refine blk_alloc ?_ _)); refine blk_far ?_ NB485_490.out _; (with_reducible repeat (first | refine blk_drewN ?_ _ | refine blk_drew ?_ | refine blk_alloc ?_ _)); refine blk_far ?_ NB485_490.out _; (with_reducible repeat (first | refine blk_drewN ?_ _ | refine blk_drew ?_ | refine blk_alloc ?_ _)); exact BK485.out) hb); replace BK490 := Aside0.mk (blk_below (g := gb490) (o := .cells #[.bool t486, .int .u64 t487, .int .u64 t488] 24 (0, 0)) (by (with_reducible repeat (first | refine blk_drewN ?_ _ | refine blk_drew ?_ | refine blk_alloc ?_ _)); refine blk_put (cs := #[.bool t486, .int .u64 t487, .int .u64 0]) ?_ 2 _ rfl; (with_reducible repeat (first | refine blk_drewN ?_ _ | refine blk_drew ?_ | refine blk_alloc ?_ _)); refine blk_put (cs := #[.bool t486, .int .u64 0, .int .u64 0]) ?_ 1 _ rfl; (with_reducible repeat (first | refine blk_drewN ?_ _ | refine blk_drew ?_ | refine blk_alloc ?_ _)); refine blk_put (cs := #[.bool false, .int .u64 0, .int .u64 0]) ?_ 0 _ rfl; (with_reducible repeat (first | refine blk_drewN ?_ _ | refine blk_drew ?_ | refine blk_alloc ?_ _)); exact BK490.out) hb); replace HB := Aside0.mk (below_step (by repeat (first | (with_reducible first | exact HB.out | apply below_alloc | apply pw_below_drewN | apply below_drew1 | refine below_set ?_ GE458.out | refine below_set ?_ GE465.out | refine below_set ?_ GE485.out | refine below_set ?_ GE490.out) | exact HB.out)) hb); (try clear hb); (try clear hb2); (try clear hk); (try clear hi)) | ((with_reducible refine gate_dst (N := 17) rfl ?_); refine box_event ?hg (N := 17) ?hd (cs := #[.bool false, .int .u64 0, .int .u64 0]) (t := 24) ?hr ?_; (case hd => rfl); (case hg => rfl); (case hr => first | (go_simp; done) | (go_simp; rfl)); intro gb495 hg w79 hbox hb; have BK495 := Aside0.mk (hbox); have GW495 := Aside0.mk ((by rw [hg]; exact (below_size (by repeat (first | (with_reducible first | exact HB.out | apply below_alloc | apply pw_below_drewN | apply below_drew1 | refine below_set ?_ GE458.out | refine below_set ?_ GE465.out | refine below_set ?_ GE485.out | refine below_set ?_ GE490.out) | exact HB.out))) : w.heap.size ≤ gb495)); have GE495 := Aside0.mk ((by rw [hg]; exact (below_size (by repeat (first | (with_reducible first | exact HB.out | apply below_alloc | apply pw_below_drewN | apply below_drew1 | refine below_set ?_ GE458.out | refine below_set ?_ GE465.out | refine below_set ?_ GE485.out | refine below_set ?_ GE490.out) | exact HB.out))) : w.heap.size ≤ gb495)); have NB458_495 := Aside0.mk ((by rw [hg]; exact Nat.ne_of_lt (blk_lt (g := gb458) (o := .cells #[.bool a0_0, .int .u64 a0_1, .int .u64 a0_2] 24 (0, 0)) (by (with_reducible repeat (first | refine blk_drewN ?_ _ | refine blk_drew ?_ | refine blk_alloc ?_ _)); exact BK458.out)) : gb458 ≠ gb495)); have NB495_458 := Aside0.mk ((by rw [hg]; exact Nat.ne_of_gt (blk_lt (g := gb458) (o := .cells #[.bool a0_0, .int .u64 a0_1, .int .u64 a0_2] 24 (0, 0)) (by (with_reducible repeat (first | refine blk_drewN ?_ _ | refine blk_drew ?_ | refine blk_alloc ?_ _)); exact BK458.out)) : gb495 ≠ gb458)); have NB465_495 := Aside0.mk ((by rw [hg]; exact Nat.ne_of_lt (blk_lt (g := gb465) (o := .cells #[.bool t460, .int .u64 t461, .int .u64 t462] 24 (0, 0)) (by (with_reducible repeat (first | refine blk_drewN ?_ _ | refine blk_drew ?_ | refine blk_alloc ?_ _)); exact BK465.out)) : gb465 ≠ gb495)); have NB495_465 := Aside0.mk ((by rw [hg]; exact Nat.ne_of_gt (blk_lt (g := gb465) (o := .cells #[.bool t460, .int .u64 t461, .int .u64 t462] 24 (0, 0)) (by (with_reducible repeat (first | refine blk_drewN ?_ _ | refine blk_drew ?_ | refine blk_alloc ?_ _)); exact BK465.out)) : gb495 ≠ gb465)); have NB485_495 := Aside0.mk ((by rw [hg]; exact Nat.ne_of_lt (blk_lt (g := gb485) (o := .cells #[.bool t481, .int .u64 t482, .int .u64 t483] 24 (0, 0)) (by (with_reducible repeat (first | refine blk_drewN ?_ _ | refine blk_drew ?_ | refine blk_alloc ?_ _)); exact BK485.out)) : gb485 ≠ gb495)); have NB495_485 := Aside0.mk ((by rw [hg]; exact Nat.ne_of_gt (blk_lt (g := gb485) (o := .cells #[.bool t481, .int .u64 t482, .int .u64 t483] 24 (0, 0)) (by (with_reducible repeat (first | refine blk_drewN ?_ _ | refine blk_drew ?_ | refine blk_alloc ?_ _)); exact BK485.out)) : gb495 ≠ gb485)); have NB490_495 := Aside0.mk ((by rw [hg]; exact Nat.ne_of_lt (blk_lt (g := gb490) (o := .cells #[.bool t486, .int .u64 t487, .int .u64 t488] 24 (0, 0)) (by (with_reducible repeat (first | refine blk_drewN ?_ _ | refine blk_drew ?_ | refine blk_alloc ?_ _)); exact BK490.out)) : gb490 ≠ gb495)); have NB495_490 := Aside0.mk ((by rw [hg]; exact Nat.ne_of_gt (blk_lt (g := gb490) (o := .cells #[.bool t486, .int .u64 t487, .int .u64 t488] 24 (0, 0)) (by (with_reducible repeat (first | refine blk_drewN ?_ _ | refine blk_drew ?_ | refine blk_alloc ?_ _)); exact BK490.out)) : gb495 ≠ gb490)); replace BK458 := Aside0.mk (blk_below (g := gb458) (o := .cells #[.bool a0_0, .int .u64 a0_1, .int .u64 a0_2] 24 (0, 0)) (by (with_reducible repeat (first | refine blk_drewN ?_ _ | refine blk_drew ?_ | refine blk_alloc ?_ _)); exact BK458.out) hb); replace BK465 := Aside0.mk (blk_below (g := gb465) (o := .cells #[.bool t460, .int .u64 t461, .int .u64 t462] 24 (0, 0)) (by (with_reducible repeat (first | refine blk_drewN ?_ _ | refine blk_drew ?_ | refine blk_alloc ?_ _)); exact BK465.out) hb); replace BK485 := Aside0.mk (blk_below (g := gb485) (o := .cells #[.bool t481, .int .u64 t482, .int .u64 t483] 24 (0, 0)) (by (with_reducible repeat (first | refine blk_drewN ?_ _ | refine blk_drew ?_ | refine blk_alloc ?_ _)); exact BK485.out) hb); replace BK490 := Aside0.mk (blk_below (g := gb490) (o := .cells #[.bool t486, .int .u64 t487, .int .u64 t488] 24 (0, 0)) (by (with_reducible repeat (first | refine blk_drewN ?_ _ | refine blk_drew ?_ | refine blk_alloc ?_ _)); exact BK490.out) hb); replace HB := Aside0.mk (below_step (by repeat (first | (with_reducible first | exact HB.out | apply below_alloc | apply pw_below_drewN | apply below_drew1 | refine below_set ?_ GE458.out | refine below_set ?_ GE465.out | refine below_set ?_ GE485.out | refine below_set ?_ GE490.out) | exact HB.out)) hb); clear hb hbox hg; have hnb80 := NB495_458.out; have hnc80 := NB458_495.out; have hnb81 := NB495_465.out; have hnc81 := NB465_495.out; have hnb82 := NB495_485.out; have hnc82 := NB485_495.out; have hnb83 := NB495_490.out; have hnc83 := NB490_495.out; have hcz84_0 : w79.cell? ⟨gb495, 0, none⟩ = some (.bool false) := (blk_cell BK495.out 0).trans rfl; have hcz84_1 : w79.cell? ⟨gb495, 1, none⟩ = some (.int .u64 0) := (blk_cell BK495.out 1).trans rfl; have hcz84_2 : w79.cell? ⟨gb495, 2, none⟩ = some (.int .u64 0) := (blk_cell BK495.out 2).trans rfl; have hfz84_0 := blk_frozen BK495.out 0; have hfz84_1 := blk_frozen BK495.out 1; have hfz84_2 := blk_frozen BK495.out 2; have hcz85_0 : w79.cell? ⟨gb490, 0, none⟩ = some (.bool t486) := (blk_cell BK490.out 0).trans rfl; have hcz85_1 : w79.cell? ⟨gb490, 1, none⟩ = some (.int .u64 t487) := (blk_cell BK490.out 1).trans rfl; have hcz85_2 : w79.cell? ⟨gb490, 2, none⟩ = some (.int .u64 t488) := (blk_cell BK490.out 2).trans rfl; have hfz85_0 := blk_frozen BK490.out 0; have hfz85_1 := blk_frozen BK490.out 1; have hfz85_2 := blk_frozen BK490.out 2) | ((with_reducible refine gate_callee (f := 16) rfl ?_); refine goesL_ (some 112) rfl rfl Try.func16 (by kernel_rfl) rfl #[.agg #[.bool t486, .int .u64 t487, .int .u64 t488], .agg #[.bool t491, .int .u64 t492, .int .u64 t493]] rfl (by (try simp only [List.map_toArray, List.map_cons, List.map_nil]); first | done | rfl | (simp only [List.length_drop, List.length_take]; rfl)) ?_; (with_reducible refine (big_AddS.calls t486 t487 t488 t491 t492 t493 t496 t497 t498 t499 _ A50.out).mono ?_); rintro e w86 ⟨rfl, hb⟩; refine ⟨_, rfl, ?_⟩; replace BK458 := Aside0.mk (blk_below (g := gb458) (o := .cells #[.bool a0_0, .int .u64 a0_1, .int .u64 a0_2] 24 (0, 0)) (by (with_reducible repeat (first | refine blk_drewN ?_ _ | refine blk_drew ?_ | refine blk_alloc ?_ _)); refine blk_far ?_ NB458_495.out _; (with_reducible repeat (first | refine blk_drewN ?_ _ | refine blk_drew ?_ | refine blk_alloc ?_ _)); refine blk_far ?_ NB458_495.out _; (with_reducible repeat (first | refine blk_drewN ?_ _ | refine blk_drew ?_ | refine blk_alloc ?_ _)); refine blk_far ?_ NB458_495.out _; (with_reducible repeat (first | refine blk_drewN ?_ _ | refine blk_drew ?_ | refine blk_alloc ?_ _)); exact BK458.out) hb); replace BK465 := Aside0.mk (blk_below (g := gb465) (o := .cells #[.bool t460, .int .u64 t461, .int .u64 t462] 24 (0, 0)) (by (with_reducible repeat (first | refine blk_drewN ?_ _ | refine blk_drew ?_ | refine blk_alloc ?_ _)); refine blk_far ?_ NB465_495.out _; (with_reducible repeat (first | refine blk_drewN ?_ _ | refine blk_drew ?_ | refine blk_alloc ?_ _)); refine blk_far ?_ NB465_495.out _; (with_reducible repeat (first | refine blk_drewN ?_ _ | refine blk_drew ?_ | refine blk_alloc ?_ _)); refine blk_far ?_ NB465_495.out _; (with_reducible repeat (first | refine blk_drewN ?_ _ | refine blk_drew ?_ | refine blk_alloc ?_ _)); exact BK465.out) hb); replace BK485 := Aside0.mk (blk_below (g := gb485) (o := .cells #[.bool t481, .int .u64 t482, .int .u64 t483] 24 (0, 0)) (by (with_reducible repeat (first | refine blk_drewN ?_ _ | refine blk_drew ?_ | refine blk_alloc ?_ _)); refine blk_far ?_ NB485_495.out _; (with_reducible repeat (first | refine blk_drewN ?_ _ | refine blk_drew ?_ | refine blk_alloc ?_ _)); refine blk_far ?_ NB485_495.out _; (with_reducible repeat (first | refine blk_drewN ?_ _ | refine blk_drew ?_ | refine blk_alloc ?_ _)); refine blk_far ?_ NB485_495.out _; (with_reducible repeat (first | refine blk_drewN ?_ _ | refine blk_drew ?_ | refine blk_alloc ?_ _)); exact BK485.out) hb); replace BK490 := Aside0.mk (blk_below (g := gb490) (o := .cells #[.bool t486, .int .u64 t487, .int .u64 t488] 24 (0, 0)) (by (with_reducible repeat (first | refine blk_drewN ?_ _ | refine blk_drew ?_ | refine blk_alloc ?_ _)); refine blk_far ?_ NB490_495.out _; (with_reducible repeat (first | refine blk_drewN ?_ _ | refine blk_drew ?_ | refine blk_alloc ?_ _)); refine blk_far ?_ NB490_495.out _; (with_reducible repeat (first | refine blk_drewN ?_ _ | refine blk_drew ?_ | refine blk_alloc ?_ _)); refine blk_far ?_ NB490_495.out _; (with_reducible repeat (first | refine blk_drewN ?_ _ | refine blk_drew ?_ | refine blk_alloc ?_ _)); exact BK490.out) hb); replace BK495 := Aside0.mk (blk_below (g := gb495) (o := .cells #[.bool t491, .int .u64 t492, .int .u64 t493] 24 (0, 0)) (by (with_reducible repeat (first | refine blk_drewN ?_ _ | refine blk_drew ?_ | refine blk_alloc ?_ _)); refine blk_put (cs := #[.bool t491, .int .u64 t492, .int .u64 0]) ?_ 2 _ rfl; (with_reducible repeat (first | refine blk_drewN ?_ _ | refine blk_drew ?_ | refine blk_alloc ?_ _)); refine blk_put (cs := #[.bool t491, .int .u64 0, .int .u64 0]) ?_ 1 _ rfl; (with_reducible repeat (first | refine blk_drewN ?_ _ | refine blk_drew ?_ | refine blk_alloc ?_ _)); refine blk_put (cs := #[.bool false, .int .u64 0, .int .u64 0]) ?_ 0 _ rfl; (with_reducible repeat (first | refine blk_drewN ?_ _ | refine blk_drew ?_ | refine blk_alloc ?_ _)); exact BK495.out) hb); replace HB := Aside0.mk (below_step (by repeat (first | (with_reducible first | exact HB.out | apply below_alloc | apply pw_below_drewN | apply below_drew1 | refine below_set ?_ GE458.out | refine below_set ?_ GE465.out | refine below_set ?_ GE485.out | refine below_set ?_ GE490.out | refine below_set ?_ GE495.out) | exact HB.out)) hb); (try clear hb); (try clear hb2); (try clear hk); (try clear hi)) | ((with_reducible refine gate_dst (N := 19) rfl ?_); refine box_event ?hg (N := 19) ?hd (cs := #[.bool false, .int .u64 0, .int .u64 0]) (t := 24) ?hr ?_; (case hd => rfl); (case hg => rfl); (case hr => first | (go_simp; done) | (go_simp; rfl)); intro gb500 hg w87 hbox hb; have BK500 := Aside0.mk (hbox); have GW500 := Aside0.mk ((by rw [hg]; exact (below_size (by repeat (first | (with_reducible first | exact HB.out | apply below_alloc | apply pw_below_drewN | apply below_drew1 | refine below_set ?_ GE458.out | refine below_set ?_ GE465.out | refine below_set ?_ GE485.out | refine below_set ?_ GE490.out | refine below_set ?_ GE495.out) | exact HB.out))) : w.heap.size ≤ gb500)); have GE500 := Aside0.mk ((by rw [hg]; exact (below_size (by repeat (first | (with_reducible first | exact HB.out | apply below_alloc | apply pw_below_drewN | apply below_drew1 | refine below_set ?_ GE458.out | refine below_set ?_ GE465.out | refine below_set ?_ GE485.out | refine below_set ?_ GE490.out | refine below_set ?_ GE495.out) | exact HB.out))) : w.heap.size ≤ gb500)); have NB458_500 := Aside0.mk ((by rw [hg]; exact Nat.ne_of_lt (blk_lt (g := gb458) (o := .cells #[.bool a0_0, .int .u64 a0_1, .int .u64 a0_2] 24 (0, 0)) (by (with_reducible repeat (first | refine blk_drewN ?_ _ | refine blk_drew ?_ | refine blk_alloc ?_ _)); exact BK458.out)) : gb458 ≠ gb500)); have NB500_458 := Aside0.mk ((by rw [hg]; exact Nat.ne_of_gt (blk_lt (g := gb458) (o := .cells #[.bool a0_0, .int .u64 a0_1, .int .u64 a0_2] 24 (0, 0)) (by (with_reducible repeat (first | refine blk_drewN ?_ _ | refine blk_drew ?_ | refine blk_alloc ?_ _)); exact BK458.out)) : gb500 ≠ gb458)); have NB465_500 := Aside0.mk ((by rw [hg]; exact Nat.ne_of_lt (blk_lt (g := gb465) (o := .cells #[.bool t460, .int .u64 t461, .int .u64 t462] 24 (0, 0)) (by (with_reducible repeat (first | refine blk_drewN ?_ _ | refine blk_drew ?_ | refine blk_alloc ?_ _)); exact BK465.out)) : gb465 ≠ gb500)); have NB500_465 := Aside0.mk ((by rw [hg]; exact Nat.ne_of_gt (blk_lt (g := gb465) (o := .cells #[.bool t460, .int .u64 t461, .int .u64 t462] 24 (0, 0)) (by (with_reducible repeat (first | refine blk_drewN ?_ _ | refine blk_drew ?_ | refine blk_alloc ?_ _)); exact BK465.out)) : gb500 ≠ gb465)); have NB485_500 := Aside0.mk ((by rw [hg]; exact Nat.ne_of_lt (blk_lt (g := gb485) (o := .cells #[.bool t481, .int .u64 t482, .int .u64 t483] 24 (0, 0)) (by (with_reducible repeat (first | refine blk_drewN ?_ _ | refine blk_drew ?_ | refine blk_alloc ?_ _)); exact BK485.out)) : gb485 ≠ gb500)); have NB500_485 := Aside0.mk ((by rw [hg]; exact Nat.ne_of_gt (blk_lt (g := gb485) (o := .cells #[.bool t481, .int .u64 t482, .int .u64 t483] 24 (0, 0)) (by (with_reducible repeat (first | refine blk_drewN ?_ _ | refine blk_drew ?_ | refine blk_alloc ?_ _)); exact BK485.out)) : gb500 ≠ gb485)); have NB490_500 := Aside0.mk ((by rw [hg]; exact Nat.ne_of_lt (blk_lt (g := gb490) (o := .cells #[.bool t486, .int .u64 t487, .int .u64 t488] 24 (0, 0)) (by (with_reducible repeat (first | refine blk_drewN ?_ _ | refine blk_drew ?_ | refine blk_alloc ?_ _)); exact BK490.out)) : gb490 ≠ gb500)); have NB500_490 := Aside0.mk ((by rw [hg]; exact Nat.ne_of_gt (blk_lt (g := gb490) (o := .cells #[.bool t486, .int .u64 t487, .int .u64 t488] 24 (0, 0)) (by (with_reducible repeat (first | refine blk_drewN ?_ _ | refine blk_drew ?_ | refine blk_alloc ?_ _)); exact BK490.out)) : gb500 ≠ gb490)); have NB495_500 := Aside0.mk ((by rw [hg]; exact Nat.ne_of_lt (blk_lt (g := gb495) (o := .cells #[.bool t491, .int .u64 t492, .int .u64 t493] 24 (0, 0)) (by (with_reducible repeat (first | refine blk_drewN ?_ _ | refine blk_drew ?_ | refine blk_alloc ?_ _)); exact BK495.out)) : gb495 ≠ gb500)); have NB500_495 := Aside0.mk ((by rw [hg]; exact Nat.ne_of_gt (blk_lt (g := gb495) (o := .cells #[.bool t491, .int .u64 t492, .int .u64 t493] 24 (0, 0)) (by (with_reducible repeat (first | refine blk_drewN ?_ _ | refine blk_drew ?_ | refine blk_alloc ?_ _)); exact BK495.out)) : gb500 ≠ gb495)); replace BK458 := Aside0.mk (blk_below (g := gb458) (o := .cells #[.bool a0_0, .int .u64 a0_1, .int .u64 a0_2] 24 (0, 0)) (by (with_reducible repeat (first | refine blk_drewN ?_ _ | refine blk_drew ?_ | refine blk_alloc ?_ _)); exact BK458.out) hb); replace BK465 := Aside0.mk (blk_below (g := gb465) (o := .cells #[.bool t460, .int .u64 t461, .int .u64 t462] 24 (0, 0)) (by (with_reducible repeat (first | refine blk_drewN ?_ _ | refine blk_drew ?_ | refine blk_alloc ?_ _)); exact BK465.out) hb); replace BK485 := Aside0.mk (blk_below (g := gb485) (o := .cells #[.bool t481, .int .u64 t482, .int .u64 t483] 24 (0, 0)) (by (with_reducible repeat (first | refine blk_drewN ?_ _ | refine blk_drew ?_ | refine blk_alloc ?_ _)); exact BK485.out) hb); replace BK490 := Aside0.mk (blk_below (g := gb490) (o := .cells #[.bool t486, .int .u64 t487, .int .u64 t488] 24 (0, 0)) (by (with_reducible repeat (first | refine blk_drewN ?_ _ | refine blk_drew ?_ | refine blk_alloc ?_ _)); exact BK490.out) hb); replace BK495 := Aside0.mk (blk_below (g := gb495) (o := .cells #[.bool t491, .int .u64 t492, .int .u64 t493] 24 (0, 0)) (by (with_reducible repeat (first | refine blk_drewN ?_ _ | refine blk_drew ?_ | refine blk_alloc ?_ _)); exact BK495.out) hb); replace HB := Aside0.mk (below_step (by repeat (first | (with_reducible first | exact HB.out | apply below_alloc | apply pw_below_drewN | apply below_drew1 | refine below_set ?_ GE458.out | refine below_set ?_ GE465.out | refine below_set ?_ GE485.out | refine below_set ?_ GE490.out | refine below_set ?_ GE495.out) | exact HB.out)) hb); clear hb hbox hg; have hnb88 := NB500_458.out; have hnc88 := NB458_500.out; have hnb89 := NB500_465.out; have hnc89 := NB465_500.out; have hnb90 := NB500_485.out; have hnc90 := NB485_500.out; have hnb91 := NB500_490.out; have hnc91 := NB490_500.out; have hnb92 := NB500_495.out; have hnc92 := NB495_500.out; have hcz93_0 : w87.cell? ⟨gb500, 0, none⟩ = some (.bool false) := (blk_cell BK500.out 0).trans rfl; have hcz93_1 : w87.cell? ⟨gb500, 1, none⟩ = some (.int .u64 0) := (blk_cell BK500.out 1).trans rfl; have hcz93_2 : w87.cell? ⟨gb500, 2, none⟩ = some (.int .u64 0) := (blk_cell BK500.out 2).trans rfl; have hfz93_0 := blk_frozen BK500.out 0; have hfz93_1 := blk_frozen BK500.out 1; have hfz93_2 := blk_frozen BK500.out 2; have hcz94_0 : w87.cell? ⟨gb458, 0, none⟩ = some (.bool a0_0) := (blk_cell BK458.out 0).trans rfl; have hcz94_1 : w87.cell? ⟨gb458, 1, none⟩ = some (.int .u64 a0_1) := (blk_cell BK458.out 1).trans rfl; have hcz94_2 : w87.cell? ⟨gb458, 2, none⟩ = some (.int .u64 a0_2) := (blk_cell BK458.out 2).trans rfl; have hfz94_0 := blk_frozen BK458.out 0; have hfz94_1 := blk_frozen BK458.out 1; have hfz94_2 := blk_frozen BK458.out 2) | (go_at_call 28; (with_reducible refine (big_CmpS.calls t496 t497 t498 a0_0 a0_1 a0_2 t501 _ A57.out).mono ?_); rintro e w95 ⟨rfl, hb⟩; replace BK458 := Aside0.mk (blk_below (g := gb458) (o := .cells #[.bool a0_0, .int .u64 a0_1, .int .u64 a0_2] 24 (0, 0)) (by (with_reducible repeat (first | refine blk_drewN ?_ _ | refine blk_drew ?_ | refine blk_alloc ?_ _)); refine blk_far ?_ NB458_500.out _; (with_reducible repeat (first | refine blk_drewN ?_ _ | refine blk_drew ?_ | refine blk_alloc ?_ _)); refine blk_far ?_ NB458_500.out _; (with_reducible repeat (first | refine blk_drewN ?_ _ | refine blk_drew ?_ | refine blk_alloc ?_ _)); refine blk_far ?_ NB458_500.out _; (with_reducible repeat (first | refine blk_drewN ?_ _ | refine blk_drew ?_ | refine blk_alloc ?_ _)); exact BK458.out) hb); replace BK465 := Aside0.mk (blk_below (g := gb465) (o := .cells #[.bool t460, .int .u64 t461, .int .u64 t462] 24 (0, 0)) (by (with_reducible repeat (first | refine blk_drewN ?_ _ | refine blk_drew ?_ | refine blk_alloc ?_ _)); refine blk_far ?_ NB465_500.out _; (with_reducible repeat (first | refine blk_drewN ?_ _ | refine blk_drew ?_ | refine blk_alloc ?_ _)); refine blk_far ?_ NB465_500.out _; (with_reducible repeat (first | refine blk_drewN ?_ _ | refine blk_drew ?_ | refine blk_alloc ?_ _)); refine blk_far ?_ NB465_500.out _; (with_reducible repeat (first | refine blk_drewN ?_ _ | refine blk_drew ?_ | refine blk_alloc ?_ _)); exact BK465.out) hb); replace BK485 := Aside0.mk (blk_below (g := gb485) (o := .cells #[.bool t481, .int .u64 t482, .int .u64 t483] 24 (0, 0)) (by (with_reducible repeat (first | refine blk_drewN ?_ _ | refine blk_drew ?_ | refine blk_alloc ?_ _)); refine blk_far ?_ NB485_500.out _; (with_reducible repeat (first | refine blk_drewN ?_ _ | refine blk_drew ?_ | refine blk_alloc ?_ _)); refine blk_far ?_ NB485_500.out _; (with_reducible repeat (first | refine blk_drewN ?_ _ | refine blk_drew ?_ | refine blk_alloc ?_ _)); refine blk_far ?_ NB485_500.out _; (with_reducible repeat (first | refine blk_drewN ?_ _ | refine blk_drew ?_ | refine blk_alloc ?_ _)); exact BK485.out) hb); replace BK490 := Aside0.mk (blk_below (g := gb490) (o := .cells #[.bool t486, .int .u64 t487, .int .u64 t488] 24 (0, 0)) (by (with_reducible repeat (first | refine blk_drewN ?_ _ | refine blk_drew ?_ | refine blk_alloc ?_ _)); refine blk_far ?_ NB490_500.out _; (with_reducible repeat (first | refine blk_drewN ?_ _ | refine blk_drew ?_ | refine blk_alloc ?_ _)); refine blk_far ?_ NB490_500.out _; (with_reducible repeat (first | refine blk_drewN ?_ _ | refine blk_drew ?_ | refine blk_alloc ?_ _)); refine blk_far ?_ NB490_500.out _; (with_reducible repeat (first | refine blk_drewN ?_ _ | refine blk_drew ?_ | refine blk_alloc ?_ _)); exact BK490.out) hb); replace BK495 := Aside0.mk (blk_below (g := gb495) (o := .cells #[.bool t491, .int .u64 t492, .int .u64 t493] 24 (0, 0)) (by (with_reducible repeat (first | refine blk_drewN ?_ _ | refine blk_drew ?_ | refine blk_alloc ?_ _)); refine blk_far ?_ NB495_500.out _; (with_reducible repeat (first | refine blk_drewN ?_ _ | refine blk_drew ?_ | refine blk_alloc ?_ _)); refine blk_far ?_ NB495_500.out _; (with_reducible repeat (first | refine blk_drewN ?_ _ | refine blk_drew ?_ | refine blk_alloc ?_ _)); refine blk_far ?_ NB495_500.out _; (with_reducible repeat (first | refine blk_drewN ?_ _ | refine blk_drew ?_ | refine blk_alloc ?_ _)); exact BK495.out) hb); replace BK500 := Aside0.mk (blk_below (g := gb500) (o := .cells #[.bool t496, .int .u64 t497, .int .u64 t498] 24 (0, 0)) (by (with_reducible repeat (first | refine blk_drewN ?_ _ | refine blk_drew ?_ | refine blk_alloc ?_ _)); refine blk_put (cs := #[.bool t496, .int .u64 t497, .int .u64 0]) ?_ 2 _ rfl; (with_reducible repeat (first | refine blk_drewN ?_ _ | refine blk_drew ?_ | refine blk_alloc ?_ _)); refine blk_put (cs := #[.bool t496, .int .u64 0, .int .u64 0]) ?_ 1 _ rfl; (with_reducible repeat (first | refine blk_drewN ?_ _ | refine blk_drew ?_ | refine blk_alloc ?_ _)); refine blk_put (cs := #[.bool false, .int .u64 0, .int .u64 0]) ?_ 0 _ rfl; (with_reducible repeat (first | refine blk_drewN ?_ _ | refine blk_drew ?_ | refine blk_alloc ?_ _)); exact BK500.out) hb); replace HB := Aside0.mk (below_step (by repeat (first | (with_reducible first | exact HB.out | apply below_alloc | apply pw_below_drewN | apply below_drew1 | refine below_set ?_ GE458.out | refine below_set ?_ GE465.out | refine below_set ?_ GE485.out | refine below_set ?_ GE490.out | refine below_set ?_ GE495.out | refine below_set ?_ GE500.out) | exact HB.out)) hb); (try clear hb); (try clear hb2); (try clear hk); (try clear hi)))
           go_ret
           exact ⟨by first | rfl | (simp [errW_none, errW_some] <;> rfl) | (simp [*, errW_none, errW_some] <;> rfl), by repeat (first | (with_reducible first | exact HB.out | apply below_alloc | apply pw_below_drewN | apply below_drew1 | refine below_set ?_ GE458.out | refine below_set ?_ GE465.out | refine below_set ?_ GE485.out | refine below_set ?_ GE490.out | refine below_set ?_ GE495.out | refine below_set ?_ GE500.out) | exact HB.out)⟩
          ·rw [if_neg c56] at H
           exact absurd H (by simp)
         ·rw [if_neg c55] at H
          exact absurd H (by simp)
        ·rw [if_neg c54] at H
         exact absurd H (by simp)
       ·rw [if_neg c53] at H
        exact absurd H (by simp)
      ·rw [if_neg c52] at H
       exact absurd H (by simp)
     ·replace c51 := Bool.eq_false_iff.mpr c51
      subst c51
      have H1 : (none) = some r := by rw [if_neg (show ¬ (false = true) by decide)] at H; exact H
      clear H
      have H := H1
      clear H1
      exact absurd H (by simp)

end Go.Proofs.Ytkoeehacildioaa.Px
