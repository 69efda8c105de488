/- Printed by a program of this session (wip/tool/px.py), over the kit's print: for each Go function a Lean function, and the proof that the machine's call answers as that function says. Conditions: none beside what the theorems state. -/
import Derived.Test.YtkoeehacildioaaPx0
import Derived.Test.YtkoeehacildioaaPx3
import Derived.Test.YtkoeehacildioaaPx4
import Derived.Test.YtkoeehacildioaaPx6
import Derived.Test.YtkoeehacildioaaPx7
import Derived.Test.YtkoeehacildioaaPx8A
namespace Go.Proofs.Ytkoeehacildioaa.Px
open Go.RowKit Go.Proofs.YtkoeehacildioaaW.PrintWords Go.Proofs.YtkoeehacildioaaW.PrintLast Go.Proofs.YtkoeehacildioaaW.PrintMore
attribute [local go_sem] max2_int min2_int max_two min_two max_three min_three max_four min_four   -- for this text's walks alone
set_option linter.unusedVariables false
set_option linter.unusedSimpArgs false


set_option maxHeartbeats 8000000 in
set_option maxRecDepth 100000 in
theorem big_Add.calls_b (a0_0 : Bool) (a0_1 : Int) (a0_2 : Int) (a1_0 : Bool) (a1_1 : Int) (a1_2 : Int) (r1 : Bool) (r2 : Int) (r3 : Int) (r4 : Int) (w : World) (h : big_Add.f a0_0 a0_1 a0_2 a1_0 a1_1 a1_2 = some (r1, r2, r3, r4)) (hpart : ¬ ((a0_0 != a1_0) = true)) :
 Calls Try.prog 16 #[.agg #[.bool a0_0, .int .u64 a0_1, .int .u64 a0_2], .agg #[.bool a1_0, .int .u64 a1_1, .int .u64 a1_2]] w fun e w' => e = .returned (.tuple #[.agg #[.bool r1, .int .u64 r2, .int .u64 r3], .int .i64 r4]) ∧ Below w.heap.size w w' := by
 have hu24 := Try.underlying24
 have hu54 := Try.underlying54
 have HB := Aside0.mk (Below.refl w.heap.size w)
 have H : ((big_of.f a0_0 a0_1 a0_2).bind fun bt126 => ((big_of.f a1_0 a1_1 a1_2).bind fun bt128 => (if (a0_0 != a1_0) = true then ((big_size_cmpS.f bt126.1 bt126.2 bt128.1 bt128.2).bind fun t132 => (if t132 < 0 then ((big_size_minusS.f bt128.1 bt128.2 bt126.1 bt126.2).bind fun bt133 => ((big_size_with.f bt133.1 bt133.2 a1_0).bind fun bt135 => (some (bt135.1, bt135.2.1, bt135.2.2, 0)))) else ((big_size_minusS.f bt126.1 bt126.2 bt128.1 bt128.2).bind fun bt138 => ((big_size_with.f bt138.1 bt138.2 a0_0).bind fun bt140 => (some (bt140.1, bt140.2.1, bt140.2.2, 0)))))) else ((bits_Add64.f bt126.2 bt128.2 0).bind fun bt143 => ((bits_Add64.f bt126.1 bt128.1 bt143.2).bind fun bt145 => (if bt145.2 > 0 then (some (false, 0, 0, 10)) else ((big_size_with.f bt145.1 bt143.1 a0_0).bind fun bt147 => (some (bt147.1, bt147.2.1, bt147.2.2, 0))))))))) = some (r1, r2, r3, r4) := h
 clear h
 replace H := Option.bind_eq_some_iff.mp H
 obtain ⟨⟨t126, t127⟩, A30, H⟩ := H
 try dsimp only at H
 have A3 := Aside0.mk A30
 clear A30
 replace H := Option.bind_eq_some_iff.mp H
 obtain ⟨⟨t128, t129⟩, A40, H⟩ := H
 try dsimp only at H
 have A4 := Aside0.mk A40
 clear A40
 have c5 := hpart
 rw [if_neg c5] at H
 have c5b0 : (a0_0 != a1_0) = false := by simpa using c5
 (try (have c5b1 : decide (a0_0 = a1_0) = true := by simpa using c5))
 (try (have c5b2 : (a0_0 == a1_0) = true := by simpa using c5))
 clear c5
 replace H := Option.bind_eq_some_iff.mp H
 obtain ⟨⟨t143, t144⟩, A800, H⟩ := H
 try dsimp only at H
 have A80 := Aside0.mk A800
 clear A800
 replace H := Option.bind_eq_some_iff.mp H
 obtain ⟨⟨t145, t146⟩, A810, H⟩ := H
 replace H : (if t146 > 0 then (some (false, 0, 0, 10)) else ((big_size_with.f t145 t143 a0_0).bind fun bt147 => (some (bt147.1, bt147.2.1, bt147.2.2, 0)))) = some (r1, r2, r3, r4) := H
 have A81 := Aside0.mk A810
 clear A810
 by_cases c82 : t146 > 0
 ·rw [if_pos c82] at H
  have c82b0 : decide (0 < t146) = true := decide_eq_true c82
  clear c82
  simp only [Option.some.injEq, Prod.mk.injEq] at H
  obtain ⟨rfl, rfl, rfl, rfl⟩ := H
  go_enter Try.func16, Try.ntmps16
  try go_wp2_with (first | ((with_reducible refine gate_dst (N := 2) rfl ?_); refine box_event ?hg (N := 2) ?hd (cs := #[.bool a0_0, .int .u64 a0_1, .int .u64 a0_2]) (t := 24) ?hr ?_; (case hd => rfl); (case hg => rfl); (case hr => first | (go_simp; done) | (go_simp; rfl)); intro gb123 hg w83 hbox hb; have BK123 := Aside0.mk (hbox); have GW123 := Aside0.mk ((by rw [hg]; exact (below_size (by repeat (first | (with_reducible first | exact HB.out | apply below_alloc | apply pw_below_drewN | apply below_drew1) | exact HB.out))) : w.heap.size ≤ gb123)); have GE123 := Aside0.mk ((by rw [hg]; exact (below_size (by repeat (first | (with_reducible first | exact HB.out | apply below_alloc | apply pw_below_drewN | apply below_drew1) | exact HB.out))) : w.heap.size ≤ gb123)); replace HB := Aside0.mk (below_step (by repeat (first | (with_reducible first | exact HB.out | apply below_alloc | apply pw_below_drewN | apply below_drew1) | exact HB.out)) hb); clear hb hbox hg) | ((with_reducible refine gate_dst (N := 3) rfl ?_); refine box_event ?hg (N := 3) ?hd (cs := #[.bool a1_0, .int .u64 a1_1, .int .u64 a1_2]) (t := 24) ?hr ?_; (case hd => rfl); (case hg => rfl); (case hr => first | (go_simp; done) | (go_simp; rfl)); intro gb124 hg w84 hbox hb; have BK124 := Aside0.mk (hbox); have GW124 := Aside0.mk ((by rw [hg]; exact (below_size (by repeat (first | (with_reducible first | exact HB.out | apply below_alloc | apply pw_below_drewN | apply below_drew1 | refine below_set ?_ GE123.out) | exact HB.out))) : w.heap.size ≤ gb124)); have GE124 := Aside0.mk ((by rw [hg]; exact (below_size (by repeat (first | (with_reducible first | exact HB.out | apply below_alloc | apply pw_below_drewN | apply below_drew1 | refine below_set ?_ GE123.out) | exact HB.out))) : w.heap.size ≤ gb124)); have NB123_124 := Aside0.mk ((by rw [hg]; exact Nat.ne_of_lt (blk_lt (g := gb123) (o := .cells #[.bool a0_0, .int .u64 a0_1, .int .u64 a0_2] 24 (0, 0)) (by (with_reducible repeat (first | refine blk_drewN ?_ _ | refine blk_drew ?_ | refine blk_alloc ?_ _)); exact BK123.out)) : gb123 ≠ gb124)); have NB124_123 := Aside0.mk ((by rw [hg]; exact Nat.ne_of_gt (blk_lt (g := gb123) (o := .cells #[.bool a0_0, .int .u64 a0_1, .int .u64 a0_2] 24 (0, 0)) (by (with_reducible repeat (first | refine blk_drewN ?_ _ | refine blk_drew ?_ | refine blk_alloc ?_ _)); exact BK123.out)) : gb124 ≠ gb123)); replace BK123 := Aside0.mk (blk_below (g := gb123) (o := .cells #[.bool a0_0, .int .u64 a0_1, .int .u64 a0_2] 24 (0, 0)) (by (with_reducible repeat (first | refine blk_drewN ?_ _ | refine blk_drew ?_ | refine blk_alloc ?_ _)); exact BK123.out) hb); replace HB := Aside0.mk (below_step (by repeat (first | (with_reducible first | exact HB.out | apply below_alloc | apply pw_below_drewN | apply below_drew1 | refine below_set ?_ GE123.out) | exact HB.out)) hb); clear hb hbox hg) | ((with_reducible refine gate_dst (N := 4) rfl ?_); refine box_event ?hg (N := 4) ?hd (cs := #[.bool false, .int .u64 0, .int .u64 0]) (t := 24) ?hr ?_; (case hd => rfl); (case hg => rfl); (case hr => first | (go_simp; done) | (go_simp; rfl)); intro gb125 hg w85 hbox hb; have BK125 := Aside0.mk (hbox); have GW125 := Aside0.mk ((by rw [hg]; exact (below_size (by repeat (first | (with_reducible first | exact HB.out | apply below_alloc | apply pw_below_drewN | apply below_drew1 | refine below_set ?_ GE123.out | refine below_set ?_ GE124.out) | exact HB.out))) : w.heap.size ≤ gb125)); have GE125 := Aside0.mk ((by rw [hg]; exact (below_size (by repeat (first | (with_reducible first | exact HB.out | apply below_alloc | apply pw_below_drewN | apply below_drew1 | refine below_set ?_ GE123.out | refine below_set ?_ GE124.out) | exact HB.out))) : w.heap.size ≤ gb125)); have NB123_125 := Aside0.mk ((by rw [hg]; exact Nat.ne_of_lt (blk_lt (g := gb123) (o := .cells #[.bool a0_0, .int .u64 a0_1, .int .u64 a0_2] 24 (0, 0)) (by (with_reducible repeat (first | refine blk_drewN ?_ _ | refine blk_drew ?_ | refine blk_alloc ?_ _)); exact BK123.out)) : gb123 ≠ gb125)); have NB125_123 := Aside0.mk ((by rw [hg]; exact Nat.ne_of_gt (blk_lt (g := gb123) (o := .cells #[.bool a0_0, .int .u64 a0_1, .int .u64 a0_2] 24 (0, 0)) (by (with_reducible repeat (first | refine blk_drewN ?_ _ | refine blk_drew ?_ | refine blk_alloc ?_ _)); exact BK123.out)) : gb125 ≠ gb123)); have NB124_125 := Aside0.mk ((by rw [hg]; exact Nat.ne_of_lt (blk_lt (g := gb124) (o := .cells #[.bool a1_0, .int .u64 a1_1, .int .u64 a1_2] 24 (0, 0)) (by (with_reducible repeat (first | refine blk_drewN ?_ _ | refine blk_drew ?_ | refine blk_alloc ?_ _)); exact BK124.out)) : gb124 ≠ gb125)); have NB125_124 := Aside0.mk ((by rw [hg]; exact Nat.ne_of_gt (blk_lt (g := gb124) (o := .cells #[.bool a1_0, .int .u64 a1_1, .int .u64 a1_2] 24 (0, 0)) (by (with_reducible repeat (first | refine blk_drewN ?_ _ | refine blk_drew ?_ | refine blk_alloc ?_ _)); exact BK124.out)) : gb125 ≠ gb124)); replace BK123 := Aside0.mk (blk_below (g := gb123) (o := .cells #[.bool a0_0, .int .u64 a0_1, .int .u64 a0_2] 24 (0, 0)) (by (with_reducible repeat (first | refine blk_drewN ?_ _ | refine blk_drew ?_ | refine blk_alloc ?_ _)); exact BK123.out) hb); replace BK124 := Aside0.mk (blk_below (g := gb124) (o := .cells #[.bool a1_0, .int .u64 a1_1, .int .u64 a1_2] 24 (0, 0)) (by (with_reducible repeat (first | refine blk_drewN ?_ _ | refine blk_drew ?_ | refine blk_alloc ?_ _)); exact BK124.out) hb); replace HB := Aside0.mk (below_step (by repeat (first | (with_reducible first | exact HB.out | apply below_alloc | apply pw_below_drewN | apply below_drew1 | refine below_set ?_ GE123.out | refine below_set ?_ GE124.out) | exact HB.out)) hb); clear hb hbox hg))
  replace BK123 := Aside0.mk (blk_drew BK123.out)
  replace BK124 := Aside0.mk (blk_drew BK124.out)
  replace BK125 := Aside0.mk (blk_drew BK125.out)
  replace HB := Aside0.mk (below_drew1 HB.out)
  refine start_ (n := 8) (S := fun w' => w'.cell? ⟨gb123, 0, none⟩ = some (.bool a0_0) ∧ w'.cell? ⟨gb123, 1, none⟩ = some (.int .u64 a0_1) ∧ w'.cell? ⟨gb123, 2, none⟩ = some (.int .u64 a0_2) ∧ w'.cell? ⟨gb124, 0, none⟩ = some (.bool a1_0) ∧ w'.cell? ⟨gb124, 1, none⟩ = some (.int .u64 a1_1) ∧ w'.cell? ⟨gb124, 2, none⟩ = some (.int .u64 a1_2)) (ds := []) #[N,N,N,N,N,N,N,N] (by kernel_rfl) rfl rfl ⟨(blk_cell BK123.out 0).trans rfl, (blk_cell BK123.out 1).trans rfl, (blk_cell BK123.out 2).trans rfl, (blk_cell BK124.out 0).trans rfl, (blk_cell BK124.out 1).trans rfl, (blk_cell BK124.out 2).trans rfl⟩ (fun hHeld => ?_); refine with_tabW big_Add.tab1 big_Add.bits1 (fun HT_ HW_ => ?_)
  generalize w85.drew = w86 at BK123 BK124 BK125 HB hHeld ⊢
  refine take_ (i := 0) (N := some 11) (v := ?_) (a' := ?_) #[Y,N,N,N,N,N,N,N] rfl rfl (take_ofW HT_.out HW_.out (by kernel_rfl)) (fun _ _ _ h => h) (Or.inl ⟨by rfl, ?_⟩) hHeld ?_ ?_
  rotate_left
  ·rintro w' ⟨s0, s1, s2, s3, s4, s5⟩
   go_simp
   with_reducible rfl
  rotate_left
  ·simp only [Act.put, sA, sB, sC, i64_w, i32_w]
   rfl
  refine take_ (i := 2) (N := some 13) (v := ?_) (a' := ?_) #[Y,N,Y,N,N,N,N,N] rfl rfl (take_ofW HT_.out HW_.out (by kernel_rfl)) (fun _ _ _ h => h) (Or.inl ⟨by rfl, ?_⟩) hHeld ?_ ?_
  rotate_left
  ·rintro w' ⟨s0, s1, s2, s3, s4, s5⟩
   go_simp
   with_reducible rfl
  rotate_left
  ·simp only [Act.put, sA, sB, sC, i64_w, i32_w]
   rfl
  refine join_ (σ := Nat × Nat) 2 #[Y,Y,Y,Y,Y,Y,N,N] (fun s_ => [(12, .agg #[.int .u64 t126, .int .u64 t127]), (14, .agg #[.int .u64 t128, .int .u64 t129]), (6, .pointer (some ⟨s_.1, 0, none⟩)), (7, .pointer (some ⟨s_.2, 0, none⟩))]) (fun s_ w' => (w'.cell? ⟨gb123, 0, none⟩ = some (.bool a0_0) ∧ w'.cell? ⟨gb123, 1, none⟩ = some (.int .u64 a0_1) ∧ w'.cell? ⟨gb123, 2, none⟩ = some (.int .u64 a0_2) ∧ w'.cell? ⟨gb124, 0, none⟩ = some (.bool a1_0) ∧ w'.cell? ⟨gb124, 1, none⟩ = some (.int .u64 a1_1) ∧ w'.cell? ⟨gb124, 2, none⟩ = some (.int .u64 a1_2)) ∧ (w'.heap[gb123]? = some (.cells #[.bool a0_0, .int .u64 a0_1, .int .u64 a0_2] 24 (0, 0))) ∧ (w'.heap[gb124]? = some (.cells #[.bool a1_0, .int .u64 a1_1, .int .u64 a1_2] 24 (0, 0))) ∧ (w'.heap[gb125]? = some (.cells #[.bool false, .int .u64 0, .int .u64 0] 24 (0, 0))) ∧ (w'.heap[s_.1]? = some (.cells #[.int .u64 0, .int .u64 0] 54 (0, 0))) ∧ (w'.heap[s_.2]? = some (.cells #[.int .u64 0, .int .u64 0] 54 (0, 0))) ∧ (w.heap.size ≤ s_.1) ∧ (w.heap.size ≤ s_.1) ∧ (gb123 ≠ s_.1) ∧ (s_.1 ≠ gb123) ∧ (gb124 ≠ s_.1) ∧ (s_.1 ≠ gb124) ∧ (gb125 ≠ s_.1) ∧ (s_.1 ≠ gb125) ∧ (s_.2 ≠ s_.1) ∧ (s_.1 ≠ s_.2) ∧ (w.heap.size ≤ s_.2) ∧ (w.heap.size ≤ s_.2) ∧ (gb123 ≠ s_.2) ∧ (s_.2 ≠ gb123) ∧ (gb124 ≠ s_.2) ∧ (s_.2 ≠ gb124) ∧ (gb125 ≠ s_.2) ∧ (s_.2 ≠ gb125) ∧ (Below w.heap.size w w')) ?_ ?_
  rotate_left
  ·intro hJ1_3_4_5
   refine join_ (σ := Nat) 3 #[Y,Y,Y,Y,Y,N,N,N] (fun s_ => [(12, .agg #[.int .u64 t126, .int .u64 t127]), (14, .agg #[.int .u64 t128, .int .u64 t129]), (6, .pointer (some ⟨s_, 0, none⟩))]) (fun s_ w' => (w'.cell? ⟨gb123, 0, none⟩ = some (.bool a0_0) ∧ w'.cell? ⟨gb123, 1, none⟩ = some (.int .u64 a0_1) ∧ w'.cell? ⟨gb123, 2, none⟩ = some (.int .u64 a0_2) ∧ w'.cell? ⟨gb124, 0, none⟩ = some (.bool a1_0) ∧ w'.cell? ⟨gb124, 1, none⟩ = some (.int .u64 a1_1) ∧ w'.cell? ⟨gb124, 2, none⟩ = some (.int .u64 a1_2)) ∧ (w'.heap[gb123]? = some (.cells #[.bool a0_0, .int .u64 a0_1, .int .u64 a0_2] 24 (0, 0))) ∧ (w'.heap[gb124]? = some (.cells #[.bool a1_0, .int .u64 a1_1, .int .u64 a1_2] 24 (0, 0))) ∧ (w'.heap[gb125]? = some (.cells #[.bool false, .int .u64 0, .int .u64 0] 24 (0, 0))) ∧ (w'.heap[s_]? = some (.cells #[.int .u64 0, .int .u64 0] 54 (0, 0))) ∧ (w.heap.size ≤ s_) ∧ (w.heap.size ≤ s_) ∧ (gb123 ≠ s_) ∧ (s_ ≠ gb123) ∧ (gb124 ≠ s_) ∧ (s_ ≠ gb124) ∧ (gb125 ≠ s_) ∧ (s_ ≠ gb125) ∧ (Below w.heap.size w w')) ?_ ?_
   rotate_left
   ·intro hJ1_3_4
    refine join_ (σ := Nat) 3 #[Y,Y,Y,Y,N,Y,N,N] (fun s_ => [(12, .agg #[.int .u64 t126, .int .u64 t127]), (14, .agg #[.int .u64 t128, .int .u64 t129]), (7, .pointer (some ⟨s_, 0, none⟩))]) (fun s_ w' => (w'.cell? ⟨gb123, 0, none⟩ = some (.bool a0_0) ∧ w'.cell? ⟨gb123, 1, none⟩ = some (.int .u64 a0_1) ∧ w'.cell? ⟨gb123, 2, none⟩ = some (.int .u64 a0_2) ∧ w'.cell? ⟨gb124, 0, none⟩ = some (.bool a1_0) ∧ w'.cell? ⟨gb124, 1, none⟩ = some (.int .u64 a1_1) ∧ w'.cell? ⟨gb124, 2, none⟩ = some (.int .u64 a1_2)) ∧ (w'.heap[gb123]? = some (.cells #[.bool a0_0, .int .u64 a0_1, .int .u64 a0_2] 24 (0, 0))) ∧ (w'.heap[gb124]? = some (.cells #[.bool a1_0, .int .u64 a1_1, .int .u64 a1_2] 24 (0, 0))) ∧ (w'.heap[gb125]? = some (.cells #[.bool false, .int .u64 0, .int .u64 0] 24 (0, 0))) ∧ (w'.heap[s_]? = some (.cells #[.int .u64 0, .int .u64 0] 54 (0, 0))) ∧ (w.heap.size ≤ s_) ∧ (w.heap.size ≤ s_) ∧ (gb123 ≠ s_) ∧ (s_ ≠ gb123) ∧ (gb124 ≠ s_) ∧ (s_ ≠ gb124) ∧ (gb125 ≠ s_) ∧ (s_ ≠ gb125) ∧ (Below w.heap.size w w')) ?_ ?_
    rotate_left
    ·intro hJ1_3_5
     refine join_ (σ := Nat × Nat) 3 #[Y,Y,Y,N,Y,Y,N,N] (fun s_ => [(12, .agg #[.int .u64 t126, .int .u64 t127]), (6, .pointer (some ⟨s_.1, 0, none⟩)), (7, .pointer (some ⟨s_.2, 0, none⟩))]) (fun s_ w' => (w'.cell? ⟨gb123, 0, none⟩ = some (.bool a0_0) ∧ w'.cell? ⟨gb123, 1, none⟩ = some (.int .u64 a0_1) ∧ w'.cell? ⟨gb123, 2, none⟩ = some (.int .u64 a0_2) ∧ w'.cell? ⟨gb124, 0, none⟩ = some (.bool a1_0) ∧ w'.cell? ⟨gb124, 1, none⟩ = some (.int .u64 a1_1) ∧ w'.cell? ⟨gb124, 2, none⟩ = some (.int .u64 a1_2)) ∧ (w'.heap[gb123]? = some (.cells #[.bool a0_0, .int .u64 a0_1, .int .u64 a0_2] 24 (0, 0))) ∧ (w'.heap[gb124]? = some (.cells #[.bool a1_0, .int .u64 a1_1, .int .u64 a1_2] 24 (0, 0))) ∧ (w'.heap[gb125]? = some (.cells #[.bool false, .int .u64 0, .int .u64 0] 24 (0, 0))) ∧ (w'.heap[s_.1]? = some (.cells #[.int .u64 0, .int .u64 0] 54 (0, 0))) ∧ (w'.heap[s_.2]? = some (.cells #[.int .u64 0, .int .u64 0] 54 (0, 0))) ∧ (w.heap.size ≤ s_.1) ∧ (w.heap.size ≤ s_.1) ∧ (gb123 ≠ s_.1) ∧ (s_.1 ≠ gb123) ∧ (gb124 ≠ s_.1) ∧ (s_.1 ≠ gb124) ∧ (gb125 ≠ s_.1) ∧ (s_.1 ≠ gb125) ∧ (s_.2 ≠ s_.1) ∧ (s_.1 ≠ s_.2) ∧ (w.heap.size ≤ s_.2) ∧ (w.heap.size ≤ s_.2) ∧ (gb123 ≠ s_.2) ∧ (s_.2 ≠ gb123) ∧ (gb124 ≠ s_.2) ∧ (s_.2 ≠ gb124) ∧ (gb125 ≠ s_.2) ∧ (s_.2 ≠ gb125) ∧ (Below w.heap.size w w')) ?_ ?_
     rotate_left
     ·intro hJ1_4_5
      refine join_ (σ := Unit) 4 #[Y,Y,Y,Y,N,N,N,N] (fun s_ => [(12, .agg #[.int .u64 t126, .int .u64 t127]), (14, .agg #[.int .u64 t128, .int .u64 t129])]) (fun s_ w' => (w'.cell? ⟨gb123, 0, none⟩ = some (.bool a0_0) ∧ w'.cell? ⟨gb123, 1, none⟩ = some (.int .u64 a0_1) ∧ w'.cell? ⟨gb123, 2, none⟩ = some (.int .u64 a0_2) ∧ w'.cell? ⟨gb124, 0, none⟩ = some (.bool a1_0) ∧ w'.cell? ⟨gb124, 1, none⟩ = some (.int .u64 a1_1) ∧ w'.cell? ⟨gb124, 2, none⟩ = some (.int .u64 a1_2)) ∧ (w'.heap[gb123]? = some (.cells #[.bool a0_0, .int .u64 a0_1, .int .u64 a0_2] 24 (0, 0))) ∧ (w'.heap[gb124]? = some (.cells #[.bool a1_0, .int .u64 a1_1, .int .u64 a1_2] 24 (0, 0))) ∧ (w'.heap[gb125]? = some (.cells #[.bool false, .int .u64 0, .int .u64 0] 24 (0, 0))) ∧ (Below w.heap.size w w')) ?_ ?_
      rotate_left
      ·intro hJ1_3
       refine join_ (σ := Nat) 4 #[Y,Y,Y,N,Y,N,N,N] (fun s_ => [(12, .agg #[.int .u64 t126, .int .u64 t127]), (6, .pointer (some ⟨s_, 0, none⟩))]) (fun s_ w' => (w'.cell? ⟨gb123, 0, none⟩ = some (.bool a0_0) ∧ w'.cell? ⟨gb123, 1, none⟩ = some (.int .u64 a0_1) ∧ w'.cell? ⟨gb123, 2, none⟩ = some (.int .u64 a0_2) ∧ w'.cell? ⟨gb124, 0, none⟩ = some (.bool a1_0) ∧ w'.cell? ⟨gb124, 1, none⟩ = some (.int .u64 a1_1) ∧ w'.cell? ⟨gb124, 2, none⟩ = some (.int .u64 a1_2)) ∧ (w'.heap[gb123]? = some (.cells #[.bool a0_0, .int .u64 a0_1, .int .u64 a0_2] 24 (0, 0))) ∧ (w'.heap[gb124]? = some (.cells #[.bool a1_0, .int .u64 a1_1, .int .u64 a1_2] 24 (0, 0))) ∧ (w'.heap[gb125]? = some (.cells #[.bool false, .int .u64 0, .int .u64 0] 24 (0, 0))) ∧ (w'.heap[s_]? = some (.cells #[.int .u64 0, .int .u64 0] 54 (0, 0))) ∧ (w.heap.size ≤ s_) ∧ (w.heap.size ≤ s_) ∧ (gb123 ≠ s_) ∧ (s_ ≠ gb123) ∧ (gb124 ≠ s_) ∧ (s_ ≠ gb124) ∧ (gb125 ≠ s_) ∧ (s_ ≠ gb125) ∧ (Below w.heap.size w w')) ?_ ?_
       rotate_left
       ·intro hJ1_4
        refine join_ (σ := Nat) 4 #[Y,Y,Y,N,N,Y,N,N] (fun s_ => [(12, .agg #[.int .u64 t126, .int .u64 t127]), (7, .pointer (some ⟨s_, 0, none⟩))]) (fun s_ w' => (w'.cell? ⟨gb123, 0, none⟩ = some (.bool a0_0) ∧ w'.cell? ⟨gb123, 1, none⟩ = some (.int .u64 a0_1) ∧ w'.cell? ⟨gb123, 2, none⟩ = some (.int .u64 a0_2) ∧ w'.cell? ⟨gb124, 0, none⟩ = some (.bool a1_0) ∧ w'.cell? ⟨gb124, 1, none⟩ = some (.int .u64 a1_1) ∧ w'.cell? ⟨gb124, 2, none⟩ = some (.int .u64 a1_2)) ∧ (w'.heap[gb123]? = some (.cells #[.bool a0_0, .int .u64 a0_1, .int .u64 a0_2] 24 (0, 0))) ∧ (w'.heap[gb124]? = some (.cells #[.bool a1_0, .int .u64 a1_1, .int .u64 a1_2] 24 (0, 0))) ∧ (w'.heap[gb125]? = some (.cells #[.bool false, .int .u64 0, .int .u64 0] 24 (0, 0))) ∧ (w'.heap[s_]? = some (.cells #[.int .u64 0, .int .u64 0] 54 (0, 0))) ∧ (w.heap.size ≤ s_) ∧ (w.heap.size ≤ s_) ∧ (gb123 ≠ s_) ∧ (s_ ≠ gb123) ∧ (gb124 ≠ s_) ∧ (s_ ≠ gb124) ∧ (gb125 ≠ s_) ∧ (s_ ≠ gb125) ∧ (Below w.heap.size w w')) ?_ ?_
        rotate_left
        ·intro hJ1_5
         refine join_ (σ := Nat × Nat) 4 #[Y,N,Y,N,Y,Y,N,N] (fun s_ => [(6, .pointer (some ⟨s_.1, 0, none⟩)), (7, .pointer (some ⟨s_.2, 0, none⟩))]) (fun s_ w' => (w'.cell? ⟨gb123, 0, none⟩ = some (.bool a0_0) ∧ w'.cell? ⟨gb123, 1, none⟩ = some (.int .u64 a0_1) ∧ w'.cell? ⟨gb123, 2, none⟩ = some (.int .u64 a0_2) ∧ w'.cell? ⟨gb124, 0, none⟩ = some (.bool a1_0) ∧ w'.cell? ⟨gb124, 1, none⟩ = some (.int .u64 a1_1) ∧ w'.cell? ⟨gb124, 2, none⟩ = some (.int .u64 a1_2)) ∧ (w'.heap[gb123]? = some (.cells #[.bool a0_0, .int .u64 a0_1, .int .u64 a0_2] 24 (0, 0))) ∧ (w'.heap[gb124]? = some (.cells #[.bool a1_0, .int .u64 a1_1, .int .u64 a1_2] 24 (0, 0))) ∧ (w'.heap[gb125]? = some (.cells #[.bool false, .int .u64 0, .int .u64 0] 24 (0, 0))) ∧ (w'.heap[s_.1]? = some (.cells #[.int .u64 0, .int .u64 0] 54 (0, 0))) ∧ (w'.heap[s_.2]? = some (.cells #[.int .u64 0, .int .u64 0] 54 (0, 0))) ∧ (w.heap.size ≤ s_.1) ∧ (w.heap.size ≤ s_.1) ∧ (gb123 ≠ s_.1) ∧ (s_.1 ≠ gb123) ∧ (gb124 ≠ s_.1) ∧ (s_.1 ≠ gb124) ∧ (gb125 ≠ s_.1) ∧ (s_.1 ≠ gb125) ∧ (s_.2 ≠ s_.1) ∧ (s_.1 ≠ s_.2) ∧ (w.heap.size ≤ s_.2) ∧ (w.heap.size ≤ s_.2) ∧ (gb123 ≠ s_.2) ∧ (s_.2 ≠ gb123) ∧ (gb124 ≠ s_.2) ∧ (s_.2 ≠ gb124) ∧ (gb125 ≠ s_.2) ∧ (s_.2 ≠ gb125) ∧ (Below w.heap.size w w')) ?_ ?_
         rotate_left
         ·intro hJ4_5
          refine join_ (σ := Unit) 5 #[Y,Y,Y,N,N,N,N,N] (fun s_ => [(12, .agg #[.int .u64 t126, .int .u64 t127])]) (fun s_ w' => (w'.cell? ⟨gb123, 0, none⟩ = some (.bool a0_0) ∧ w'.cell? ⟨gb123, 1, none⟩ = some (.int .u64 a0_1) ∧ w'.cell? ⟨gb123, 2, none⟩ = some (.int .u64 a0_2) ∧ w'.cell? ⟨gb124, 0, none⟩ = some (.bool a1_0) ∧ w'.cell? ⟨gb124, 1, none⟩ = some (.int .u64 a1_1) ∧ w'.cell? ⟨gb124, 2, none⟩ = some (.int .u64 a1_2)) ∧ (w'.heap[gb123]? = some (.cells #[.bool a0_0, .int .u64 a0_1, .int .u64 a0_2] 24 (0, 0))) ∧ (w'.heap[gb124]? = some (.cells #[.bool a1_0, .int .u64 a1_1, .int .u64 a1_2] 24 (0, 0))) ∧ (w'.heap[gb125]? = some (.cells #[.bool false, .int .u64 0, .int .u64 0] 24 (0, 0))) ∧ (Below w.heap.size w w')) ?_ ?_
          rotate_left
          ·intro hJ1
           refine join_ (σ := Nat) 5 #[Y,N,Y,N,Y,N,N,N] (fun s_ => [(6, .pointer (some ⟨s_, 0, none⟩))]) (fun s_ w' => (w'.cell? ⟨gb123, 0, none⟩ = some (.bool a0_0) ∧ w'.cell? ⟨gb123, 1, none⟩ = some (.int .u64 a0_1) ∧ w'.cell? ⟨gb123, 2, none⟩ = some (.int .u64 a0_2) ∧ w'.cell? ⟨gb124, 0, none⟩ = some (.bool a1_0) ∧ w'.cell? ⟨gb124, 1, none⟩ = some (.int .u64 a1_1) ∧ w'.cell? ⟨gb124, 2, none⟩ = some (.int .u64 a1_2)) ∧ (w'.heap[gb123]? = some (.cells #[.bool a0_0, .int .u64 a0_1, .int .u64 a0_2] 24 (0, 0))) ∧ (w'.heap[gb124]? = some (.cells #[.bool a1_0, .int .u64 a1_1, .int .u64 a1_2] 24 (0, 0))) ∧ (w'.heap[gb125]? = some (.cells #[.bool false, .int .u64 0, .int .u64 0] 24 (0, 0))) ∧ (w'.heap[s_]? = some (.cells #[.int .u64 0, .int .u64 0] 54 (0, 0))) ∧ (w.heap.size ≤ s_) ∧ (w.heap.size ≤ s_) ∧ (gb123 ≠ s_) ∧ (s_ ≠ gb123) ∧ (gb124 ≠ s_) ∧ (s_ ≠ gb124) ∧ (gb125 ≠ s_) ∧ (s_ ≠ gb125) ∧ (Below w.heap.size w w')) ?_ ?_
           rotate_left
           ·intro hJ4
            refine join_ (σ := Nat) 5 #[Y,N,Y,N,N,Y,N,N] (fun s_ => [(7, .pointer (some ⟨s_, 0, none⟩))]) (fun s_ w' => (w'.cell? ⟨gb123, 0, none⟩ = some (.bool a0_0) ∧ w'.cell? ⟨gb123, 1, none⟩ = some (.int .u64 a0_1) ∧ w'.cell? ⟨gb123, 2, none⟩ = some (.int .u64 a0_2) ∧ w'.cell? ⟨gb124, 0, none⟩ = some (.bool a1_0) ∧ w'.cell? ⟨gb124, 1, none⟩ = some (.int .u64 a1_1) ∧ w'.cell? ⟨gb124, 2, none⟩ = some (.int .u64 a1_2)) ∧ (w'.heap[gb123]? = some (.cells #[.bool a0_0, .int .u64 a0_1, .int .u64 a0_2] 24 (0, 0))) ∧ (w'.heap[gb124]? = some (.cells #[.bool a1_0, .int .u64 a1_1, .int .u64 a1_2] 24 (0, 0))) ∧ (w'.heap[gb125]? = some (.cells #[.bool false, .int .u64 0, .int .u64 0] 24 (0, 0))) ∧ (w'.heap[s_]? = some (.cells #[.int .u64 0, .int .u64 0] 54 (0, 0))) ∧ (w.heap.size ≤ s_) ∧ (w.heap.size ≤ s_) ∧ (gb123 ≠ s_) ∧ (s_ ≠ gb123) ∧ (gb124 ≠ s_) ∧ (s_ ≠ gb124) ∧ (gb125 ≠ s_) ∧ (s_ ≠ gb125) ∧ (Below w.heap.size w w')) ?_ ?_
            rotate_left
            ·intro hJ5
             refine three_ (i := 1) (j := 4) (k := 5) (Ni := some 12) (Nj := some 6) (Nk := some 7) #[Y,Y,Y,N,N,N,N,N] #[Y,N,Y,N,Y,N,N,N] #[Y,N,Y,N,N,Y,N,N] rfl rfl rfl rfl rfl rfl (three_of HT_.out (by kernel_rfl)) (by decide) (by decide) (by decide) (fun K hK => ?_) (fun K hK => ?_) (fun K hK => ?_)
             ·skip
              refine goes_ Try.func45 (by kernel_rfl) rfl #[.agg #[.bool a0_0, .int .u64 a0_1, .int .u64 a0_2]] (by rfl) rfl rfl (by (try simp only [List.map_toArray, List.map_cons, List.map_nil]); first | done | rfl | (simp only [List.length_drop, List.length_take]; rfl)) ?_
              with_reducible refine (big_of.calls a0_0 a0_1 a0_2 t126 t127 _ A3.out).mono ?_
              rintro e w87 ⟨rfl, hb⟩
              refine ⟨_, rfl, ?_⟩
              replace BK123 := bbZ BK123 hb
              replace BK124 := bbZ BK124 hb
              replace BK125 := bbZ BK125 hb
              replace HB := Aside0.mk (below_step HB.out hb)
              (try clear hb)
              (try clear hb2)
              (try clear hk)
              (try clear hi)
              refine hK.out _ _ ⟨(blk_cell BK123.out 0).trans rfl, (blk_cell BK123.out 1).trans rfl, (blk_cell BK123.out 2).trans rfl, (blk_cell BK124.out 0).trans rfl, (blk_cell BK124.out 1).trans rfl, (blk_cell BK124.out 2).trans rfl⟩ (fun hHeld => ?_)
              clear hK K
              refine norm_ (a' := ?_) ?_ ?_
              rotate_left
              ·show Act.put _ (some 12) _ = _
               simp only [Act.put, sA, sB, sC, i64_w, i32_w]
               rfl
              exact norm_ (by simp only [putAll, Act.put, sA, sB, sC] <;> rfl) (hJ1 () _ ⟨hHeld, BK123.out, BK124.out, BK125.out, (by repeat (first | (with_reducible first | exact HB.out | apply below_alloc | apply pw_below_drewN | apply below_drew1 | refine below_set ?_ GE123.out | refine below_set ?_ GE124.out | refine below_set ?_ GE125.out) | exact HB.out))⟩)
             ·skip
              refine box_step ?hg (N := 6) ?hd (cs := #[.int .u64 0, .int .u64 0]) (t := 54) ?hr ?_; (case hd => rfl); (case hg => rfl); (case hr => first | (go_simp; done) | (go_simp; rfl))
              intro gb130 hg w87 hbox hb
              have BK130 := Aside0.mk (hbox)
              have GW130 := szZ HB hg
              have GE130 := szZ HB hg
              have NB123_130 := nlZ BK123 hg
              have NB130_123 := ngZ BK123 hg
              have NB124_130 := nlZ BK124 hg
              have NB130_124 := ngZ BK124 hg
              have NB125_130 := nlZ BK125 hg
              have NB130_125 := ngZ BK125 hg
              replace BK123 := bbZ BK123 hb
              replace BK124 := bbZ BK124 hb
              replace BK125 := bbZ BK125 hb
              replace HB := Aside0.mk (below_step HB.out hb)
              clear hb hbox hg
              refine hK.out _ _ ⟨(blk_cell BK123.out 0).trans rfl, (blk_cell BK123.out 1).trans rfl, (blk_cell BK123.out 2).trans rfl, (blk_cell BK124.out 0).trans rfl, (blk_cell BK124.out 1).trans rfl, (blk_cell BK124.out 2).trans rfl⟩ (fun hHeld => ?_)
              clear hK K
              refine norm_ (a' := ?_) ?_ ?_
              rotate_left
              ·show Act.put _ (some 6) _ = _
               simp only [Act.put, sA, sB, sC, i64_w, i32_w]
               rfl
              exact norm_ (by simp only [putAll, Act.put, sA, sB, sC] <;> rfl) (hJ4 (gb130) _ ⟨hHeld, BK123.out, BK124.out, BK125.out, BK130.out, GW130.out, GE130.out, NB123_130.out, NB130_123.out, NB124_130.out, NB130_124.out, NB125_130.out, NB130_125.out, (by repeat (first | (with_reducible first | exact HB.out | apply below_alloc | apply pw_below_drewN | apply below_drew1 | refine below_set ?_ GE123.out | refine below_set ?_ GE124.out | refine below_set ?_ GE125.out | refine below_set ?_ GE130.out) | exact HB.out))⟩)
             ·skip
              refine box_step ?hg (N := 7) ?hd (cs := #[.int .u64 0, .int .u64 0]) (t := 54) ?hr ?_; (case hd => rfl); (case hg => rfl); (case hr => first | (go_simp; done) | (go_simp; rfl))
              intro gb131 hg w87 hbox hb
              have BK131 := Aside0.mk (hbox)
              have GW131 := szZ HB hg
              have GE131 := szZ HB hg
              have NB123_131 := nlZ BK123 hg
              have NB131_123 := ngZ BK123 hg
              have NB124_131 := nlZ BK124 hg
              have NB131_124 := ngZ BK124 hg
              have NB125_131 := nlZ BK125 hg
              have NB131_125 := ngZ BK125 hg
              replace BK123 := bbZ BK123 hb
              replace BK124 := bbZ BK124 hb
              replace BK125 := bbZ BK125 hb
              replace HB := Aside0.mk (below_step HB.out hb)
              clear hb hbox hg
              refine hK.out _ _ ⟨(blk_cell BK123.out 0).trans rfl, (blk_cell BK123.out 1).trans rfl, (blk_cell BK123.out 2).trans rfl, (blk_cell BK124.out 0).trans rfl, (blk_cell BK124.out 1).trans rfl, (blk_cell BK124.out 2).trans rfl⟩ (fun hHeld => ?_)
              clear hK K
              refine norm_ (a' := ?_) ?_ ?_
              rotate_left
              ·show Act.put _ (some 7) _ = _
               simp only [Act.put, sA, sB, sC, i64_w, i32_w]
               rfl
              exact norm_ (by simp only [putAll, Act.put, sA, sB, sC] <;> rfl) (hJ5 (gb131) _ ⟨hHeld, BK123.out, BK124.out, BK125.out, BK131.out, GW131.out, GE131.out, NB123_131.out, NB131_123.out, NB124_131.out, NB131_124.out, NB125_131.out, NB131_125.out, (by repeat (first | (with_reducible first | exact HB.out | apply below_alloc | apply pw_below_drewN | apply below_drew1 | refine below_set ?_ GE123.out | refine below_set ?_ GE124.out | refine below_set ?_ GE125.out | refine below_set ?_ GE131.out) | exact HB.out))⟩)
            ·skip
             rintro gb131 w88 ⟨hS_, h0_, h1_, h2_, h3_, h4_, h5_, h6_, h7_, h8_, h9_, h10_, h11_, h12_⟩
             have BK131 := Aside0.mk h3_
             have GW131 := Aside0.mk h4_
             have GE131 := Aside0.mk h5_
             have NB123_131 := Aside0.mk h6_
             have NB131_123 := Aside0.mk h7_
             have NB124_131 := Aside0.mk h8_
             have NB131_124 := Aside0.mk h9_
             have NB125_131 := Aside0.mk h10_
             have NB131_125 := Aside0.mk h11_
             replace BK123 := Aside0.mk h0_
             replace BK124 := Aside0.mk h1_
             replace BK125 := Aside0.mk h2_
             replace HB := Aside0.mk h12_
             clear h0_ h1_ h2_ h3_ h4_ h5_ h6_ h7_ h8_ h9_ h10_ h11_ h12_
             have hHeld : w88.cell? ⟨gb123, 0, none⟩ = some (.bool a0_0) ∧ w88.cell? ⟨gb123, 1, none⟩ = some (.int .u64 a0_1) ∧ w88.cell? ⟨gb123, 2, none⟩ = some (.int .u64 a0_2) ∧ w88.cell? ⟨gb124, 0, none⟩ = some (.bool a1_0) ∧ w88.cell? ⟨gb124, 1, none⟩ = some (.int .u64 a1_1) ∧ w88.cell? ⟨gb124, 2, none⟩ = some (.int .u64 a1_2) := hS_
             refine norm_ (a' := ?_) ?_ ?_
             rotate_left
             ·simp only [putAll, Act.put, sA, sB, sC]
              rfl
             refine two_ (i := 1) (j := 4) (Ni := some 12) (Nj := some 6) #[Y,Y,Y,N,N,Y,N,N] #[Y,N,Y,N,Y,Y,N,N] rfl rfl rfl rfl (two_of HT_.out (by kernel_rfl)) (by decide) (by decide) (fun K hK => ?_) (fun K hK => ?_)
             ·skip
              refine goes_ Try.func45 (by kernel_rfl) rfl #[.agg #[.bool a0_0, .int .u64 a0_1, .int .u64 a0_2]] (by rfl) rfl rfl (by (try simp only [List.map_toArray, List.map_cons, List.map_nil]); first | done | rfl | (simp only [List.length_drop, List.length_take]; rfl)) ?_
              with_reducible refine (big_of.calls a0_0 a0_1 a0_2 t126 t127 _ A3.out).mono ?_
              rintro e w89 ⟨rfl, hb⟩
              refine ⟨_, rfl, ?_⟩
              replace BK123 := bbZ BK123 hb
              replace BK124 := bbZ BK124 hb
              replace BK125 := bbZ BK125 hb
              replace BK131 := bbZ BK131 hb
              replace HB := Aside0.mk (below_step HB.out hb)
              (try clear hb)
              (try clear hb2)
              (try clear hk)
              (try clear hi)
              refine hK.out _ _ ⟨(blk_cell BK123.out 0).trans rfl, (blk_cell BK123.out 1).trans rfl, (blk_cell BK123.out 2).trans rfl, (blk_cell BK124.out 0).trans rfl, (blk_cell BK124.out 1).trans rfl, (blk_cell BK124.out 2).trans rfl⟩ (fun hHeld => ?_)
              clear hK K
              refine norm_ (a' := ?_) ?_ ?_
              rotate_left
              ·show Act.put _ (some 12) _ = _
               simp only [Act.put, sA, sB, sC, i64_w, i32_w]
               rfl
              exact norm_ (by simp only [putAll, Act.put, sA, sB, sC] <;> rfl) (hJ1_5 (gb131) _ ⟨hHeld, BK123.out, BK124.out, BK125.out, BK131.out, GW131.out, GE131.out, NB123_131.out, NB131_123.out, NB124_131.out, NB131_124.out, NB125_131.out, NB131_125.out, (by repeat (first | (with_reducible first | exact HB.out | apply below_alloc | apply pw_below_drewN | apply below_drew1 | refine below_set ?_ GE123.out | refine below_set ?_ GE124.out | refine below_set ?_ GE125.out | refine below_set ?_ GE131.out) | exact HB.out))⟩)
             ·skip
              refine box_step ?hg (N := 6) ?hd (cs := #[.int .u64 0, .int .u64 0]) (t := 54) ?hr ?_; (case hd => rfl); (case hg => rfl); (case hr => first | (go_simp; done) | (go_simp; rfl))
              intro gb130 hg w89 hbox hb
              have BK130 := Aside0.mk (hbox)
              have GW130 := szZ HB hg
              have GE130 := szZ HB hg
              have NB123_130 := nlZ BK123 hg
              have NB130_123 := ngZ BK123 hg
              have NB124_130 := nlZ BK124 hg
              have NB130_124 := ngZ BK124 hg
              have NB125_130 := nlZ BK125 hg
              have NB130_125 := ngZ BK125 hg
              have NB131_130 := nlZ BK131 hg
              have NB130_131 := ngZ BK131 hg
              replace BK123 := bbZ BK123 hb
              replace BK124 := bbZ BK124 hb
              replace BK125 := bbZ BK125 hb
              replace BK131 := bbZ BK131 hb
              replace HB := Aside0.mk (below_step HB.out hb)
              clear hb hbox hg
              refine hK.out _ _ ⟨(blk_cell BK123.out 0).trans rfl, (blk_cell BK123.out 1).trans rfl, (blk_cell BK123.out 2).trans rfl, (blk_cell BK124.out 0).trans rfl, (blk_cell BK124.out 1).trans rfl, (blk_cell BK124.out 2).trans rfl⟩ (fun hHeld => ?_)
              clear hK K
              refine norm_ (a' := ?_) ?_ ?_
              rotate_left
              ·show Act.put _ (some 6) _ = _
               simp only [Act.put, sA, sB, sC, i64_w, i32_w]
               rfl
              exact norm_ (by simp only [putAll, Act.put, sA, sB, sC] <;> rfl) (hJ4_5 (gb130, gb131) _ ⟨hHeld, BK123.out, BK124.out, BK125.out, BK130.out, BK131.out, GW130.out, GE130.out, NB123_130.out, NB130_123.out, NB124_130.out, NB130_124.out, NB125_130.out, NB130_125.out, NB131_130.out, NB130_131.out, GW131.out, GE131.out, NB123_131.out, NB131_123.out, NB124_131.out, NB131_124.out, NB125_131.out, NB131_125.out, (by repeat (first | (with_reducible first | exact HB.out | apply below_alloc | apply pw_below_drewN | apply below_drew1 | refine below_set ?_ GE123.out | refine below_set ?_ GE124.out | refine below_set ?_ GE125.out | refine below_set ?_ GE131.out | refine below_set ?_ GE130.out) | exact HB.out))⟩)
           ·skip
            rintro gb130 w88 ⟨hS_, h0_, h1_, h2_, h3_, h4_, h5_, h6_, h7_, h8_, h9_, h10_, h11_, h12_⟩
            have BK130 := Aside0.mk h3_
            have GW130 := Aside0.mk h4_
            have GE130 := Aside0.mk h5_
            have NB123_130 := Aside0.mk h6_
            have NB130_123 := Aside0.mk h7_
            have NB124_130 := Aside0.mk h8_
            have NB130_124 := Aside0.mk h9_
            have NB125_130 := Aside0.mk h10_
            have NB130_125 := Aside0.mk h11_
            replace BK123 := Aside0.mk h0_
            replace BK124 := Aside0.mk h1_
            replace BK125 := Aside0.mk h2_
            replace HB := Aside0.mk h12_
            clear h0_ h1_ h2_ h3_ h4_ h5_ h6_ h7_ h8_ h9_ h10_ h11_ h12_
            have hHeld : w88.cell? ⟨gb123, 0, none⟩ = some (.bool a0_0) ∧ w88.cell? ⟨gb123, 1, none⟩ = some (.int .u64 a0_1) ∧ w88.cell? ⟨gb123, 2, none⟩ = some (.int .u64 a0_2) ∧ w88.cell? ⟨gb124, 0, none⟩ = some (.bool a1_0) ∧ w88.cell? ⟨gb124, 1, none⟩ = some (.int .u64 a1_1) ∧ w88.cell? ⟨gb124, 2, none⟩ = some (.int .u64 a1_2) := hS_
            refine norm_ (a' := ?_) ?_ ?_
            rotate_left
            ·simp only [putAll, Act.put, sA, sB, sC]
             rfl
            refine two_ (i := 1) (j := 5) (Ni := some 12) (Nj := some 7) #[Y,Y,Y,N,Y,N,N,N] #[Y,N,Y,N,Y,Y,N,N] rfl rfl rfl rfl (two_of HT_.out (by kernel_rfl)) (by decide) (by decide) (fun K hK => ?_) (fun K hK => ?_)
            ·skip
             refine goes_ Try.func45 (by kernel_rfl) rfl #[.agg #[.bool a0_0, .int .u64 a0_1, .int .u64 a0_2]] (by rfl) rfl rfl (by (try simp only [List.map_toArray, List.map_cons, List.map_nil]); first | done | rfl | (simp only [List.length_drop, List.length_take]; rfl)) ?_
             with_reducible refine (big_of.calls a0_0 a0_1 a0_2 t126 t127 _ A3.out).mono ?_
             rintro e w89 ⟨rfl, hb⟩
             refine ⟨_, rfl, ?_⟩
             replace BK123 := bbZ BK123 hb
             replace BK124 := bbZ BK124 hb
             replace BK125 := bbZ BK125 hb
             replace BK130 := bbZ BK130 hb
             replace HB := Aside0.mk (below_step HB.out hb)
             (try clear hb)
             (try clear hb2)
             (try clear hk)
             (try clear hi)
             refine hK.out _ _ ⟨(blk_cell BK123.out 0).trans rfl, (blk_cell BK123.out 1).trans rfl, (blk_cell BK123.out 2).trans rfl, (blk_cell BK124.out 0).trans rfl, (blk_cell BK124.out 1).trans rfl, (blk_cell BK124.out 2).trans rfl⟩ (fun hHeld => ?_)
             clear hK K
             refine norm_ (a' := ?_) ?_ ?_
             rotate_left
             ·show Act.put _ (some 12) _ = _
              simp only [Act.put, sA, sB, sC, i64_w, i32_w]
              rfl
             exact norm_ (by simp only [putAll, Act.put, sA, sB, sC] <;> rfl) (hJ1_4 (gb130) _ ⟨hHeld, BK123.out, BK124.out, BK125.out, BK130.out, GW130.out, GE130.out, NB123_130.out, NB130_123.out, NB124_130.out, NB130_124.out, NB125_130.out, NB130_125.out, (by repeat (first | (with_reducible first | exact HB.out | apply below_alloc | apply pw_below_drewN | apply below_drew1 | refine below_set ?_ GE123.out | refine below_set ?_ GE124.out | refine below_set ?_ GE125.out | refine below_set ?_ GE130.out) | exact HB.out))⟩)
            ·skip
             refine box_step ?hg (N := 7) ?hd (cs := #[.int .u64 0, .int .u64 0]) (t := 54) ?hr ?_; (case hd => rfl); (case hg => rfl); (case hr => first | (go_simp; done) | (go_simp; rfl))
             intro gb131 hg w89 hbox hb
             have BK131 := Aside0.mk (hbox)
             have GW131 := szZ HB hg
             have GE131 := szZ HB hg
             have NB123_131 := nlZ BK123 hg
             have NB131_123 := ngZ BK123 hg
             have NB124_131 := nlZ BK124 hg
             have NB131_124 := ngZ BK124 hg
             have NB125_131 := nlZ BK125 hg
             have NB131_125 := ngZ BK125 hg
             have NB130_131 := nlZ BK130 hg
             have NB131_130 := ngZ BK130 hg
             replace BK123 := bbZ BK123 hb
             replace BK124 := bbZ BK124 hb
             replace BK125 := bbZ BK125 hb
             replace BK130 := bbZ BK130 hb
             replace HB := Aside0.mk (below_step HB.out hb)
             clear hb hbox hg
             refine hK.out _ _ ⟨(blk_cell BK123.out 0).trans rfl, (blk_cell BK123.out 1).trans rfl, (blk_cell BK123.out 2).trans rfl, (blk_cell BK124.out 0).trans rfl, (blk_cell BK124.out 1).trans rfl, (blk_cell BK124.out 2).trans rfl⟩ (fun hHeld => ?_)
             clear hK K
             refine norm_ (a' := ?_) ?_ ?_
             rotate_left
             ·show Act.put _ (some 7) _ = _
              simp only [Act.put, sA, sB, sC, i64_w, i32_w]
              rfl
             exact norm_ (by simp only [putAll, Act.put, sA, sB, sC] <;> rfl) (hJ4_5 (gb130, gb131) _ ⟨hHeld, BK123.out, BK124.out, BK125.out, BK130.out, BK131.out, GW130.out, GE130.out, NB123_130.out, NB130_123.out, NB124_130.out, NB130_124.out, NB125_130.out, NB130_125.out, NB131_130.out, NB130_131.out, GW131.out, GE131.out, NB123_131.out, NB131_123.out, NB124_131.out, NB131_124.out, NB125_131.out, NB131_125.out, (by repeat (first | (with_reducible first | exact HB.out | apply below_alloc | apply pw_below_drewN | apply below_drew1 | refine below_set ?_ GE123.out | refine below_set ?_ GE124.out | refine below_set ?_ GE125.out | refine below_set ?_ GE130.out | refine below_set ?_ GE131.out) | exact HB.out))⟩)
          ·skip
           rintro _ w88 ⟨hS_, h0_, h1_, h2_, h3_⟩
           replace BK123 := Aside0.mk h0_
           replace BK124 := Aside0.mk h1_
           replace BK125 := Aside0.mk h2_
           replace HB := Aside0.mk h3_
           clear h0_ h1_ h2_ h3_
           have hHeld : w88.cell? ⟨gb123, 0, none⟩ = some (.bool a0_0) ∧ w88.cell? ⟨gb123, 1, none⟩ = some (.int .u64 a0_1) ∧ w88.cell? ⟨gb123, 2, none⟩ = some (.int .u64 a0_2) ∧ w88.cell? ⟨gb124, 0, none⟩ = some (.bool a1_0) ∧ w88.cell? ⟨gb124, 1, none⟩ = some (.int .u64 a1_1) ∧ w88.cell? ⟨gb124, 2, none⟩ = some (.int .u64 a1_2) := hS_
           refine norm_ (a' := ?_) ?_ ?_
           rotate_left
           ·simp only [putAll, Act.put, sA, sB, sC]
            rfl
           refine three_ (i := 3) (j := 4) (k := 5) (Ni := some 14) (Nj := some 6) (Nk := some 7) #[Y,Y,Y,Y,N,N,N,N] #[Y,Y,Y,N,Y,N,N,N] #[Y,Y,Y,N,N,Y,N,N] rfl rfl rfl rfl rfl rfl (three_of HT_.out (by kernel_rfl)) (by decide) (by decide) (by decide) (fun K hK => ?_) (fun K hK => ?_) (fun K hK => ?_)
           ·skip
            refine goes_ Try.func45 (by kernel_rfl) rfl #[.agg #[.bool a1_0, .int .u64 a1_1, .int .u64 a1_2]] (by rfl) rfl rfl (by (try simp only [List.map_toArray, List.map_cons, List.map_nil]); first | done | rfl | (simp only [List.length_drop, List.length_take]; rfl)) ?_
            with_reducible refine (big_of.calls a1_0 a1_1 a1_2 t128 t129 _ A4.out).mono ?_
            rintro e w89 ⟨rfl, hb⟩
            refine ⟨_, rfl, ?_⟩
            replace BK123 := bbZ BK123 hb
            replace BK124 := bbZ BK124 hb
            replace BK125 := bbZ BK125 hb
            replace HB := Aside0.mk (below_step HB.out hb)
            (try clear hb)
            (try clear hb2)
            (try clear hk)
            (try clear hi)
            refine hK.out _ _ ⟨(blk_cell BK123.out 0).trans rfl, (blk_cell BK123.out 1).trans rfl, (blk_cell BK123.out 2).trans rfl, (blk_cell BK124.out 0).trans rfl, (blk_cell BK124.out 1).trans rfl, (blk_cell BK124.out 2).trans rfl⟩ (fun hHeld => ?_)
            clear hK K
            refine norm_ (a' := ?_) ?_ ?_
            rotate_left
            ·show Act.put _ (some 14) _ = _
             simp only [Act.put, sA, sB, sC, i64_w, i32_w]
             rfl
            exact norm_ (by simp only [putAll, Act.put, sA, sB, sC] <;> rfl) (hJ1_3 () _ ⟨hHeld, BK123.out, BK124.out, BK125.out, (by repeat (first | (with_reducible first | exact HB.out | apply below_alloc | apply pw_below_drewN | apply below_drew1 | refine below_set ?_ GE123.out | refine below_set ?_ GE124.out | refine below_set ?_ GE125.out) | exact HB.out))⟩)
           ·skip
            refine box_step ?hg (N := 6) ?hd (cs := #[.int .u64 0, .int .u64 0]) (t := 54) ?hr ?_; (case hd => rfl); (case hg => rfl); (case hr => first | (go_simp; done) | (go_simp; rfl))
            intro gb130 hg w89 hbox hb
            have BK130 := Aside0.mk (hbox)
            have GW130 := szZ HB hg
            have GE130 := szZ HB hg
            have NB123_130 := nlZ BK123 hg
            have NB130_123 := ngZ BK123 hg
            have NB124_130 := nlZ BK124 hg
            have NB130_124 := ngZ BK124 hg
            have NB125_130 := nlZ BK125 hg
            have NB130_125 := ngZ BK125 hg
            replace BK123 := bbZ BK123 hb
            replace BK124 := bbZ BK124 hb
            replace BK125 := bbZ BK125 hb
            replace HB := Aside0.mk (below_step HB.out hb)
            clear hb hbox hg
            refine hK.out _ _ ⟨(blk_cell BK123.out 0).trans rfl, (blk_cell BK123.out 1).trans rfl, (blk_cell BK123.out 2).trans rfl, (blk_cell BK124.out 0).trans rfl, (blk_cell BK124.out 1).trans rfl, (blk_cell BK124.out 2).trans rfl⟩ (fun hHeld => ?_)
            clear hK K
            refine norm_ (a' := ?_) ?_ ?_
            rotate_left
            ·show Act.put _ (some 6) _ = _
             simp only [Act.put, sA, sB, sC, i64_w, i32_w]
             rfl
            exact norm_ (by simp only [putAll, Act.put, sA, sB, sC] <;> rfl) (hJ1_4 (gb130) _ ⟨hHeld, BK123.out, BK124.out, BK125.out, BK130.out, GW130.out, GE130.out, NB123_130.out, NB130_123.out, NB124_130.out, NB130_124.out, NB125_130.out, NB130_125.out, (by repeat (first | (with_reducible first | exact HB.out | apply below_alloc | apply pw_below_drewN | apply below_drew1 | refine below_set ?_ GE123.out | refine below_set ?_ GE124.out | refine below_set ?_ GE125.out | refine below_set ?_ GE130.out) | exact HB.out))⟩)
           ·skip
            refine box_step ?hg (N := 7) ?hd (cs := #[.int .u64 0, .int .u64 0]) (t := 54) ?hr ?_; (case hd => rfl); (case hg => rfl); (case hr => first | (go_simp; done) | (go_simp; rfl))
            intro gb131 hg w89 hbox hb
            have BK131 := Aside0.mk (hbox)
            have GW131 := szZ HB hg
            have GE131 := szZ HB hg
            have NB123_131 := nlZ BK123 hg
            have NB131_123 := ngZ BK123 hg
            have NB124_131 := nlZ BK124 hg
            have NB131_124 := ngZ BK124 hg
            have NB125_131 := nlZ BK125 hg
            have NB131_125 := ngZ BK125 hg
            replace BK123 := bbZ BK123 hb
            replace BK124 := bbZ BK124 hb
            replace BK125 := bbZ BK125 hb
            replace HB := Aside0.mk (below_step HB.out hb)
            clear hb hbox hg
            refine hK.out _ _ ⟨(blk_cell BK123.out 0).trans rfl, (blk_cell BK123.out 1).trans rfl, (blk_cell BK123.out 2).trans rfl, (blk_cell BK124.out 0).trans rfl, (blk_cell BK124.out 1).trans rfl, (blk_cell BK124.out 2).trans rfl⟩ (fun hHeld => ?_)
            clear hK K
            refine norm_ (a' := ?_) ?_ ?_
            rotate_left
            ·show Act.put _ (some 7) _ = _
             simp only [Act.put, sA, sB, sC, i64_w, i32_w]
             rfl
            exact norm_ (by simp only [putAll, Act.put, sA, sB, sC] <;> rfl) (hJ1_5 (gb131) _ ⟨hHeld, BK123.out, BK124.out, BK125.out, BK131.out, GW131.out, GE131.out, NB123_131.out, NB131_123.out, NB124_131.out, NB131_124.out, NB125_131.out, NB131_125.out, (by repeat (first | (with_reducible first | exact HB.out | apply below_alloc | apply pw_below_drewN | apply below_drew1 | refine below_set ?_ GE123.out | refine below_set ?_ GE124.out | refine below_set ?_ GE125.out | refine below_set ?_ GE131.out) | exact HB.out))⟩)
         ·skip
          rintro ⟨gb130, gb131⟩ w89 ⟨hS_, h0_, h1_, h2_, h3_, h4_, h5_, h6_, h7_, h8_, h9_, h10_, h11_, h12_, h13_, h14_, h15_, h16_, h17_, h18_, h19_, h20_, h21_, h22_, h23_⟩
          have BK130 := Aside0.mk h3_
          have BK131 := Aside0.mk h4_
          have GW130 := Aside0.mk h5_
          have GE130 := Aside0.mk h6_
          have NB123_130 := Aside0.mk h7_
          have NB130_123 := Aside0.mk h8_
          have NB124_130 := Aside0.mk h9_
          have NB130_124 := Aside0.mk h10_
          have NB125_130 := Aside0.mk h11_
          have NB130_125 := Aside0.mk h12_
          have NB131_130 := Aside0.mk h13_
          have NB130_131 := Aside0.mk h14_
          have GW131 := Aside0.mk h15_
          have GE131 := Aside0.mk h16_
          have NB123_131 := Aside0.mk h17_
          have NB131_123 := Aside0.mk h18_
          have NB124_131 := Aside0.mk h19_
          have NB131_124 := Aside0.mk h20_
          have NB125_131 := Aside0.mk h21_
          have NB131_125 := Aside0.mk h22_
          replace BK123 := Aside0.mk h0_
          replace BK124 := Aside0.mk h1_
          replace BK125 := Aside0.mk h2_
          replace HB := Aside0.mk h23_
          clear h0_ h1_ h2_ h3_ h4_ h5_ h6_ h7_ h8_ h9_ h10_ h11_ h12_ h13_ h14_ h15_ h16_ h17_ h18_ h19_ h20_ h21_ h22_ h23_
          have hHeld : w89.cell? ⟨gb123, 0, none⟩ = some (.bool a0_0) ∧ w89.cell? ⟨gb123, 1, none⟩ = some (.int .u64 a0_1) ∧ w89.cell? ⟨gb123, 2, none⟩ = some (.int .u64 a0_2) ∧ w89.cell? ⟨gb124, 0, none⟩ = some (.bool a1_0) ∧ w89.cell? ⟨gb124, 1, none⟩ = some (.int .u64 a1_1) ∧ w89.cell? ⟨gb124, 2, none⟩ = some (.int .u64 a1_2) := hS_
          refine norm_ (a' := ?_) ?_ ?_
          rotate_left
          ·simp only [putAll, Act.put, sA, sB, sC]
           rfl
          refine one_ (i := 1) (N := some 12) #[Y,Y,Y,N,Y,Y,N,N] rfl rfl (one_of HT_.out (by kernel_rfl)) (by decide) (fun K hK => ?_)
          refine goes_ Try.func45 (by kernel_rfl) rfl #[.agg #[.bool a0_0, .int .u64 a0_1, .int .u64 a0_2]] (by rfl) rfl rfl (by (try simp only [List.map_toArray, List.map_cons, List.map_nil]); first | done | rfl | (simp only [List.length_drop, List.length_take]; rfl)) ?_
          with_reducible refine (big_of.calls a0_0 a0_1 a0_2 t126 t127 _ A3.out).mono ?_
          rintro e w90 ⟨rfl, hb⟩
          refine ⟨_, rfl, ?_⟩
          replace BK123 := bbZ BK123 hb
          replace BK124 := bbZ BK124 hb
          replace BK125 := bbZ BK125 hb
          replace BK130 := bbZ BK130 hb
          replace BK131 := bbZ BK131 hb
          replace HB := Aside0.mk (below_step HB.out hb)
          (try clear hb)
          (try clear hb2)
          (try clear hk)
          (try clear hi)
          refine hK.out _ _ ⟨(blk_cell BK123.out 0).trans rfl, (blk_cell BK123.out 1).trans rfl, (blk_cell BK123.out 2).trans rfl, (blk_cell BK124.out 0).trans rfl, (blk_cell BK124.out 1).trans rfl, (blk_cell BK124.out 2).trans rfl⟩ (fun hHeld => ?_)
          clear hK K
          refine norm_ (a' := ?_) ?_ ?_
          rotate_left
          ·show Act.put _ (some 12) _ = _
           simp only [Act.put, sA, sB, sC, i64_w, i32_w]
           rfl
          exact norm_ (by simp only [putAll, Act.put, sA, sB, sC] <;> rfl) (hJ1_4_5 (gb130, gb131) _ ⟨hHeld, BK123.out, BK124.out, BK125.out, BK130.out, BK131.out, GW130.out, GE130.out, NB123_130.out, NB130_123.out, NB124_130.out, NB130_124.out, NB125_130.out, NB130_125.out, NB131_130.out, NB130_131.out, GW131.out, GE131.out, NB123_131.out, NB131_123.out, NB124_131.out, NB131_124.out, NB125_131.out, NB131_125.out, (by repeat (first | (with_reducible first | exact HB.out | apply below_alloc | apply pw_below_drewN | apply below_drew1 | refine below_set ?_ GE123.out | refine below_set ?_ GE124.out | refine below_set ?_ GE125.out | refine below_set ?_ GE130.out | refine below_set ?_ GE131.out) | exact HB.out))⟩)
        ·skip
         rintro gb131 w89 ⟨hS_, h0_, h1_, h2_, h3_, h4_, h5_, h6_, h7_, h8_, h9_, h10_, h11_, h12_⟩
         have BK131 := Aside0.mk h3_
         have GW131 := Aside0.mk h4_
         have GE131 := Aside0.mk h5_
         have NB123_131 := Aside0.mk h6_
         have NB131_123 := Aside0.mk h7_
         have NB124_131 := Aside0.mk h8_
         have NB131_124 := Aside0.mk h9_
         have NB125_131 := Aside0.mk h10_
         have NB131_125 := Aside0.mk h11_
         replace BK123 := Aside0.mk h0_
         replace BK124 := Aside0.mk h1_
         replace BK125 := Aside0.mk h2_
         replace HB := Aside0.mk h12_
         clear h0_ h1_ h2_ h3_ h4_ h5_ h6_ h7_ h8_ h9_ h10_ h11_ h12_
         have hHeld : w89.cell? ⟨gb123, 0, none⟩ = some (.bool a0_0) ∧ w89.cell? ⟨gb123, 1, none⟩ = some (.int .u64 a0_1) ∧ w89.cell? ⟨gb123, 2, none⟩ = some (.int .u64 a0_2) ∧ w89.cell? ⟨gb124, 0, none⟩ = some (.bool a1_0) ∧ w89.cell? ⟨gb124, 1, none⟩ = some (.int .u64 a1_1) ∧ w89.cell? ⟨gb124, 2, none⟩ = some (.int .u64 a1_2) := hS_
         refine norm_ (a' := ?_) ?_ ?_
         rotate_left
         ·simp only [putAll, Act.put, sA, sB, sC]
          rfl
         refine two_ (i := 3) (j := 4) (Ni := some 14) (Nj := some 6) #[Y,Y,Y,Y,N,Y,N,N] #[Y,Y,Y,N,Y,Y,N,N] rfl rfl rfl rfl (two_of HT_.out (by kernel_rfl)) (by decide) (by decide) (fun K hK => ?_) (fun K hK => ?_)
         ·skip
          refine goes_ Try.func45 (by kernel_rfl) rfl #[.agg #[.bool a1_0, .int .u64 a1_1, .int .u64 a1_2]] (by rfl) rfl rfl (by (try simp only [List.map_toArray, List.map_cons, List.map_nil]); first | done | rfl | (simp only [List.length_drop, List.length_take]; rfl)) ?_
          with_reducible refine (big_of.calls a1_0 a1_1 a1_2 t128 t129 _ A4.out).mono ?_
          rintro e w90 ⟨rfl, hb⟩
          refine ⟨_, rfl, ?_⟩
          replace BK123 := bbZ BK123 hb
          replace BK124 := bbZ BK124 hb
          replace BK125 := bbZ BK125 hb
          replace BK131 := bbZ BK131 hb
          replace HB := Aside0.mk (below_step HB.out hb)
          (try clear hb)
          (try clear hb2)
          (try clear hk)
          (try clear hi)
          refine hK.out _ _ ⟨(blk_cell BK123.out 0).trans rfl, (blk_cell BK123.out 1).trans rfl, (blk_cell BK123.out 2).trans rfl, (blk_cell BK124.out 0).trans rfl, (blk_cell BK124.out 1).trans rfl, (blk_cell BK124.out 2).trans rfl⟩ (fun hHeld => ?_)
          clear hK K
          refine norm_ (a' := ?_) ?_ ?_
          rotate_left
          ·show Act.put _ (some 14) _ = _
           simp only [Act.put, sA, sB, sC, i64_w, i32_w]
           rfl
          exact norm_ (by simp only [putAll, Act.put, sA, sB, sC] <;> rfl) (hJ1_3_5 (gb131) _ ⟨hHeld, BK123.out, BK124.out, BK125.out, BK131.out, GW131.out, GE131.out, NB123_131.out, NB131_123.out, NB124_131.out, NB131_124.out, NB125_131.out, NB131_125.out, (by repeat (first | (with_reducible first | exact HB.out | apply below_alloc | apply pw_below_drewN | apply below_drew1 | refine below_set ?_ GE123.out | refine below_set ?_ GE124.out | refine below_set ?_ GE125.out | refine below_set ?_ GE131.out) | exact HB.out))⟩)
         ·skip
          refine box_step ?hg (N := 6) ?hd (cs := #[.int .u64 0, .int .u64 0]) (t := 54) ?hr ?_; (case hd => rfl); (case hg => rfl); (case hr => first | (go_simp; done) | (go_simp; rfl))
          intro gb130 hg w90 hbox hb
          have BK130 := Aside0.mk (hbox)
          have GW130 := szZ HB hg
          have GE130 := szZ HB hg
          have NB123_130 := nlZ BK123 hg
          have NB130_123 := ngZ BK123 hg
          have NB124_130 := nlZ BK124 hg
          have NB130_124 := ngZ BK124 hg
          have NB125_130 := nlZ BK125 hg
          have NB130_125 := ngZ BK125 hg
          have NB131_130 := nlZ BK131 hg
          have NB130_131 := ngZ BK131 hg
          replace BK123 := bbZ BK123 hb
          replace BK124 := bbZ BK124 hb
          replace BK125 := bbZ BK125 hb
          replace BK131 := bbZ BK131 hb
          replace HB := Aside0.mk (below_step HB.out hb)
          clear hb hbox hg
          refine hK.out _ _ ⟨(blk_cell BK123.out 0).trans rfl, (blk_cell BK123.out 1).trans rfl, (blk_cell BK123.out 2).trans rfl, (blk_cell BK124.out 0).trans rfl, (blk_cell BK124.out 1).trans rfl, (blk_cell BK124.out 2).trans rfl⟩ (fun hHeld => ?_)
          clear hK K
          refine norm_ (a' := ?_) ?_ ?_
          rotate_left
          ·show Act.put _ (some 6) _ = _
           simp only [Act.put, sA, sB, sC, i64_w, i32_w]
           rfl
          exact norm_ (by simp only [putAll, Act.put, sA, sB, sC] <;> rfl) (hJ1_4_5 (gb130, gb131) _ ⟨hHeld, BK123.out, BK124.out, BK125.out, BK130.out, BK131.out, GW130.out, GE130.out, NB123_130.out, NB130_123.out, NB124_130.out, NB130_124.out, NB125_130.out, NB130_125.out, NB131_130.out, NB130_131.out, GW131.out, GE131.out, NB123_131.out, NB131_123.out, NB124_131.out, NB131_124.out, NB125_131.out, NB131_125.out, (by repeat (first | (with_reducible first | exact HB.out | apply below_alloc | apply pw_below_drewN | apply below_drew1 | refine below_set ?_ GE123.out | refine below_set ?_ GE124.out | refine below_set ?_ GE125.out | refine below_set ?_ GE131.out | refine below_set ?_ GE130.out) | exact HB.out))⟩)
       ·skip
        rintro gb130 w89 ⟨hS_, h0_, h1_, h2_, h3_, h4_, h5_, h6_, h7_, h8_, h9_, h10_, h11_, h12_⟩
        have BK130 := Aside0.mk h3_
        have GW130 := Aside0.mk h4_
        have GE130 := Aside0.mk h5_
        have NB123_130 := Aside0.mk h6_
        have NB130_123 := Aside0.mk h7_
        have NB124_130 := Aside0.mk h8_
        have NB130_124 := Aside0.mk h9_
        have NB125_130 := Aside0.mk h10_
        have NB130_125 := Aside0.mk h11_
        replace BK123 := Aside0.mk h0_
        replace BK124 := Aside0.mk h1_
        replace BK125 := Aside0.mk h2_
        replace HB := Aside0.mk h12_
        clear h0_ h1_ h2_ h3_ h4_ h5_ h6_ h7_ h8_ h9_ h10_ h11_ h12_
        have hHeld : w89.cell? ⟨gb123, 0, none⟩ = some (.bool a0_0) ∧ w89.cell? ⟨gb123, 1, none⟩ = some (.int .u64 a0_1) ∧ w89.cell? ⟨gb123, 2, none⟩ = some (.int .u64 a0_2) ∧ w89.cell? ⟨gb124, 0, none⟩ = some (.bool a1_0) ∧ w89.cell? ⟨gb124, 1, none⟩ = some (.int .u64 a1_1) ∧ w89.cell? ⟨gb124, 2, none⟩ = some (.int .u64 a1_2) := hS_
        refine norm_ (a' := ?_) ?_ ?_
        rotate_left
        ·simp only [putAll, Act.put, sA, sB, sC]
         rfl
        refine two_ (i := 3) (j := 5) (Ni := some 14) (Nj := some 7) #[Y,Y,Y,Y,Y,N,N,N] #[Y,Y,Y,N,Y,Y,N,N] rfl rfl rfl rfl (two_of HT_.out (by kernel_rfl)) (by decide) (by decide) (fun K hK => ?_) (fun K hK => ?_)
        ·skip
         refine goes_ Try.func45 (by kernel_rfl) rfl #[.agg #[.bool a1_0, .int .u64 a1_1, .int .u64 a1_2]] (by rfl) rfl rfl (by (try simp only [List.map_toArray, List.map_cons, List.map_nil]); first | done | rfl | (simp only [List.length_drop, List.length_take]; rfl)) ?_
         with_reducible refine (big_of.calls a1_0 a1_1 a1_2 t128 t129 _ A4.out).mono ?_
         rintro e w90 ⟨rfl, hb⟩
         refine ⟨_, rfl, ?_⟩
         replace BK123 := bbZ BK123 hb
         replace BK124 := bbZ BK124 hb
         replace BK125 := bbZ BK125 hb
         replace BK130 := bbZ BK130 hb
         replace HB := Aside0.mk (below_step HB.out hb)
         (try clear hb)
         (try clear hb2)
         (try clear hk)
         (try clear hi)
         refine hK.out _ _ ⟨(blk_cell BK123.out 0).trans rfl, (blk_cell BK123.out 1).trans rfl, (blk_cell BK123.out 2).trans rfl, (blk_cell BK124.out 0).trans rfl, (blk_cell BK124.out 1).trans rfl, (blk_cell BK124.out 2).trans rfl⟩ (fun hHeld => ?_)
         clear hK K
         refine norm_ (a' := ?_) ?_ ?_
         rotate_left
         ·show Act.put _ (some 14) _ = _
          simp only [Act.put, sA, sB, sC, i64_w, i32_w]
          rfl
         exact norm_ (by simp only [putAll, Act.put, sA, sB, sC] <;> rfl) (hJ1_3_4 (gb130) _ ⟨hHeld, BK123.out, BK124.out, BK125.out, BK130.out, GW130.out, GE130.out, NB123_130.out, NB130_123.out, NB124_130.out, NB130_124.out, NB125_130.out, NB130_125.out, (by repeat (first | (with_reducible first | exact HB.out | apply below_alloc | apply pw_below_drewN | apply below_drew1 | refine below_set ?_ GE123.out | refine below_set ?_ GE124.out | refine below_set ?_ GE125.out | refine below_set ?_ GE130.out) | exact HB.out))⟩)
        ·skip
         refine box_step ?hg (N := 7) ?hd (cs := #[.int .u64 0, .int .u64 0]) (t := 54) ?hr ?_; (case hd => rfl); (case hg => rfl); (case hr => first | (go_simp; done) | (go_simp; rfl))
         intro gb131 hg w90 hbox hb
         have BK131 := Aside0.mk (hbox)
         have GW131 := szZ HB hg
         have GE131 := szZ HB hg
         have NB123_131 := nlZ BK123 hg
         have NB131_123 := ngZ BK123 hg
         have NB124_131 := nlZ BK124 hg
         have NB131_124 := ngZ BK124 hg
         have NB125_131 := nlZ BK125 hg
         have NB131_125 := ngZ BK125 hg
         have NB130_131 := nlZ BK130 hg
         have NB131_130 := ngZ BK130 hg
         replace BK123 := bbZ BK123 hb
         replace BK124 := bbZ BK124 hb
         replace BK125 := bbZ BK125 hb
         replace BK130 := bbZ BK130 hb
         replace HB := Aside0.mk (below_step HB.out hb)
         clear hb hbox hg
         refine hK.out _ _ ⟨(blk_cell BK123.out 0).trans rfl, (blk_cell BK123.out 1).trans rfl, (blk_cell BK123.out 2).trans rfl, (blk_cell BK124.out 0).trans rfl, (blk_cell BK124.out 1).trans rfl, (blk_cell BK124.out 2).trans rfl⟩ (fun hHeld => ?_)
         clear hK K
         refine norm_ (a' := ?_) ?_ ?_
         rotate_left
         ·show Act.put _ (some 7) _ = _
          simp only [Act.put, sA, sB, sC, i64_w, i32_w]
          rfl
         exact norm_ (by simp only [putAll, Act.put, sA, sB, sC] <;> rfl) (hJ1_4_5 (gb130, gb131) _ ⟨hHeld, BK123.out, BK124.out, BK125.out, BK130.out, BK131.out, GW130.out, GE130.out, NB123_130.out, NB130_123.out, NB124_130.out, NB130_124.out, NB125_130.out, NB130_125.out, NB131_130.out, NB130_131.out, GW131.out, GE131.out, NB123_131.out, NB131_123.out, NB124_131.out, NB131_124.out, NB125_131.out, NB131_125.out, (by repeat (first | (with_reducible first | exact HB.out | apply below_alloc | apply pw_below_drewN | apply below_drew1 | refine below_set ?_ GE123.out | refine below_set ?_ GE124.out | refine below_set ?_ GE125.out | refine below_set ?_ GE130.out | refine below_set ?_ GE131.out) | exact HB.out))⟩)
      ·skip
       rintro _ w89 ⟨hS_, h0_, h1_, h2_, h3_⟩
       replace BK123 := Aside0.mk h0_
       replace BK124 := Aside0.mk h1_
       replace BK125 := Aside0.mk h2_
       replace HB := Aside0.mk h3_
       clear h0_ h1_ h2_ h3_
       have hHeld : w89.cell? ⟨gb123, 0, none⟩ = some (.bool a0_0) ∧ w89.cell? ⟨gb123, 1, none⟩ = some (.int .u64 a0_1) ∧ w89.cell? ⟨gb123, 2, none⟩ = some (.int .u64 a0_2) ∧ w89.cell? ⟨gb124, 0, none⟩ = some (.bool a1_0) ∧ w89.cell? ⟨gb124, 1, none⟩ = some (.int .u64 a1_1) ∧ w89.cell? ⟨gb124, 2, none⟩ = some (.int .u64 a1_2) := hS_
       refine norm_ (a' := ?_) ?_ ?_
       rotate_left
       ·simp only [putAll, Act.put, sA, sB, sC]
        rfl
       refine two_ (i := 4) (j := 5) (Ni := some 6) (Nj := some 7) #[Y,Y,Y,Y,Y,N,N,N] #[Y,Y,Y,Y,N,Y,N,N] rfl rfl rfl rfl (two_of HT_.out (by kernel_rfl)) (by decide) (by decide) (fun K hK => ?_) (fun K hK => ?_)
       ·skip
        refine box_step ?hg (N := 6) ?hd (cs := #[.int .u64 0, .int .u64 0]) (t := 54) ?hr ?_; (case hd => rfl); (case hg => rfl); (case hr => first | (go_simp; done) | (go_simp; rfl))
        intro gb130 hg w90 hbox hb
        have BK130 := Aside0.mk (hbox)
        have GW130 := szZ HB hg
        have GE130 := szZ HB hg
        have NB123_130 := nlZ BK123 hg
        have NB130_123 := ngZ BK123 hg
        have NB124_130 := nlZ BK124 hg
        have NB130_124 := ngZ BK124 hg
        have NB125_130 := nlZ BK125 hg
        have NB130_125 := ngZ BK125 hg
        replace BK123 := bbZ BK123 hb
        replace BK124 := bbZ BK124 hb
        replace BK125 := bbZ BK125 hb
        replace HB := Aside0.mk (below_step HB.out hb)
        clear hb hbox hg
        refine hK.out _ _ ⟨(blk_cell BK123.out 0).trans rfl, (blk_cell BK123.out 1).trans rfl, (blk_cell BK123.out 2).trans rfl, (blk_cell BK124.out 0).trans rfl, (blk_cell BK124.out 1).trans rfl, (blk_cell BK124.out 2).trans rfl⟩ (fun hHeld => ?_)
        clear hK K
        refine norm_ (a' := ?_) ?_ ?_
        rotate_left
        ·show Act.put _ (some 6) _ = _
         simp only [Act.put, sA, sB, sC, i64_w, i32_w]
         rfl
        exact norm_ (by simp only [putAll, Act.put, sA, sB, sC] <;> rfl) (hJ1_3_4 (gb130) _ ⟨hHeld, BK123.out, BK124.out, BK125.out, BK130.out, GW130.out, GE130.out, NB123_130.out, NB130_123.out, NB124_130.out, NB130_124.out, NB125_130.out, NB130_125.out, (by repeat (first | (with_reducible first | exact HB.out | apply below_alloc | apply pw_below_drewN | apply below_drew1 | refine below_set ?_ GE123.out | refine below_set ?_ GE124.out | refine below_set ?_ GE125.out | refine below_set ?_ GE130.out) | exact HB.out))⟩)
       ·skip
        refine box_step ?hg (N := 7) ?hd (cs := #[.int .u64 0, .int .u64 0]) (t := 54) ?hr ?_; (case hd => rfl); (case hg => rfl); (case hr => first | (go_simp; done) | (go_simp; rfl))
        intro gb131 hg w90 hbox hb
        have BK131 := Aside0.mk (hbox)
        have GW131 := szZ HB hg
        have GE131 := szZ HB hg
        have NB123_131 := nlZ BK123 hg
        have NB131_123 := ngZ BK123 hg
        have NB124_131 := nlZ BK124 hg
        have NB131_124 := ngZ BK124 hg
        have NB125_131 := nlZ BK125 hg
        have NB131_125 := ngZ BK125 hg
        replace BK123 := bbZ BK123 hb
        replace BK124 := bbZ BK124 hb
        replace BK125 := bbZ BK125 hb
        replace HB := Aside0.mk (below_step HB.out hb)
        clear hb hbox hg
        refine hK.out _ _ ⟨(blk_cell BK123.out 0).trans rfl, (blk_cell BK123.out 1).trans rfl, (blk_cell BK123.out 2).trans rfl, (blk_cell BK124.out 0).trans rfl, (blk_cell BK124.out 1).trans rfl, (blk_cell BK124.out 2).trans rfl⟩ (fun hHeld => ?_)
        clear hK K
        refine norm_ (a' := ?_) ?_ ?_
        rotate_left
        ·show Act.put _ (some 7) _ = _
         simp only [Act.put, sA, sB, sC, i64_w, i32_w]
         rfl
        exact norm_ (by simp only [putAll, Act.put, sA, sB, sC] <;> rfl) (hJ1_3_5 (gb131) _ ⟨hHeld, BK123.out, BK124.out, BK125.out, BK131.out, GW131.out, GE131.out, NB123_131.out, NB131_123.out, NB124_131.out, NB131_124.out, NB125_131.out, NB131_125.out, (by repeat (first | (with_reducible first | exact HB.out | apply below_alloc | apply pw_below_drewN | apply below_drew1 | refine below_set ?_ GE123.out | refine below_set ?_ GE124.out | refine below_set ?_ GE125.out | refine below_set ?_ GE131.out) | exact HB.out))⟩)
     ·skip
      rintro ⟨gb130, gb131⟩ w90 ⟨hS_, h0_, h1_, h2_, h3_, h4_, h5_, h6_, h7_, h8_, h9_, h10_, h11_, h12_, h13_, h14_, h15_, h16_, h17_, h18_, h19_, h20_, h21_, h22_, h23_⟩
      have BK130 := Aside0.mk h3_
      have BK131 := Aside0.mk h4_
      have GW130 := Aside0.mk h5_
      have GE130 := Aside0.mk h6_
      have NB123_130 := Aside0.mk h7_
      have NB130_123 := Aside0.mk h8_
      have NB124_130 := Aside0.mk h9_
      have NB130_124 := Aside0.mk h10_
      have NB125_130 := Aside0.mk h11_
      have NB130_125 := Aside0.mk h12_
      have NB131_130 := Aside0.mk h13_
      have NB130_131 := Aside0.mk h14_
      have GW131 := Aside0.mk h15_
      have GE131 := Aside0.mk h16_
      have NB123_131 := Aside0.mk h17_
      have NB131_123 := Aside0.mk h18_
      have NB124_131 := Aside0.mk h19_
      have NB131_124 := Aside0.mk h20_
      have NB125_131 := Aside0.mk h21_
      have NB131_125 := Aside0.mk h22_
      replace BK123 := Aside0.mk h0_
      replace BK124 := Aside0.mk h1_
      replace BK125 := Aside0.mk h2_
      replace HB := Aside0.mk h23_
      clear h0_ h1_ h2_ h3_ h4_ h5_ h6_ h7_ h8_ h9_ h10_ h11_ h12_ h13_ h14_ h15_ h16_ h17_ h18_ h19_ h20_ h21_ h22_ h23_
      have hHeld : w90.cell? ⟨gb123, 0, none⟩ = some (.bool a0_0) ∧ w90.cell? ⟨gb123, 1, none⟩ = some (.int .u64 a0_1) ∧ w90.cell? ⟨gb123, 2, none⟩ = some (.int .u64 a0_2) ∧ w90.cell? ⟨gb124, 0, none⟩ = some (.bool a1_0) ∧ w90.cell? ⟨gb124, 1, none⟩ = some (.int .u64 a1_1) ∧ w90.cell? ⟨gb124, 2, none⟩ = some (.int .u64 a1_2) := hS_
      refine norm_ (a' := ?_) ?_ ?_
      rotate_left
      ·simp only [putAll, Act.put, sA, sB, sC]
       rfl
      refine one_ (i := 3) (N := some 14) #[Y,Y,Y,Y,Y,Y,N,N] rfl rfl (one_of HT_.out (by kernel_rfl)) (by decide) (fun K hK => ?_)
      refine goes_ Try.func45 (by kernel_rfl) rfl #[.agg #[.bool a1_0, .int .u64 a1_1, .int .u64 a1_2]] (by rfl) rfl rfl (by (try simp only [List.map_toArray, List.map_cons, List.map_nil]); first | done | rfl | (simp only [List.length_drop, List.length_take]; rfl)) ?_
      with_reducible refine (big_of.calls a1_0 a1_1 a1_2 t128 t129 _ A4.out).mono ?_
      rintro e w91 ⟨rfl, hb⟩
      refine ⟨_, rfl, ?_⟩
      replace BK123 := bbZ BK123 hb
      replace BK124 := bbZ BK124 hb
      replace BK125 := bbZ BK125 hb
      replace BK130 := bbZ BK130 hb
      replace BK131 := bbZ BK131 hb
      replace HB := Aside0.mk (below_step HB.out hb)
      (try clear hb)
      (try clear hb2)
      (try clear hk)
      (try clear hi)
      refine hK.out _ _ ⟨(blk_cell BK123.out 0).trans rfl, (blk_cell BK123.out 1).trans rfl, (blk_cell BK123.out 2).trans rfl, (blk_cell BK124.out 0).trans rfl, (blk_cell BK124.out 1).trans rfl, (blk_cell BK124.out 2).trans rfl⟩ (fun hHeld => ?_)
      clear hK K
      refine norm_ (a' := ?_) ?_ ?_
      rotate_left
      ·show Act.put _ (some 14) _ = _
       simp only [Act.put, sA, sB, sC, i64_w, i32_w]
       rfl
      exact norm_ (by simp only [putAll, Act.put, sA, sB, sC] <;> rfl) (hJ1_3_4_5 (gb130, gb131) _ ⟨hHeld, BK123.out, BK124.out, BK125.out, BK130.out, BK131.out, GW130.out, GE130.out, NB123_130.out, NB130_123.out, NB124_130.out, NB130_124.out, NB125_130.out, NB130_125.out, NB131_130.out, NB130_131.out, GW131.out, GE131.out, NB123_131.out, NB131_123.out, NB124_131.out, NB131_124.out, NB125_131.out, NB131_125.out, (by repeat (first | (with_reducible first | exact HB.out | apply below_alloc | apply pw_below_drewN | apply below_drew1 | refine below_set ?_ GE123.out | refine below_set ?_ GE124.out | refine below_set ?_ GE125.out | refine below_set ?_ GE130.out | refine below_set ?_ GE131.out) | exact HB.out))⟩)
    ·skip
     rintro gb131 w90 ⟨hS_, h0_, h1_, h2_, h3_, h4_, h5_, h6_, h7_, h8_, h9_, h10_, h11_, h12_⟩
     have BK131 := Aside0.mk h3_
     have GW131 := Aside0.mk h4_
     have GE131 := Aside0.mk h5_
     have NB123_131 := Aside0.mk h6_
     have NB131_123 := Aside0.mk h7_
     have NB124_131 := Aside0.mk h8_
     have NB131_124 := Aside0.mk h9_
     have NB125_131 := Aside0.mk h10_
     have NB131_125 := Aside0.mk h11_
     replace BK123 := Aside0.mk h0_
     replace BK124 := Aside0.mk h1_
     replace BK125 := Aside0.mk h2_
     replace HB := Aside0.mk h12_
     clear h0_ h1_ h2_ h3_ h4_ h5_ h6_ h7_ h8_ h9_ h10_ h11_ h12_
     have hHeld : w90.cell? ⟨gb123, 0, none⟩ = some (.bool a0_0) ∧ w90.cell? ⟨gb123, 1, none⟩ = some (.int .u64 a0_1) ∧ w90.cell? ⟨gb123, 2, none⟩ = some (.int .u64 a0_2) ∧ w90.cell? ⟨gb124, 0, none⟩ = some (.bool a1_0) ∧ w90.cell? ⟨gb124, 1, none⟩ = some (.int .u64 a1_1) ∧ w90.cell? ⟨gb124, 2, none⟩ = some (.int .u64 a1_2) := hS_
     refine norm_ (a' := ?_) ?_ ?_
     rotate_left
     ·simp only [putAll, Act.put, sA, sB, sC]
      rfl
     refine one_ (i := 4) (N := some 6) #[Y,Y,Y,Y,Y,Y,N,N] rfl rfl (one_of HT_.out (by kernel_rfl)) (by decide) (fun K hK => ?_)
     refine box_step ?hg (N := 6) ?hd (cs := #[.int .u64 0, .int .u64 0]) (t := 54) ?hr ?_; (case hd => rfl); (case hg => rfl); (case hr => first | (go_simp; done) | (go_simp; rfl))
     intro gb130 hg w91 hbox hb
     have BK130 := Aside0.mk (hbox)
     have GW130 := szZ HB hg
     have GE130 := szZ HB hg
     have NB123_130 := nlZ BK123 hg
     have NB130_123 := ngZ BK123 hg
     have NB124_130 := nlZ BK124 hg
     have NB130_124 := ngZ BK124 hg
     have NB125_130 := nlZ BK125 hg
     have NB130_125 := ngZ BK125 hg
     have NB131_130 := nlZ BK131 hg
     have NB130_131 := ngZ BK131 hg
     replace BK123 := bbZ BK123 hb
     replace BK124 := bbZ BK124 hb
     replace BK125 := bbZ BK125 hb
     replace BK131 := bbZ BK131 hb
     replace HB := Aside0.mk (below_step HB.out hb)
     clear hb hbox hg
     refine hK.out _ _ ⟨(blk_cell BK123.out 0).trans rfl, (blk_cell BK123.out 1).trans rfl, (blk_cell BK123.out 2).trans rfl, (blk_cell BK124.out 0).trans rfl, (blk_cell BK124.out 1).trans rfl, (blk_cell BK124.out 2).trans rfl⟩ (fun hHeld => ?_)
     clear hK K
     refine norm_ (a' := ?_) ?_ ?_
     rotate_left
     ·show Act.put _ (some 6) _ = _
      simp only [Act.put, sA, sB, sC, i64_w, i32_w]
      rfl
     exact norm_ (by simp only [putAll, Act.put, sA, sB, sC] <;> rfl) (hJ1_3_4_5 (gb130, gb131) _ ⟨hHeld, BK123.out, BK124.out, BK125.out, BK130.out, BK131.out, GW130.out, GE130.out, NB123_130.out, NB130_123.out, NB124_130.out, NB130_124.out, NB125_130.out, NB130_125.out, NB131_130.out, NB130_131.out, GW131.out, GE131.out, NB123_131.out, NB131_123.out, NB124_131.out, NB131_124.out, NB125_131.out, NB131_125.out, (by repeat (first | (with_reducible first | exact HB.out | apply below_alloc | apply pw_below_drewN | apply below_drew1 | refine below_set ?_ GE123.out | refine below_set ?_ GE124.out | refine below_set ?_ GE125.out | refine below_set ?_ GE131.out | refine below_set ?_ GE130.out) | exact HB.out))⟩)
   ·skip
    rintro gb130 w90 ⟨hS_, h0_, h1_, h2_, h3_, h4_, h5_, h6_, h7_, h8_, h9_, h10_, h11_, h12_⟩
    have BK130 := Aside0.mk h3_
    have GW130 := Aside0.mk h4_
    have GE130 := Aside0.mk h5_
    have NB123_130 := Aside0.mk h6_
    have NB130_123 := Aside0.mk h7_
    have NB124_130 := Aside0.mk h8_
    have NB130_124 := Aside0.mk h9_
    have NB125_130 := Aside0.mk h10_
    have NB130_125 := Aside0.mk h11_
    replace BK123 := Aside0.mk h0_
    replace BK124 := Aside0.mk h1_
    replace BK125 := Aside0.mk h2_
    replace HB := Aside0.mk h12_
    clear h0_ h1_ h2_ h3_ h4_ h5_ h6_ h7_ h8_ h9_ h10_ h11_ h12_
    have hHeld : w90.cell? ⟨gb123, 0, none⟩ = some (.bool a0_0) ∧ w90.cell? ⟨gb123, 1, none⟩ = some (.int .u64 a0_1) ∧ w90.cell? ⟨gb123, 2, none⟩ = some (.int .u64 a0_2) ∧ w90.cell? ⟨gb124, 0, none⟩ = some (.bool a1_0) ∧ w90.cell? ⟨gb124, 1, none⟩ = some (.int .u64 a1_1) ∧ w90.cell? ⟨gb124, 2, none⟩ = some (.int .u64 a1_2) := hS_
    refine norm_ (a' := ?_) ?_ ?_
    rotate_left
    ·simp only [putAll, Act.put, sA, sB, sC]
     rfl
    refine one_ (i := 5) (N := some 7) #[Y,Y,Y,Y,Y,Y,N,N] rfl rfl (one_of HT_.out (by kernel_rfl)) (by decide) (fun K hK => ?_)
    refine box_step ?hg (N := 7) ?hd (cs := #[.int .u64 0, .int .u64 0]) (t := 54) ?hr ?_; (case hd => rfl); (case hg => rfl); (case hr => first | (go_simp; done) | (go_simp; rfl))
    intro gb131 hg w91 hbox hb
    have BK131 := Aside0.mk (hbox)
    have GW131 := szZ HB hg
    have GE131 := szZ HB hg
    have NB123_131 := nlZ BK123 hg
    have NB131_123 := ngZ BK123 hg
    have NB124_131 := nlZ BK124 hg
    have NB131_124 := ngZ BK124 hg
    have NB125_131 := nlZ BK125 hg
    have NB131_125 := ngZ BK125 hg
    have NB130_131 := nlZ BK130 hg
    have NB131_130 := ngZ BK130 hg
    replace BK123 := bbZ BK123 hb
    replace BK124 := bbZ BK124 hb
    replace BK125 := bbZ BK125 hb
    replace BK130 := bbZ BK130 hb
    replace HB := Aside0.mk (below_step HB.out hb)
    clear hb hbox hg
    refine hK.out _ _ ⟨(blk_cell BK123.out 0).trans rfl, (blk_cell BK123.out 1).trans rfl, (blk_cell BK123.out 2).trans rfl, (blk_cell BK124.out 0).trans rfl, (blk_cell BK124.out 1).trans rfl, (blk_cell BK124.out 2).trans rfl⟩ (fun hHeld => ?_)
    clear hK K
    refine norm_ (a' := ?_) ?_ ?_
    rotate_left
    ·show Act.put _ (some 7) _ = _
     simp only [Act.put, sA, sB, sC, i64_w, i32_w]
     rfl
    exact norm_ (by simp only [putAll, Act.put, sA, sB, sC] <;> rfl) (hJ1_3_4_5 (gb130, gb131) _ ⟨hHeld, BK123.out, BK124.out, BK125.out, BK130.out, BK131.out, GW130.out, GE130.out, NB123_130.out, NB130_123.out, NB124_130.out, NB130_124.out, NB125_130.out, NB130_125.out, NB131_130.out, NB130_131.out, GW131.out, GE131.out, NB123_131.out, NB131_123.out, NB124_131.out, NB131_124.out, NB125_131.out, NB131_125.out, (by repeat (first | (with_reducible first | exact HB.out | apply below_alloc | apply pw_below_drewN | apply below_drew1 | refine below_set ?_ GE123.out | refine below_set ?_ GE124.out | refine below_set ?_ GE125.out | refine below_set ?_ GE130.out | refine below_set ?_ GE131.out) | exact HB.out))⟩)
  rintro ⟨gb130, gb131⟩ w91 ⟨hS_, h0_, h1_, h2_, h3_, h4_, h5_, h6_, h7_, h8_, h9_, h10_, h11_, h12_, h13_, h14_, h15_, h16_, h17_, h18_, h19_, h20_, h21_, h22_, h23_⟩
  have BK130 := Aside0.mk h3_
  have BK131 := Aside0.mk h4_
  have GW130 := Aside0.mk h5_
  have GE130 := Aside0.mk h6_
  have NB123_130 := Aside0.mk h7_
  have NB130_123 := Aside0.mk h8_
  have NB124_130 := Aside0.mk h9_
  have NB130_124 := Aside0.mk h10_
  have NB125_130 := Aside0.mk h11_
  have NB130_125 := Aside0.mk h12_
  have NB131_130 := Aside0.mk h13_
  have NB130_131 := Aside0.mk h14_
  have GW131 := Aside0.mk h15_
  have GE131 := Aside0.mk h16_
  have NB123_131 := Aside0.mk h17_
  have NB131_123 := Aside0.mk h18_
  have NB124_131 := Aside0.mk h19_
  have NB131_124 := Aside0.mk h20_
  have NB125_131 := Aside0.mk h21_
  have NB131_125 := Aside0.mk h22_
  replace BK123 := Aside0.mk h0_
  replace BK124 := Aside0.mk h1_
  replace BK125 := Aside0.mk h2_
  replace HB := Aside0.mk h23_
  clear h0_ h1_ h2_ h3_ h4_ h5_ h6_ h7_ h8_ h9_ h10_ h11_ h12_ h13_ h14_ h15_ h16_ h17_ h18_ h19_ h20_ h21_ h22_ h23_
  have hHeld : w91.cell? ⟨gb123, 0, none⟩ = some (.bool a0_0) ∧ w91.cell? ⟨gb123, 1, none⟩ = some (.int .u64 a0_1) ∧ w91.cell? ⟨gb123, 2, none⟩ = some (.int .u64 a0_2) ∧ w91.cell? ⟨gb124, 0, none⟩ = some (.bool a1_0) ∧ w91.cell? ⟨gb124, 1, none⟩ = some (.int .u64 a1_1) ∧ w91.cell? ⟨gb124, 2, none⟩ = some (.int .u64 a1_2) := hS_
  refine norm_ (a' := ?_) ?_ ?_
  rotate_left
  ·simp only [putAll, Act.put, sA, sB, sC]
   rfl
  refine one_ (i := 6) (N := none) #[Y,Y,Y,Y,Y,Y,Y,N] rfl rfl (one_of HT_.out (by kernel_rfl)) (by decide) (fun K hK => ?_)
  have hs92 : w91.cell? ⟨gb130, 0, none⟩ = some (.int .u64 0) := (blk_cell BK130.out 0).trans rfl
  have hfs92 := blk_frozen BK130.out 0
  have hns92_0 := NB123_130.out
  have hns92_1 := NB124_130.out
  have hns92_2 := NB125_130.out
  have hns92_4 := NB131_130.out
  have hms92_0 := NB130_123.out
  have hms92_1 := NB130_124.out
  have hms92_2 := NB130_125.out
  have hms92_4 := NB130_131.out
  have hs93 : w91.cell? ⟨gb130, 1, none⟩ = some (.int .u64 0) := (blk_cell BK130.out 1).trans rfl
  have hfs93 := blk_frozen BK130.out 1
  have hns93_0 := NB123_130.out
  have hns93_1 := NB124_130.out
  have hns93_2 := NB125_130.out
  have hns93_4 := NB131_130.out
  have hms93_0 := NB130_123.out
  have hms93_1 := NB130_124.out
  have hms93_2 := NB130_125.out
  have hms93_4 := NB130_131.out
  refine skip_ (w1 := ?_) (by rfl) rfl ?_ ?_
  rotate_left
  ·go_simp
   rfl
  refine hK.out _ _ ⟨((cell_far (p := ⟨gb130, _, none⟩) NB123_130.out _).trans (((cell_far (p := ⟨gb130, _, none⟩) NB123_130.out _).trans (hHeld.1)))), ((cell_far (p := ⟨gb130, _, none⟩) NB123_130.out _).trans (((cell_far (p := ⟨gb130, _, none⟩) NB123_130.out _).trans (hHeld.2.1)))), ((cell_far (p := ⟨gb130, _, none⟩) NB123_130.out _).trans (((cell_far (p := ⟨gb130, _, none⟩) NB123_130.out _).trans (hHeld.2.2.1)))), ((cell_far (p := ⟨gb130, _, none⟩) NB124_130.out _).trans (((cell_far (p := ⟨gb130, _, none⟩) NB124_130.out _).trans (hHeld.2.2.2.1)))), ((cell_far (p := ⟨gb130, _, none⟩) NB124_130.out _).trans (((cell_far (p := ⟨gb130, _, none⟩) NB124_130.out _).trans (hHeld.2.2.2.2.1)))), ((cell_far (p := ⟨gb130, _, none⟩) NB124_130.out _).trans (((cell_far (p := ⟨gb130, _, none⟩) NB124_130.out _).trans (hHeld.2.2.2.2.2))))⟩ (fun hHeld => ?_)
  clear hK K
  refine one_ (i := 7) (N := none) #[Y,Y,Y,Y,Y,Y,Y,Y] rfl rfl (one_of HT_.out (by kernel_rfl)) (by decide) (fun K hK => ?_)
  have hs94 : w91.cell? ⟨gb131, 0, none⟩ = some (.int .u64 0) := (blk_cell BK131.out 0).trans rfl
  have hfs94 := blk_frozen BK131.out 0
  have hns94_0 := NB123_131.out
  have hns94_1 := NB124_131.out
  have hns94_2 := NB125_131.out
  have hns94_3 := NB130_131.out
  have hms94_0 := NB131_123.out
  have hms94_1 := NB131_124.out
  have hms94_2 := NB131_125.out
  have hms94_3 := NB131_130.out
  have hs95 : w91.cell? ⟨gb131, 1, none⟩ = some (.int .u64 0) := (blk_cell BK131.out 1).trans rfl
  have hfs95 := blk_frozen BK131.out 1
  have hns95_0 := NB123_131.out
  have hns95_1 := NB124_131.out
  have hns95_2 := NB125_131.out
  have hns95_3 := NB130_131.out
  have hms95_0 := NB131_123.out
  have hms95_1 := NB131_124.out
  have hms95_2 := NB131_125.out
  have hms95_3 := NB131_130.out
  refine skip_ (w1 := ?_) (by rfl) rfl ?_ ?_
  rotate_left
  ·go_simp
   rfl
  refine hK.out _ _ ⟨((cell_far (p := ⟨gb131, _, none⟩) NB123_131.out _).trans (((cell_far (p := ⟨gb131, _, none⟩) NB123_131.out _).trans (hHeld.1)))), ((cell_far (p := ⟨gb131, _, none⟩) NB123_131.out _).trans (((cell_far (p := ⟨gb131, _, none⟩) NB123_131.out _).trans (hHeld.2.1)))), ((cell_far (p := ⟨gb131, _, none⟩) NB123_131.out _).trans (((cell_far (p := ⟨gb131, _, none⟩) NB123_131.out _).trans (hHeld.2.2.1)))), ((cell_far (p := ⟨gb131, _, none⟩) NB124_131.out _).trans (((cell_far (p := ⟨gb131, _, none⟩) NB124_131.out _).trans (hHeld.2.2.2.1)))), ((cell_far (p := ⟨gb131, _, none⟩) NB124_131.out _).trans (((cell_far (p := ⟨gb131, _, none⟩) NB124_131.out _).trans (hHeld.2.2.2.2.1)))), ((cell_far (p := ⟨gb131, _, none⟩) NB124_131.out _).trans (((cell_far (p := ⟨gb131, _, none⟩) NB124_131.out _).trans (hHeld.2.2.2.2.2))))⟩ (fun hHeld => ?_)
  clear hK K
  refine done_ (done_of HT_.out (by kernel_rfl)) ?_
  have hnb96 := NB123_124.out
  have hnc96 := NB124_123.out
  have hnb97 := NB123_125.out
  have hnc97 := NB125_123.out
  have hnb98 := NB123_130.out
  have hnc98 := NB130_123.out
  have hnb99 := NB123_131.out
  have hnc99 := NB131_123.out
  have hcz100_0 : w91.cell? ⟨gb123, 0, none⟩ = some (.bool a0_0) := (blk_cell BK123.out 0).trans rfl
  have hcz100_1 : w91.cell? ⟨gb123, 1, none⟩ = some (.int .u64 a0_1) := (blk_cell BK123.out 1).trans rfl
  have hcz100_2 : w91.cell? ⟨gb123, 2, none⟩ = some (.int .u64 a0_2) := (blk_cell BK123.out 2).trans rfl
  have hfz100_0 := blk_frozen BK123.out 0
  have hfz100_1 := blk_frozen BK123.out 1
  have hfz100_2 := blk_frozen BK123.out 2
  have hnb101 := NB124_125.out
  have hnc101 := NB125_124.out
  have hnb102 := NB124_130.out
  have hnc102 := NB130_124.out
  have hnb103 := NB124_131.out
  have hnc103 := NB131_124.out
  have hcz104_0 : w91.cell? ⟨gb124, 0, none⟩ = some (.bool a1_0) := (blk_cell BK124.out 0).trans rfl
  have hcz104_1 : w91.cell? ⟨gb124, 1, none⟩ = some (.int .u64 a1_1) := (blk_cell BK124.out 1).trans rfl
  have hcz104_2 : w91.cell? ⟨gb124, 2, none⟩ = some (.int .u64 a1_2) := (blk_cell BK124.out 2).trans rfl
  have hfz104_0 := blk_frozen BK124.out 0
  have hfz104_1 := blk_frozen BK124.out 1
  have hfz104_2 := blk_frozen BK124.out 2
  have hnb105 := NB130_125.out
  have hnc105 := NB125_130.out
  have hnb106 := NB130_131.out
  have hnc106 := NB131_130.out
  have hcz107_0 : w91.cell? ⟨gb130, 0, none⟩ = some (.int .u64 0) := (blk_cell BK130.out 0).trans rfl
  have hcz107_1 : w91.cell? ⟨gb130, 1, none⟩ = some (.int .u64 0) := (blk_cell BK130.out 1).trans rfl
  have hfz107_0 := blk_frozen BK130.out 0
  have hfz107_1 := blk_frozen BK130.out 1
  have hnb108 := NB131_125.out
  have hnc108 := NB125_131.out
  have hcz109_0 : w91.cell? ⟨gb131, 0, none⟩ = some (.int .u64 0) := (blk_cell BK131.out 0).trans rfl
  have hcz109_1 : w91.cell? ⟨gb131, 1, none⟩ = some (.int .u64 0) := (blk_cell BK131.out 1).trans rfl
  have hfz109_0 := blk_frozen BK131.out 0
  have hfz109_1 := blk_frozen BK131.out 1
  try go_wp2_with (first | (simp only [bits_Add64.runs t127 t129 0 t143 t144 A80.out]) | (simp only [bits_Add64.runs t126 t128 t144 t145 t146 A81.out]; have hcz110_0 : w91.cell? ⟨gb125, 0, none⟩ = some (.bool false) := (blk_cell BK125.out 0).trans rfl; have hcz110_1 : w91.cell? ⟨gb125, 1, none⟩ = some (.int .u64 0) := (blk_cell BK125.out 1).trans rfl; have hcz110_2 : w91.cell? ⟨gb125, 2, none⟩ = some (.int .u64 0) := (blk_cell BK125.out 2).trans rfl; have hfz110_0 := blk_frozen BK125.out 0; have hfz110_1 := blk_frozen BK125.out 1; have hfz110_2 := blk_frozen BK125.out 2))
  refine bodyPost_ret (results_ct rfl _ _ gb125 24 #[.bool false, .int .u64 0, .int .u64 0] (0, 0) _ rfl (by (with_reducible repeat (first | refine blk_drewN ?_ _ | refine blk_drew ?_ | refine blk_alloc ?_ _)); refine blk_put (cs := #[.bool false, .int .u64 0, .int .u64 0]) ?_ 2 _ rfl; (with_reducible repeat (first | refine blk_drewN ?_ _ | refine blk_drew ?_ | refine blk_alloc ?_ _)); refine blk_put (cs := #[.bool false, .int .u64 0, .int .u64 0]) ?_ 1 _ rfl; (with_reducible repeat (first | refine blk_drewN ?_ _ | refine blk_drew ?_ | refine blk_alloc ?_ _)); refine blk_put (cs := #[.bool false, .int .u64 0, .int .u64 0]) ?_ 0 _ rfl; (with_reducible repeat (first | refine blk_drewN ?_ _ | refine blk_drew ?_ | refine blk_alloc ?_ _)); refine blk_far ?_ NB125_131.out _; (with_reducible repeat (first | refine blk_drewN ?_ _ | refine blk_drew ?_ | refine blk_alloc ?_ _)); refine blk_far ?_ NB125_131.out _; (with_reducible repeat (first | refine blk_drewN ?_ _ | refine blk_drew ?_ | refine blk_alloc ?_ _)); refine blk_far ?_ NB125_130.out _; (with_reducible repeat (first | refine blk_drewN ?_ _ | refine blk_drew ?_ | refine blk_alloc ?_ _)); refine blk_far ?_ NB125_130.out _; (with_reducible repeat (first | refine blk_drewN ?_ _ | refine blk_drew ?_ | refine blk_alloc ?_ _)); exact BK125.out) Try.underlying24 rfl (by kernel_rfl)) rfl ?_
  exact ⟨by first | rfl | (simp [errW_none, errW_some] <;> rfl) | (simp [*, errW_none, errW_some] <;> rfl), by repeat (first | (with_reducible first | exact HB.out | apply below_alloc | apply pw_below_drewN | apply below_drew1 | refine below_set ?_ GE123.out | refine below_set ?_ GE124.out | refine below_set ?_ GE125.out | refine below_set ?_ GE130.out | refine below_set ?_ GE131.out) | exact HB.out)⟩
 ·rw [if_neg c82] at H
  have c82b0 : decide (0 < t146) = false := decide_eq_false c82
  clear c82
  replace H := Option.bind_eq_some_iff.mp H
  obtain ⟨⟨t147, t148, t149⟩, A1110, H⟩ := H
  replace H : (some (t147, t148, t149, 0)) = some (r1, r2, r3, r4) := H
  have A111 := Aside0.mk A1110
  clear A1110
  simp only [Option.some.injEq, Prod.mk.injEq] at H
  obtain ⟨rfl, rfl, rfl, rfl⟩ := H
  go_enter Try.func16, Try.ntmps16
  try go_wp2_with (first | ((with_reducible refine gate_dst (N := 2) rfl ?_); refine box_event ?hg (N := 2) ?hd (cs := #[.bool a0_0, .int .u64 a0_1, .int .u64 a0_2]) (t := 24) ?hr ?_; (case hd => rfl); (case hg => rfl); (case hr => first | (go_simp; done) | (go_simp; rfl)); intro gb123 hg w112 hbox hb; have BK123 := Aside0.mk (hbox); have GW123 := Aside0.mk ((by rw [hg]; exact (below_size (by repeat (first | (with_reducible first | exact HB.out | apply below_alloc | apply pw_below_drewN | apply below_drew1) | exact HB.out))) : w.heap.size ≤ gb123)); have GE123 := Aside0.mk ((by rw [hg]; exact (below_size (by repeat (first | (with_reducible first | exact HB.out | apply below_alloc | apply pw_below_drewN | apply below_drew1) | exact HB.out))) : w.heap.size ≤ gb123)); replace HB := Aside0.mk (below_step (by repeat (first | (with_reducible first | exact HB.out | apply below_alloc | apply pw_below_drewN | apply below_drew1) | exact HB.out)) hb); clear hb hbox hg) | ((with_reducible refine gate_dst (N := 3) rfl ?_); refine box_event ?hg (N := 3) ?hd (cs := #[.bool a1_0, .int .u64 a1_1, .int .u64 a1_2]) (t := 24) ?hr ?_; (case hd => rfl); (case hg => rfl); (case hr => first | (go_simp; done) | (go_simp; rfl)); intro gb124 hg w113 hbox hb; have BK124 := Aside0.mk (hbox); have GW124 := Aside0.mk ((by rw [hg]; exact (below_size (by repeat (first | (with_reducible first | exact HB.out | apply below_alloc | apply pw_below_drewN | apply below_drew1 | refine below_set ?_ GE123.out) | exact HB.out))) : w.heap.size ≤ gb124)); have GE124 := Aside0.mk ((by rw [hg]; exact (below_size (by repeat (first | (with_reducible first | exact HB.out | apply below_alloc | apply pw_below_drewN | apply below_drew1 | refine below_set ?_ GE123.out) | exact HB.out))) : w.heap.size ≤ gb124)); have NB123_124 := Aside0.mk ((by rw [hg]; exact Nat.ne_of_lt (blk_lt (g := gb123) (o := .cells #[.bool a0_0, .int .u64 a0_1, .int .u64 a0_2] 24 (0, 0)) (by (with_reducible repeat (first | refine blk_drewN ?_ _ | refine blk_drew ?_ | refine blk_alloc ?_ _)); exact BK123.out)) : gb123 ≠ gb124)); have NB124_123 := Aside0.mk ((by rw [hg]; exact Nat.ne_of_gt (blk_lt (g := gb123) (o := .cells #[.bool a0_0, .int .u64 a0_1, .int .u64 a0_2] 24 (0, 0)) (by (with_reducible repeat (first | refine blk_drewN ?_ _ | refine blk_drew ?_ | refine blk_alloc ?_ _)); exact BK123.out)) : gb124 ≠ gb123)); replace BK123 := Aside0.mk (blk_below (g := gb123) (o := .cells #[.bool a0_0, .int .u64 a0_1, .int .u64 a0_2] 24 (0, 0)) (by (with_reducible repeat (first | refine blk_drewN ?_ _ | refine blk_drew ?_ | refine blk_alloc ?_ _)); exact BK123.out) hb); replace HB := Aside0.mk (below_step (by repeat (first | (with_reducible first | exact HB.out | apply below_alloc | apply pw_below_drewN | apply below_drew1 | refine below_set ?_ GE123.out) | exact HB.out)) hb); clear hb hbox hg) | ((with_reducible refine gate_dst (N := 4) rfl ?_); refine box_event ?hg (N := 4) ?hd (cs := #[.bool false, .int .u64 0, .int .u64 0]) (t := 24) ?hr ?_; (case hd => rfl); (case hg => rfl); (case hr => first | (go_simp; done) | (go_simp; rfl)); intro gb125 hg w114 hbox hb; have BK125 := Aside0.mk (hbox); have GW125 := Aside0.mk ((by rw [hg]; exact (below_size (by repeat (first | (with_reducible first | exact HB.out | apply below_alloc | apply pw_below_drewN | apply below_drew1 | refine below_set ?_ GE123.out | refine below_set ?_ GE124.out) | exact HB.out))) : w.heap.size ≤ gb125)); have GE125 := Aside0.mk ((by rw [hg]; exact (below_size (by repeat (first | (with_reducible first | exact HB.out | apply below_alloc | apply pw_below_drewN | apply below_drew1 | refine below_set ?_ GE123.out | refine below_set ?_ GE124.out) | exact HB.out))) : w.heap.size ≤ gb125)); have NB123_125 := Aside0.mk ((by rw [hg]; exact Nat.ne_of_lt (blk_lt (g := gb123) (o := .cells #[.bool a0_0, .int .u64 a0_1, .int .u64 a0_2] 24 (0, 0)) (by (with_reducible repeat (first | refine blk_drewN ?_ _ | refine blk_drew ?_ | refine blk_alloc ?_ _)); exact BK123.out)) : gb123 ≠ gb125)); have NB125_123 := Aside0.mk ((by rw [hg]; exact Nat.ne_of_gt (blk_lt (g := gb123) (o := .cells #[.bool a0_0, .int .u64 a0_1, .int .u64 a0_2] 24 (0, 0)) (by (with_reducible repeat (first | refine blk_drewN ?_ _ | refine blk_drew ?_ | refine blk_alloc ?_ _)); exact BK123.out)) : gb125 ≠ gb123)); have NB124_125 := Aside0.mk ((by rw [hg]; exact Nat.ne_of_lt (blk_lt (g := gb124) (o := .cells #[.bool a1_0, .int .u64 a1_1, .int .u64 a1_2] 24 (0, 0)) (by (with_reducible repeat (first | refine blk_drewN ?_ _ | refine blk_drew ?_ | refine blk_alloc ?_ _)); exact BK124.out)) : gb124 ≠ gb125)); have NB125_124 := Aside0.mk ((by rw [hg]; exact Nat.ne_of_gt (blk_lt (g := gb124) (o := .cells #[.bool a1_0, .int .u64 a1_1, .int .u64 a1_2] 24 (0, 0)) (by (with_reducible repeat (first | refine blk_drewN ?_ _ | refine blk_drew ?_ | refine blk_alloc ?_ _)); exact BK124.out)) : gb125 ≠ gb124)); replace BK123 := Aside0.mk (blk_below (g := gb123) (o := .cells #[.bool a0_0, .int .u64 a0_1, .int .u64 a0_2] 24 (0, 0)) (by (with_reducible repeat (first | refine blk_drewN ?_ _ | refine blk_drew ?_ | refine blk_alloc ?_ _)); exact BK123.out) hb); replace BK124 := Aside0.mk (blk_below (g := gb124) (o := .cells #[.bool a1_0, .int .u64 a1_1, .int .u64 a1_2] 24 (0, 0)) (by (with_reducible repeat (first | refine blk_drewN ?_ _ | refine blk_drew ?_ | refine blk_alloc ?_ _)); exact BK124.out) hb); replace HB := Aside0.mk (below_step (by repeat (first | (with_reducible first | exact HB.out | apply below_alloc | apply pw_below_drewN | apply below_drew1 | refine below_set ?_ GE123.out | refine below_set ?_ GE124.out) | exact HB.out)) hb); clear hb hbox hg))
  replace BK123 := Aside0.mk (blk_drew BK123.out)
  replace BK124 := Aside0.mk (blk_drew BK124.out)
  replace BK125 := Aside0.mk (blk_drew BK125.out)
  replace HB := Aside0.mk (below_drew1 HB.out)
  refine start_ (n := 8) (S := fun w' => w'.cell? ⟨gb123, 0, none⟩ = some (.bool a0_0) ∧ w'.cell? ⟨gb123, 1, none⟩ = some (.int .u64 a0_1) ∧ w'.cell? ⟨gb123, 2, none⟩ = some (.int .u64 a0_2) ∧ w'.cell? ⟨gb124, 0, none⟩ = some (.bool a1_0) ∧ w'.cell? ⟨gb124, 1, none⟩ = some (.int .u64 a1_1) ∧ w'.cell? ⟨gb124, 2, none⟩ = some (.int .u64 a1_2)) (ds := []) #[N,N,N,N,N,N,N,N] (by kernel_rfl) rfl rfl ⟨(blk_cell BK123.out 0).trans rfl, (blk_cell BK123.out 1).trans rfl, (blk_cell BK123.out 2).trans rfl, (blk_cell BK124.out 0).trans rfl, (blk_cell BK124.out 1).trans rfl, (blk_cell BK124.out 2).trans rfl⟩ (fun hHeld => ?_); refine with_tabW big_Add.tab1 big_Add.bits1 (fun HT_ HW_ => ?_)
  generalize w114.drew = w115 at BK123 BK124 BK125 HB hHeld ⊢
  refine take_ (i := 0) (N := some 11) (v := ?_) (a' := ?_) #[Y,N,N,N,N,N,N,N] rfl rfl (take_ofW HT_.out HW_.out (by kernel_rfl)) (fun _ _ _ h => h) (Or.inl ⟨by rfl, ?_⟩) hHeld ?_ ?_
  rotate_left
  ·rintro w' ⟨s0, s1, s2, s3, s4, s5⟩
   go_simp
   with_reducible rfl
  rotate_left
  ·simp only [Act.put, sA, sB, sC, i64_w, i32_w]
   rfl
  refine take_ (i := 2) (N := some 13) (v := ?_) (a' := ?_) #[Y,N,Y,N,N,N,N,N] rfl rfl (take_ofW HT_.out HW_.out (by kernel_rfl)) (fun _ _ _ h => h) (Or.inl ⟨by rfl, ?_⟩) hHeld ?_ ?_
  rotate_left
  ·rintro w' ⟨s0, s1, s2, s3, s4, s5⟩
   go_simp
   with_reducible rfl
  rotate_left
  ·simp only [Act.put, sA, sB, sC, i64_w, i32_w]
   rfl
  refine join_ (σ := Nat × Nat) 2 #[Y,Y,Y,Y,Y,Y,N,N] (fun s_ => [(12, .agg #[.int .u64 t126, .int .u64 t127]), (14, .agg #[.int .u64 t128, .int .u64 t129]), (6, .pointer (some ⟨s_.1, 0, none⟩)), (7, .pointer (some ⟨s_.2, 0, none⟩))]) (fun s_ w' => (w'.cell? ⟨gb123, 0, none⟩ = some (.bool a0_0) ∧ w'.cell? ⟨gb123, 1, none⟩ = some (.int .u64 a0_1) ∧ w'.cell? ⟨gb123, 2, none⟩ = some (.int .u64 a0_2) ∧ w'.cell? ⟨gb124, 0, none⟩ = some (.bool a1_0) ∧ w'.cell? ⟨gb124, 1, none⟩ = some (.int .u64 a1_1) ∧ w'.cell? ⟨gb124, 2, none⟩ = some (.int .u64 a1_2)) ∧ (w'.heap[gb123]? = some (.cells #[.bool a0_0, .int .u64 a0_1, .int .u64 a0_2] 24 (0, 0))) ∧ (w'.heap[gb124]? = some (.cells #[.bool a1_0, .int .u64 a1_1, .int .u64 a1_2] 24 (0, 0))) ∧ (w'.heap[gb125]? = some (.cells #[.bool false, .int .u64 0, .int .u64 0] 24 (0, 0))) ∧ (w'.heap[s_.1]? = some (.cells #[.int .u64 0, .int .u64 0] 54 (0, 0))) ∧ (w'.heap[s_.2]? = some (.cells #[.int .u64 0, .int .u64 0] 54 (0, 0))) ∧ (w.heap.size ≤ s_.1) ∧ (w.heap.size ≤ s_.1) ∧ (gb123 ≠ s_.1) ∧ (s_.1 ≠ gb123) ∧ (gb124 ≠ s_.1) ∧ (s_.1 ≠ gb124) ∧ (gb125 ≠ s_.1) ∧ (s_.1 ≠ gb125) ∧ (s_.2 ≠ s_.1) ∧ (s_.1 ≠ s_.2) ∧ (w.heap.size ≤ s_.2) ∧ (w.heap.size ≤ s_.2) ∧ (gb123 ≠ s_.2) ∧ (s_.2 ≠ gb123) ∧ (gb124 ≠ s_.2) ∧ (s_.2 ≠ gb124) ∧ (gb125 ≠ s_.2) ∧ (s_.2 ≠ gb125) ∧ (Below w.heap.size w w')) ?_ ?_
  rotate_left
  ·intro hJ1_3_4_5
   refine join_ (σ := Nat) 3 #[Y,Y,Y,Y,Y,N,N,N] (fun s_ => [(12, .agg #[.int .u64 t126, .int .u64 t127]), (14, .agg #[.int .u64 t128, .int .u64 t129]), (6, .pointer (some ⟨s_, 0, none⟩))]) (fun s_ w' => (w'.cell? ⟨gb123, 0, none⟩ = some (.bool a0_0) ∧ w'.cell? ⟨gb123, 1, none⟩ = some (.int .u64 a0_1) ∧ w'.cell? ⟨gb123, 2, none⟩ = some (.int .u64 a0_2) ∧ w'.cell? ⟨gb124, 0, none⟩ = some (.bool a1_0) ∧ w'.cell? ⟨gb124, 1, none⟩ = some (.int .u64 a1_1) ∧ w'.cell? ⟨gb124, 2, none⟩ = some (.int .u64 a1_2)) ∧ (w'.heap[gb123]? = some (.cells #[.bool a0_0, .int .u64 a0_1, .int .u64 a0_2] 24 (0, 0))) ∧ (w'.heap[gb124]? = some (.cells #[.bool a1_0, .int .u64 a1_1, .int .u64 a1_2] 24 (0, 0))) ∧ (w'.heap[gb125]? = some (.cells #[.bool false, .int .u64 0, .int .u64 0] 24 (0, 0))) ∧ (w'.heap[s_]? = some (.cells #[.int .u64 0, .int .u64 0] 54 (0, 0))) ∧ (w.heap.size ≤ s_) ∧ (w.heap.size ≤ s_) ∧ (gb123 ≠ s_) ∧ (s_ ≠ gb123) ∧ (gb124 ≠ s_) ∧ (s_ ≠ gb124) ∧ (gb125 ≠ s_) ∧ (s_ ≠ gb125) ∧ (Below w.heap.size w w')) ?_ ?_
   rotate_left
   ·intro hJ1_3_4
    refine join_ (σ := Nat) 3 #[Y,Y,Y,Y,N,Y,N,N] (fun s_ => [(12, .agg #[.int .u64 t126, .int .u64 t127]), (14, .agg #[.int .u64 t128, .int .u64 t129]), (7, .pointer (some ⟨s_, 0, none⟩))]) (fun s_ w' => (w'.cell? ⟨gb123, 0, none⟩ = some (.bool a0_0) ∧ w'.cell? ⟨gb123, 1, none⟩ = some (.int .u64 a0_1) ∧ w'.cell? ⟨gb123, 2, none⟩ = some (.int .u64 a0_2) ∧ w'.cell? ⟨gb124, 0, none⟩ = some (.bool a1_0) ∧ w'.cell? ⟨gb124, 1, none⟩ = some (.int .u64 a1_1) ∧ w'.cell? ⟨gb124, 2, none⟩ = some (.int .u64 a1_2)) ∧ (w'.heap[gb123]? = some (.cells #[.bool a0_0, .int .u64 a0_1, .int .u64 a0_2] 24 (0, 0))) ∧ (w'.heap[gb124]? = some (.cells #[.bool a1_0, .int .u64 a1_1, .int .u64 a1_2] 24 (0, 0))) ∧ (w'.heap[gb125]? = some (.cells #[.bool false, .int .u64 0, .int .u64 0] 24 (0, 0))) ∧ (w'.heap[s_]? = some (.cells #[.int .u64 0, .int .u64 0] 54 (0, 0))) ∧ (w.heap.size ≤ s_) ∧ (w.heap.size ≤ s_) ∧ (gb123 ≠ s_) ∧ (s_ ≠ gb123) ∧ (gb124 ≠ s_) ∧ (s_ ≠ gb124) ∧ (gb125 ≠ s_) ∧ (s_ ≠ gb125) ∧ (Below w.heap.size w w')) ?_ ?_
    rotate_left
    ·intro hJ1_3_5
     refine join_ (σ := Nat × Nat) 3 #[Y,Y,Y,N,Y,Y,N,N] (fun s_ => [(12, .agg #[.int .u64 t126, .int .u64 t127]), (6, .pointer (some ⟨s_.1, 0, none⟩)), (7, .pointer (some ⟨s_.2, 0, none⟩))]) (fun s_ w' => (w'.cell? ⟨gb123, 0, none⟩ = some (.bool a0_0) ∧ w'.cell? ⟨gb123, 1, none⟩ = some (.int .u64 a0_1) ∧ w'.cell? ⟨gb123, 2, none⟩ = some (.int .u64 a0_2) ∧ w'.cell? ⟨gb124, 0, none⟩ = some (.bool a1_0) ∧ w'.cell? ⟨gb124, 1, none⟩ = some (.int .u64 a1_1) ∧ w'.cell? ⟨gb124, 2, none⟩ = some (.int .u64 a1_2)) ∧ (w'.heap[gb123]? = some (.cells #[.bool a0_0, .int .u64 a0_1, .int .u64 a0_2] 24 (0, 0))) ∧ (w'.heap[gb124]? = some (.cells #[.bool a1_0, .int .u64 a1_1, .int .u64 a1_2] 24 (0, 0))) ∧ (w'.heap[gb125]? = some (.cells #[.bool false, .int .u64 0, .int .u64 0] 24 (0, 0))) ∧ (w'.heap[s_.1]? = some (.cells #[.int .u64 0, .int .u64 0] 54 (0, 0))) ∧ (w'.heap[s_.2]? = some (.cells #[.int .u64 0, .int .u64 0] 54 (0, 0))) ∧ (w.heap.size ≤ s_.1) ∧ (w.heap.size ≤ s_.1) ∧ (gb123 ≠ s_.1) ∧ (s_.1 ≠ gb123) ∧ (gb124 ≠ s_.1) ∧ (s_.1 ≠ gb124) ∧ (gb125 ≠ s_.1) ∧ (s_.1 ≠ gb125) ∧ (s_.2 ≠ s_.1) ∧ (s_.1 ≠ s_.2) ∧ (w.heap.size ≤ s_.2) ∧ (w.heap.size ≤ s_.2) ∧ (gb123 ≠ s_.2) ∧ (s_.2 ≠ gb123) ∧ (gb124 ≠ s_.2) ∧ (s_.2 ≠ gb124) ∧ (gb125 ≠ s_.2) ∧ (s_.2 ≠ gb125) ∧ (Below w.heap.size w w')) ?_ ?_
     rotate_left
     ·intro hJ1_4_5
      refine join_ (σ := Unit) 4 #[Y,Y,Y,Y,N,N,N,N] (fun s_ => [(12, .agg #[.int .u64 t126, .int .u64 t127]), (14, .agg #[.int .u64 t128, .int .u64 t129])]) (fun s_ w' => (w'.cell? ⟨gb123, 0, none⟩ = some (.bool a0_0) ∧ w'.cell? ⟨gb123, 1, none⟩ = some (.int .u64 a0_1) ∧ w'.cell? ⟨gb123, 2, none⟩ = some (.int .u64 a0_2) ∧ w'.cell? ⟨gb124, 0, none⟩ = some (.bool a1_0) ∧ w'.cell? ⟨gb124, 1, none⟩ = some (.int .u64 a1_1) ∧ w'.cell? ⟨gb124, 2, none⟩ = some (.int .u64 a1_2)) ∧ (w'.heap[gb123]? = some (.cells #[.bool a0_0, .int .u64 a0_1, .int .u64 a0_2] 24 (0, 0))) ∧ (w'.heap[gb124]? = some (.cells #[.bool a1_0, .int .u64 a1_1, .int .u64 a1_2] 24 (0, 0))) ∧ (w'.heap[gb125]? = some (.cells #[.bool false, .int .u64 0, .int .u64 0] 24 (0, 0))) ∧ (Below w.heap.size w w')) ?_ ?_
      rotate_left
      ·intro hJ1_3
       refine join_ (σ := Nat) 4 #[Y,Y,Y,N,Y,N,N,N] (fun s_ => [(12, .agg #[.int .u64 t126, .int .u64 t127]), (6, .pointer (some ⟨s_, 0, none⟩))]) (fun s_ w' => (w'.cell? ⟨gb123, 0, none⟩ = some (.bool a0_0) ∧ w'.cell? ⟨gb123, 1, none⟩ = some (.int .u64 a0_1) ∧ w'.cell? ⟨gb123, 2, none⟩ = some (.int .u64 a0_2) ∧ w'.cell? ⟨gb124, 0, none⟩ = some (.bool a1_0) ∧ w'.cell? ⟨gb124, 1, none⟩ = some (.int .u64 a1_1) ∧ w'.cell? ⟨gb124, 2, none⟩ = some (.int .u64 a1_2)) ∧ (w'.heap[gb123]? = some (.cells #[.bool a0_0, .int .u64 a0_1, .int .u64 a0_2] 24 (0, 0))) ∧ (w'.heap[gb124]? = some (.cells #[.bool a1_0, .int .u64 a1_1, .int .u64 a1_2] 24 (0, 0))) ∧ (w'.heap[gb125]? = some (.cells #[.bool false, .int .u64 0, .int .u64 0] 24 (0, 0))) ∧ (w'.heap[s_]? = some (.cells #[.int .u64 0, .int .u64 0] 54 (0, 0))) ∧ (w.heap.size ≤ s_) ∧ (w.heap.size ≤ s_) ∧ (gb123 ≠ s_) ∧ (s_ ≠ gb123) ∧ (gb124 ≠ s_) ∧ (s_ ≠ gb124) ∧ (gb125 ≠ s_) ∧ (s_ ≠ gb125) ∧ (Below w.heap.size w w')) ?_ ?_
       rotate_left
       ·intro hJ1_4
        refine join_ (σ := Nat) 4 #[Y,Y,Y,N,N,Y,N,N] (fun s_ => [(12, .agg #[.int .u64 t126, .int .u64 t127]), (7, .pointer (some ⟨s_, 0, none⟩))]) (fun s_ w' => (w'.cell? ⟨gb123, 0, none⟩ = some (.bool a0_0) ∧ w'.cell? ⟨gb123, 1, none⟩ = some (.int .u64 a0_1) ∧ w'.cell? ⟨gb123, 2, none⟩ = some (.int .u64 a0_2) ∧ w'.cell? ⟨gb124, 0, none⟩ = some (.bool a1_0) ∧ w'.cell? ⟨gb124, 1, none⟩ = some (.int .u64 a1_1) ∧ w'.cell? ⟨gb124, 2, none⟩ = some (.int .u64 a1_2)) ∧ (w'.heap[gb123]? = some (.cells #[.bool a0_0, .int .u64 a0_1, .int .u64 a0_2] 24 (0, 0))) ∧ (w'.heap[gb124]? = some (.cells #[.bool a1_0, .int .u64 a1_1, .int .u64 a1_2] 24 (0, 0))) ∧ (w'.heap[gb125]? = some (.cells #[.bool false, .int .u64 0, .int .u64 0] 24 (0, 0))) ∧ (w'.heap[s_]? = some (.cells #[.int .u64 0, .int .u64 0] 54 (0, 0))) ∧ (w.heap.size ≤ s_) ∧ (w.heap.size ≤ s_) ∧ (gb123 ≠ s_) ∧ (s_ ≠ gb123) ∧ (gb124 ≠ s_) ∧ (s_ ≠ gb124) ∧ (gb125 ≠ s_) ∧ (s_ ≠ gb125) ∧ (Below w.heap.size w w')) ?_ ?_
        rotate_left
        ·intro hJ1_5
         refine join_ (σ := Nat × Nat) 4 #[Y,N,Y,N,Y,Y,N,N] (fun s_ => [(6, .pointer (some ⟨s_.1, 0, none⟩)), (7, .pointer (some ⟨s_.2, 0, none⟩))]) (fun s_ w' => (w'.cell? ⟨gb123, 0, none⟩ = some (.bool a0_0) ∧ w'.cell? ⟨gb123, 1, none⟩ = some (.int .u64 a0_1) ∧ w'.cell? ⟨gb123, 2, none⟩ = some (.int .u64 a0_2) ∧ w'.cell? ⟨gb124, 0, none⟩ = some (.bool a1_0) ∧ w'.cell? ⟨gb124, 1, none⟩ = some (.int .u64 a1_1) ∧ w'.cell? ⟨gb124, 2, none⟩ = some (.int .u64 a1_2)) ∧ (w'.heap[gb123]? = some (.cells #[.bool a0_0, .int .u64 a0_1, .int .u64 a0_2] 24 (0, 0))) ∧ (w'.heap[gb124]? = some (.cells #[.bool a1_0, .int .u64 a1_1, .int .u64 a1_2] 24 (0, 0))) ∧ (w'.heap[gb125]? = some (.cells #[.bool false, .int .u64 0, .int .u64 0] 24 (0, 0))) ∧ (w'.heap[s_.1]? = some (.cells #[.int .u64 0, .int .u64 0] 54 (0, 0))) ∧ (w'.heap[s_.2]? = some (.cells #[.int .u64 0, .int .u64 0] 54 (0, 0))) ∧ (w.heap.size ≤ s_.1) ∧ (w.heap.size ≤ s_.1) ∧ (gb123 ≠ s_.1) ∧ (s_.1 ≠ gb123) ∧ (gb124 ≠ s_.1) ∧ (s_.1 ≠ gb124) ∧ (gb125 ≠ s_.1) ∧ (s_.1 ≠ gb125) ∧ (s_.2 ≠ s_.1) ∧ (s_.1 ≠ s_.2) ∧ (w.heap.size ≤ s_.2) ∧ (w.heap.size ≤ s_.2) ∧ (gb123 ≠ s_.2) ∧ (s_.2 ≠ gb123) ∧ (gb124 ≠ s_.2) ∧ (s_.2 ≠ gb124) ∧ (gb125 ≠ s_.2) ∧ (s_.2 ≠ gb125) ∧ (Below w.heap.size w w')) ?_ ?_
         rotate_left
         ·intro hJ4_5
          refine join_ (σ := Unit) 5 #[Y,Y,Y,N,N,N,N,N] (fun s_ => [(12, .agg #[.int .u64 t126, .int .u64 t127])]) (fun s_ w' => (w'.cell? ⟨gb123, 0, none⟩ = some (.bool a0_0) ∧ w'.cell? ⟨gb123, 1, none⟩ = some (.int .u64 a0_1) ∧ w'.cell? ⟨gb123, 2, none⟩ = some (.int .u64 a0_2) ∧ w'.cell? ⟨gb124, 0, none⟩ = some (.bool a1_0) ∧ w'.cell? ⟨gb124, 1, none⟩ = some (.int .u64 a1_1) ∧ w'.cell? ⟨gb124, 2, none⟩ = some (.int .u64 a1_2)) ∧ (w'.heap[gb123]? = some (.cells #[.bool a0_0, .int .u64 a0_1, .int .u64 a0_2] 24 (0, 0))) ∧ (w'.heap[gb124]? = some (.cells #[.bool a1_0, .int .u64 a1_1, .int .u64 a1_2] 24 (0, 0))) ∧ (w'.heap[gb125]? = some (.cells #[.bool false, .int .u64 0, .int .u64 0] 24 (0, 0))) ∧ (Below w.heap.size w w')) ?_ ?_
          rotate_left
          ·intro hJ1
           refine join_ (σ := Nat) 5 #[Y,N,Y,N,Y,N,N,N] (fun s_ => [(6, .pointer (some ⟨s_, 0, none⟩))]) (fun s_ w' => (w'.cell? ⟨gb123, 0, none⟩ = some (.bool a0_0) ∧ w'.cell? ⟨gb123, 1, none⟩ = some (.int .u64 a0_1) ∧ w'.cell? ⟨gb123, 2, none⟩ = some (.int .u64 a0_2) ∧ w'.cell? ⟨gb124, 0, none⟩ = some (.bool a1_0) ∧ w'.cell? ⟨gb124, 1, none⟩ = some (.int .u64 a1_1) ∧ w'.cell? ⟨gb124, 2, none⟩ = some (.int .u64 a1_2)) ∧ (w'.heap[gb123]? = some (.cells #[.bool a0_0, .int .u64 a0_1, .int .u64 a0_2] 24 (0, 0))) ∧ (w'.heap[gb124]? = some (.cells #[.bool a1_0, .int .u64 a1_1, .int .u64 a1_2] 24 (0, 0))) ∧ (w'.heap[gb125]? = some (.cells #[.bool false, .int .u64 0, .int .u64 0] 24 (0, 0))) ∧ (w'.heap[s_]? = some (.cells #[.int .u64 0, .int .u64 0] 54 (0, 0))) ∧ (w.heap.size ≤ s_) ∧ (w.heap.size ≤ s_) ∧ (gb123 ≠ s_) ∧ (s_ ≠ gb123) ∧ (gb124 ≠ s_) ∧ (s_ ≠ gb124) ∧ (gb125 ≠ s_) ∧ (s_ ≠ gb125) ∧ (Below w.heap.size w w')) ?_ ?_
           rotate_left
           ·intro hJ4
            refine join_ (σ := Nat) 5 #[Y,N,Y,N,N,Y,N,N] (fun s_ => [(7, .pointer (some ⟨s_, 0, none⟩))]) (fun s_ w' => (w'.cell? ⟨gb123, 0, none⟩ = some (.bool a0_0) ∧ w'.cell? ⟨gb123, 1, none⟩ = some (.int .u64 a0_1) ∧ w'.cell? ⟨gb123, 2, none⟩ = some (.int .u64 a0_2) ∧ w'.cell? ⟨gb124, 0, none⟩ = some (.bool a1_0) ∧ w'.cell? ⟨gb124, 1, none⟩ = some (.int .u64 a1_1) ∧ w'.cell? ⟨gb124, 2, none⟩ = some (.int .u64 a1_2)) ∧ (w'.heap[gb123]? = some (.cells #[.bool a0_0, .int .u64 a0_1, .int .u64 a0_2] 24 (0, 0))) ∧ (w'.heap[gb124]? = some (.cells #[.bool a1_0, .int .u64 a1_1, .int .u64 a1_2] 24 (0, 0))) ∧ (w'.heap[gb125]? = some (.cells #[.bool false, .int .u64 0, .int .u64 0] 24 (0, 0))) ∧ (w'.heap[s_]? = some (.cells #[.int .u64 0, .int .u64 0] 54 (0, 0))) ∧ (w.heap.size ≤ s_) ∧ (w.heap.size ≤ s_) ∧ (gb123 ≠ s_) ∧ (s_ ≠ gb123) ∧ (gb124 ≠ s_) ∧ (s_ ≠ gb124) ∧ (gb125 ≠ s_) ∧ (s_ ≠ gb125) ∧ (Below w.heap.size w w')) ?_ ?_
            rotate_left
            ·intro hJ5
             refine three_ (i := 1) (j := 4) (k := 5) (Ni := some 12) (Nj := some 6) (Nk := some 7) #[Y,Y,Y,N,N,N,N,N] #[Y,N,Y,N,Y,N,N,N] #[Y,N,Y,N,N,Y,N,N] rfl rfl rfl rfl rfl rfl (three_of HT_.out (by kernel_rfl)) (by decide) (by decide) (by decide) (fun K hK => ?_) (fun K hK => ?_) (fun K hK => ?_)
             ·skip
              refine goes_ Try.func45 (by kernel_rfl) rfl #[.agg #[.bool a0_0, .int .u64 a0_1, .int .u64 a0_2]] (by rfl) rfl rfl (by (try simp only [List.map_toArray, List.map_cons, List.map_nil]); first | done | rfl | (simp only [List.length_drop, List.length_take]; rfl)) ?_
              with_reducible refine (big_of.calls a0_0 a0_1 a0_2 t126 t127 _ A3.out).mono ?_
              rintro e w116 ⟨rfl, hb⟩
              refine ⟨_, rfl, ?_⟩
              replace BK123 := bbZ BK123 hb
              replace BK124 := bbZ BK124 hb
              replace BK125 := bbZ BK125 hb
              replace HB := Aside0.mk (below_step HB.out hb)
              (try clear hb)
              (try clear hb2)
              (try clear hk)
              (try clear hi)
              refine hK.out _ _ ⟨(blk_cell BK123.out 0).trans rfl, (blk_cell BK123.out 1).trans rfl, (blk_cell BK123.out 2).trans rfl, (blk_cell BK124.out 0).trans rfl, (blk_cell BK124.out 1).trans rfl, (blk_cell BK124.out 2).trans rfl⟩ (fun hHeld => ?_)
              clear hK K
              refine norm_ (a' := ?_) ?_ ?_
              rotate_left
              ·show Act.put _ (some 12) _ = _
               simp only [Act.put, sA, sB, sC, i64_w, i32_w]
               rfl
              exact norm_ (by simp only [putAll, Act.put, sA, sB, sC] <;> rfl) (hJ1 () _ ⟨hHeld, BK123.out, BK124.out, BK125.out, (by repeat (first | (with_reducible first | exact HB.out | apply below_alloc | apply pw_below_drewN | apply below_drew1 | refine below_set ?_ GE123.out | refine below_set ?_ GE124.out | refine below_set ?_ GE125.out) | exact HB.out))⟩)
             ·skip
              refine box_step ?hg (N := 6) ?hd (cs := #[.int .u64 0, .int .u64 0]) (t := 54) ?hr ?_; (case hd => rfl); (case hg => rfl); (case hr => first | (go_simp; done) | (go_simp; rfl))
              intro gb130 hg w116 hbox hb
              have BK130 := Aside0.mk (hbox)
              have GW130 := szZ HB hg
              have GE130 := szZ HB hg
              have NB123_130 := nlZ BK123 hg
              have NB130_123 := ngZ BK123 hg
              have NB124_130 := nlZ BK124 hg
              have NB130_124 := ngZ BK124 hg
              have NB125_130 := nlZ BK125 hg
              have NB130_125 := ngZ BK125 hg
              replace BK123 := bbZ BK123 hb
              replace BK124 := bbZ BK124 hb
              replace BK125 := bbZ BK125 hb
              replace HB := Aside0.mk (below_step HB.out hb)
              clear hb hbox hg
              refine hK.out _ _ ⟨(blk_cell BK123.out 0).trans rfl, (blk_cell BK123.out 1).trans rfl, (blk_cell BK123.out 2).trans rfl, (blk_cell BK124.out 0).trans rfl, (blk_cell BK124.out 1).trans rfl, (blk_cell BK124.out 2).trans rfl⟩ (fun hHeld => ?_)
              clear hK K
              refine norm_ (a' := ?_) ?_ ?_
              rotate_left
              ·show Act.put _ (some 6) _ = _
               simp only [Act.put, sA, sB, sC, i64_w, i32_w]
               rfl
              exact norm_ (by simp only [putAll, Act.put, sA, sB, sC] <;> rfl) (hJ4 (gb130) _ ⟨hHeld, BK123.out, BK124.out, BK125.out, BK130.out, GW130.out, GE130.out, NB123_130.out, NB130_123.out, NB124_130.out, NB130_124.out, NB125_130.out, NB130_125.out, (by repeat (first | (with_reducible first | exact HB.out | apply below_alloc | apply pw_below_drewN | apply below_drew1 | refine below_set ?_ GE123.out | refine below_set ?_ GE124.out | refine below_set ?_ GE125.out | refine below_set ?_ GE130.out) | exact HB.out))⟩)
             ·skip
              refine box_step ?hg (N := 7) ?hd (cs := #[.int .u64 0, .int .u64 0]) (t := 54) ?hr ?_; (case hd => rfl); (case hg => rfl); (case hr => first | (go_simp; done) | (go_simp; rfl))
              intro gb131 hg w116 hbox hb
              have BK131 := Aside0.mk (hbox)
              have GW131 := szZ HB hg
              have GE131 := szZ HB hg
              have NB123_131 := nlZ BK123 hg
              have NB131_123 := ngZ BK123 hg
              have NB124_131 := nlZ BK124 hg
              have NB131_124 := ngZ BK124 hg
              have NB125_131 := nlZ BK125 hg
              have NB131_125 := ngZ BK125 hg
              replace BK123 := bbZ BK123 hb
              replace BK124 := bbZ BK124 hb
              replace BK125 := bbZ BK125 hb
              replace HB := Aside0.mk (below_step HB.out hb)
              clear hb hbox hg
              refine hK.out _ _ ⟨(blk_cell BK123.out 0).trans rfl, (blk_cell BK123.out 1).trans rfl, (blk_cell BK123.out 2).trans rfl, (blk_cell BK124.out 0).trans rfl, (blk_cell BK124.out 1).trans rfl, (blk_cell BK124.out 2).trans rfl⟩ (fun hHeld => ?_)
              clear hK K
              refine norm_ (a' := ?_) ?_ ?_
              rotate_left
              ·show Act.put _ (some 7) _ = _
               simp only [Act.put, sA, sB, sC, i64_w, i32_w]
               rfl
              exact norm_ (by simp only [putAll, Act.put, sA, sB, sC] <;> rfl) (hJ5 (gb131) _ ⟨hHeld, BK123.out, BK124.out, BK125.out, BK131.out, GW131.out, GE131.out, NB123_131.out, NB131_123.out, NB124_131.out, NB131_124.out, NB125_131.out, NB131_125.out, (by repeat (first | (with_reducible first | exact HB.out | apply below_alloc | apply pw_below_drewN | apply below_drew1 | refine below_set ?_ GE123.out | refine below_set ?_ GE124.out | refine below_set ?_ GE125.out | refine below_set ?_ GE131.out) | exact HB.out))⟩)
            ·skip
             rintro gb131 w117 ⟨hS_, h0_, h1_, h2_, h3_, h4_, h5_, h6_, h7_, h8_, h9_, h10_, h11_, h12_⟩
             have BK131 := Aside0.mk h3_
             have GW131 := Aside0.mk h4_
             have GE131 := Aside0.mk h5_
             have NB123_131 := Aside0.mk h6_
             have NB131_123 := Aside0.mk h7_
             have NB124_131 := Aside0.mk h8_
             have NB131_124 := Aside0.mk h9_
             have NB125_131 := Aside0.mk h10_
             have NB131_125 := Aside0.mk h11_
             replace BK123 := Aside0.mk h0_
             replace BK124 := Aside0.mk h1_
             replace BK125 := Aside0.mk h2_
             replace HB := Aside0.mk h12_
             clear h0_ h1_ h2_ h3_ h4_ h5_ h6_ h7_ h8_ h9_ h10_ h11_ h12_
             have hHeld : w117.cell? ⟨gb123, 0, none⟩ = some (.bool a0_0) ∧ w117.cell? ⟨gb123, 1, none⟩ = some (.int .u64 a0_1) ∧ w117.cell? ⟨gb123, 2, none⟩ = some (.int .u64 a0_2) ∧ w117.cell? ⟨gb124, 0, none⟩ = some (.bool a1_0) ∧ w117.cell? ⟨gb124, 1, none⟩ = some (.int .u64 a1_1) ∧ w117.cell? ⟨gb124, 2, none⟩ = some (.int .u64 a1_2) := hS_
             refine norm_ (a' := ?_) ?_ ?_
             rotate_left
             ·simp only [putAll, Act.put, sA, sB, sC]
              rfl
             refine two_ (i := 1) (j := 4) (Ni := some 12) (Nj := some 6) #[Y,Y,Y,N,N,Y,N,N] #[Y,N,Y,N,Y,Y,N,N] rfl rfl rfl rfl (two_of HT_.out (by kernel_rfl)) (by decide) (by decide) (fun K hK => ?_) (fun K hK => ?_)
             ·skip
              refine goes_ Try.func45 (by kernel_rfl) rfl #[.agg #[.bool a0_0, .int .u64 a0_1, .int .u64 a0_2]] (by rfl) rfl rfl (by (try simp only [List.map_toArray, List.map_cons, List.map_nil]); first | done | rfl | (simp only [List.length_drop, List.length_take]; rfl)) ?_
              with_reducible refine (big_of.calls a0_0 a0_1 a0_2 t126 t127 _ A3.out).mono ?_
              rintro e w118 ⟨rfl, hb⟩
              refine ⟨_, rfl, ?_⟩
              replace BK123 := bbZ BK123 hb
              replace BK124 := bbZ BK124 hb
              replace BK125 := bbZ BK125 hb
              replace BK131 := bbZ BK131 hb
              replace HB := Aside0.mk (below_step HB.out hb)
              (try clear hb)
              (try clear hb2)
              (try clear hk)
              (try clear hi)
              refine hK.out _ _ ⟨(blk_cell BK123.out 0).trans rfl, (blk_cell BK123.out 1).trans rfl, (blk_cell BK123.out 2).trans rfl, (blk_cell BK124.out 0).trans rfl, (blk_cell BK124.out 1).trans rfl, (blk_cell BK124.out 2).trans rfl⟩ (fun hHeld => ?_)
              clear hK K
              refine norm_ (a' := ?_) ?_ ?_
              rotate_left
              ·show Act.put _ (some 12) _ = _
               simp only [Act.put, sA, sB, sC, i64_w, i32_w]
               rfl
              exact norm_ (by simp only [putAll, Act.put, sA, sB, sC] <;> rfl) (hJ1_5 (gb131) _ ⟨hHeld, BK123.out, BK124.out, BK125.out, BK131.out, GW131.out, GE131.out, NB123_131.out, NB131_123.out, NB124_131.out, NB131_124.out, NB125_131.out, NB131_125.out, (by repeat (first | (with_reducible first | exact HB.out | apply below_alloc | apply pw_below_drewN | apply below_drew1 | refine below_set ?_ GE123.out | refine below_set ?_ GE124.out | refine below_set ?_ GE125.out | refine below_set ?_ GE131.out) | exact HB.out))⟩)
             ·skip
              refine box_step ?hg (N := 6) ?hd (cs := #[.int .u64 0, .int .u64 0]) (t := 54) ?hr ?_; (case hd => rfl); (case hg => rfl); (case hr => first | (go_simp; done) | (go_simp; rfl))
              intro gb130 hg w118 hbox hb
              have BK130 := Aside0.mk (hbox)
              have GW130 := szZ HB hg
              have GE130 := szZ HB hg
              have NB123_130 := nlZ BK123 hg
              have NB130_123 := ngZ BK123 hg
              have NB124_130 := nlZ BK124 hg
              have NB130_124 := ngZ BK124 hg
              have NB125_130 := nlZ BK125 hg
              have NB130_125 := ngZ BK125 hg
              have NB131_130 := nlZ BK131 hg
              have NB130_131 := ngZ BK131 hg
              replace BK123 := bbZ BK123 hb
              replace BK124 := bbZ BK124 hb
              replace BK125 := bbZ BK125 hb
              replace BK131 := bbZ BK131 hb
              replace HB := Aside0.mk (below_step HB.out hb)
              clear hb hbox hg
              refine hK.out _ _ ⟨(blk_cell BK123.out 0).trans rfl, (blk_cell BK123.out 1).trans rfl, (blk_cell BK123.out 2).trans rfl, (blk_cell BK124.out 0).trans rfl, (blk_cell BK124.out 1).trans rfl, (blk_cell BK124.out 2).trans rfl⟩ (fun hHeld => ?_)
              clear hK K
              refine norm_ (a' := ?_) ?_ ?_
              rotate_left
              ·show Act.put _ (some 6) _ = _
               simp only [Act.put, sA, sB, sC, i64_w, i32_w]
               rfl
              exact norm_ (by simp only [putAll, Act.put, sA, sB, sC] <;> rfl) (hJ4_5 (gb130, gb131) _ ⟨hHeld, BK123.out, BK124.out, BK125.out, BK130.out, BK131.out, GW130.out, GE130.out, NB123_130.out, NB130_123.out, NB124_130.out, NB130_124.out, NB125_130.out, NB130_125.out, NB131_130.out, NB130_131.out, GW131.out, GE131.out, NB123_131.out, NB131_123.out, NB124_131.out, NB131_124.out, NB125_131.out, NB131_125.out, (by repeat (first | (with_reducible first | exact HB.out | apply below_alloc | apply pw_below_drewN | apply below_drew1 | refine below_set ?_ GE123.out | refine below_set ?_ GE124.out | refine below_set ?_ GE125.out | refine below_set ?_ GE131.out | refine below_set ?_ GE130.out) | exact HB.out))⟩)
           ·skip
            rintro gb130 w117 ⟨hS_, h0_, h1_, h2_, h3_, h4_, h5_, h6_, h7_, h8_, h9_, h10_, h11_, h12_⟩
            have BK130 := Aside0.mk h3_
            have GW130 := Aside0.mk h4_
            have GE130 := Aside0.mk h5_
            have NB123_130 := Aside0.mk h6_
            have NB130_123 := Aside0.mk h7_
            have NB124_130 := Aside0.mk h8_
            have NB130_124 := Aside0.mk h9_
            have NB125_130 := Aside0.mk h10_
            have NB130_125 := Aside0.mk h11_
            replace BK123 := Aside0.mk h0_
            replace BK124 := Aside0.mk h1_
            replace BK125 := Aside0.mk h2_
            replace HB := Aside0.mk h12_
            clear h0_ h1_ h2_ h3_ h4_ h5_ h6_ h7_ h8_ h9_ h10_ h11_ h12_
            have hHeld : w117.cell? ⟨gb123, 0, none⟩ = some (.bool a0_0) ∧ w117.cell? ⟨gb123, 1, none⟩ = some (.int .u64 a0_1) ∧ w117.cell? ⟨gb123, 2, none⟩ = some (.int .u64 a0_2) ∧ w117.cell? ⟨gb124, 0, none⟩ = some (.bool a1_0) ∧ w117.cell? ⟨gb124, 1, none⟩ = some (.int .u64 a1_1) ∧ w117.cell? ⟨gb124, 2, none⟩ = some (.int .u64 a1_2) := hS_
            refine norm_ (a' := ?_) ?_ ?_
            rotate_left
            ·simp only [putAll, Act.put, sA, sB, sC]
             rfl
            refine two_ (i := 1) (j := 5) (Ni := some 12) (Nj := some 7) #[Y,Y,Y,N,Y,N,N,N] #[Y,N,Y,N,Y,Y,N,N] rfl rfl rfl rfl (two_of HT_.out (by kernel_rfl)) (by decide) (by decide) (fun K hK => ?_) (fun K hK => ?_)
            ·skip
             refine goes_ Try.func45 (by kernel_rfl) rfl #[.agg #[.bool a0_0, .int .u64 a0_1, .int .u64 a0_2]] (by rfl) rfl rfl (by (try simp only [List.map_toArray, List.map_cons, List.map_nil]); first | done | rfl | (simp only [List.length_drop, List.length_take]; rfl)) ?_
             with_reducible refine (big_of.calls a0_0 a0_1 a0_2 t126 t127 _ A3.out).mono ?_
             rintro e w118 ⟨rfl, hb⟩
             refine ⟨_, rfl, ?_⟩
             replace BK123 := bbZ BK123 hb
             replace BK124 := bbZ BK124 hb
             replace BK125 := bbZ BK125 hb
             replace BK130 := bbZ BK130 hb
             replace HB := Aside0.mk (below_step HB.out hb)
             (try clear hb)
             (try clear hb2)
             (try clear hk)
             (try clear hi)
             refine hK.out _ _ ⟨(blk_cell BK123.out 0).trans rfl, (blk_cell BK123.out 1).trans rfl, (blk_cell BK123.out 2).trans rfl, (blk_cell BK124.out 0).trans rfl, (blk_cell BK124.out 1).trans rfl, (blk_cell BK124.out 2).trans rfl⟩ (fun hHeld => ?_)
             clear hK K
             refine norm_ (a' := ?_) ?_ ?_
             rotate_left
             ·show Act.put _ (some 12) _ = _
              simp only [Act.put, sA, sB, sC, i64_w, i32_w]
              rfl
             exact norm_ (by simp only [putAll, Act.put, sA, sB, sC] <;> rfl) (hJ1_4 (gb130) _ ⟨hHeld, BK123.out, BK124.out, BK125.out, BK130.out, GW130.out, GE130.out, NB123_130.out, NB130_123.out, NB124_130.out, NB130_124.out, NB125_130.out, NB130_125.out, (by repeat (first | (with_reducible first | exact HB.out | apply below_alloc | apply pw_below_drewN | apply below_drew1 | refine below_set ?_ GE123.out | refine below_set ?_ GE124.out | refine below_set ?_ GE125.out | refine below_set ?_ GE130.out) | exact HB.out))⟩)
            ·skip
             refine box_step ?hg (N := 7) ?hd (cs := #[.int .u64 0, .int .u64 0]) (t := 54) ?hr ?_; (case hd => rfl); (case hg => rfl); (case hr => first | (go_simp; done) | (go_simp; rfl))
             intro gb131 hg w118 hbox hb
             have BK131 := Aside0.mk (hbox)
             have GW131 := szZ HB hg
             have GE131 := szZ HB hg
             have NB123_131 := nlZ BK123 hg
             have NB131_123 := ngZ BK123 hg
             have NB124_131 := nlZ BK124 hg
             have NB131_124 := ngZ BK124 hg
             have NB125_131 := nlZ BK125 hg
             have NB131_125 := ngZ BK125 hg
             have NB130_131 := nlZ BK130 hg
             have NB131_130 := ngZ BK130 hg
             replace BK123 := bbZ BK123 hb
             replace BK124 := bbZ BK124 hb
             replace BK125 := bbZ BK125 hb
             replace BK130 := bbZ BK130 hb
             replace HB := Aside0.mk (below_step HB.out hb)
             clear hb hbox hg
             refine hK.out _ _ ⟨(blk_cell BK123.out 0).trans rfl, (blk_cell BK123.out 1).trans rfl, (blk_cell BK123.out 2).trans rfl, (blk_cell BK124.out 0).trans rfl, (blk_cell BK124.out 1).trans rfl, (blk_cell BK124.out 2).trans rfl⟩ (fun hHeld => ?_)
             clear hK K
             refine norm_ (a' := ?_) ?_ ?_
             rotate_left
             ·show Act.put _ (some 7) _ = _
              simp only [Act.put, sA, sB, sC, i64_w, i32_w]
              rfl
             exact norm_ (by simp only [putAll, Act.put, sA, sB, sC] <;> rfl) (hJ4_5 (gb130, gb131) _ ⟨hHeld, BK123.out, BK124.out, BK125.out, BK130.out, BK131.out, GW130.out, GE130.out, NB123_130.out, NB130_123.out, NB124_130.out, NB130_124.out, NB125_130.out, NB130_125.out, NB131_130.out, NB130_131.out, GW131.out, GE131.out, NB123_131.out, NB131_123.out, NB124_131.out, NB131_124.out, NB125_131.out, NB131_125.out, (by repeat (first | (with_reducible first | exact HB.out | apply below_alloc | apply pw_below_drewN | apply below_drew1 | refine below_set ?_ GE123.out | refine below_set ?_ GE124.out | refine below_set ?_ GE125.out | refine below_set ?_ GE130.out | refine below_set ?_ GE131.out) | exact HB.out))⟩)
          ·skip
           rintro _ w117 ⟨hS_, h0_, h1_, h2_, h3_⟩
           replace BK123 := Aside0.mk h0_
           replace BK124 := Aside0.mk h1_
           replace BK125 := Aside0.mk h2_
           replace HB := Aside0.mk h3_
           clear h0_ h1_ h2_ h3_
           have hHeld : w117.cell? ⟨gb123, 0, none⟩ = some (.bool a0_0) ∧ w117.cell? ⟨gb123, 1, none⟩ = some (.int .u64 a0_1) ∧ w117.cell? ⟨gb123, 2, none⟩ = some (.int .u64 a0_2) ∧ w117.cell? ⟨gb124, 0, none⟩ = some (.bool a1_0) ∧ w117.cell? ⟨gb124, 1, none⟩ = some (.int .u64 a1_1) ∧ w117.cell? ⟨gb124, 2, none⟩ = some (.int .u64 a1_2) := hS_
           refine norm_ (a' := ?_) ?_ ?_
           rotate_left
           ·simp only [putAll, Act.put, sA, sB, sC]
            rfl
           refine three_ (i := 3) (j := 4) (k := 5) (Ni := some 14) (Nj := some 6) (Nk := some 7) #[Y,Y,Y,Y,N,N,N,N] #[Y,Y,Y,N,Y,N,N,N] #[Y,Y,Y,N,N,Y,N,N] rfl rfl rfl rfl rfl rfl (three_of HT_.out (by kernel_rfl)) (by decide) (by decide) (by decide) (fun K hK => ?_) (fun K hK => ?_) (fun K hK => ?_)
           ·skip
            refine goes_ Try.func45 (by kernel_rfl) rfl #[.agg #[.bool a1_0, .int .u64 a1_1, .int .u64 a1_2]] (by rfl) rfl rfl (by (try simp only [List.map_toArray, List.map_cons, List.map_nil]); first | done | rfl | (simp only [List.length_drop, List.length_take]; rfl)) ?_
            with_reducible refine (big_of.calls a1_0 a1_1 a1_2 t128 t129 _ A4.out).mono ?_
            rintro e w118 ⟨rfl, hb⟩
            refine ⟨_, rfl, ?_⟩
            replace BK123 := bbZ BK123 hb
            replace BK124 := bbZ BK124 hb
            replace BK125 := bbZ BK125 hb
            replace HB := Aside0.mk (below_step HB.out hb)
            (try clear hb)
            (try clear hb2)
            (try clear hk)
            (try clear hi)
            refine hK.out _ _ ⟨(blk_cell BK123.out 0).trans rfl, (blk_cell BK123.out 1).trans rfl, (blk_cell BK123.out 2).trans rfl, (blk_cell BK124.out 0).trans rfl, (blk_cell BK124.out 1).trans rfl, (blk_cell BK124.out 2).trans rfl⟩ (fun hHeld => ?_)
            clear hK K
            refine norm_ (a' := ?_) ?_ ?_
            rotate_left
            ·show Act.put _ (some 14) _ = _
             simp only [Act.put, sA, sB, sC, i64_w, i32_w]
             rfl
            exact norm_ (by simp only [putAll, Act.put, sA, sB, sC] <;> rfl) (hJ1_3 () _ ⟨hHeld, BK123.out, BK124.out, BK125.out, (by repeat (first | (with_reducible first | exact HB.out | apply below_alloc | apply pw_below_drewN | apply below_drew1 | refine below_set ?_ GE123.out | refine below_set ?_ GE124.out | refine below_set ?_ GE125.out) | exact HB.out))⟩)
           ·skip
            refine box_step ?hg (N := 6) ?hd (cs := #[.int .u64 0, .int .u64 0]) (t := 54) ?hr ?_; (case hd => rfl); (case hg => rfl); (case hr => first | (go_simp; done) | (go_simp; rfl))
            intro gb130 hg w118 hbox hb
            have BK130 := Aside0.mk (hbox)
            have GW130 := szZ HB hg
            have GE130 := szZ HB hg
            have NB123_130 := nlZ BK123 hg
            have NB130_123 := ngZ BK123 hg
            have NB124_130 := nlZ BK124 hg
            have NB130_124 := ngZ BK124 hg
            have NB125_130 := nlZ BK125 hg
            have NB130_125 := ngZ BK125 hg
            replace BK123 := bbZ BK123 hb
            replace BK124 := bbZ BK124 hb
            replace BK125 := bbZ BK125 hb
            replace HB := Aside0.mk (below_step HB.out hb)
            clear hb hbox hg
            refine hK.out _ _ ⟨(blk_cell BK123.out 0).trans rfl, (blk_cell BK123.out 1).trans rfl, (blk_cell BK123.out 2).trans rfl, (blk_cell BK124.out 0).trans rfl, (blk_cell BK124.out 1).trans rfl, (blk_cell BK124.out 2).trans rfl⟩ (fun hHeld => ?_)
            clear hK K
            refine norm_ (a' := ?_) ?_ ?_
            rotate_left
            ·show Act.put _ (some 6) _ = _
             simp only [Act.put, sA, sB, sC, i64_w, i32_w]
             rfl
            exact norm_ (by simp only [putAll, Act.put, sA, sB, sC] <;> rfl) (hJ1_4 (gb130) _ ⟨hHeld, BK123.out, BK124.out, BK125.out, BK130.out, GW130.out, GE130.out, NB123_130.out, NB130_123.out, NB124_130.out, NB130_124.out, NB125_130.out, NB130_125.out, (by repeat (first | (with_reducible first | exact HB.out | apply below_alloc | apply pw_below_drewN | apply below_drew1 | refine below_set ?_ GE123.out | refine below_set ?_ GE124.out | refine below_set ?_ GE125.out | refine below_set ?_ GE130.out) | exact HB.out))⟩)
           ·skip
            refine box_step ?hg (N := 7) ?hd (cs := #[.int .u64 0, .int .u64 0]) (t := 54) ?hr ?_; (case hd => rfl); (case hg => rfl); (case hr => first | (go_simp; done) | (go_simp; rfl))
            intro gb131 hg w118 hbox hb
            have BK131 := Aside0.mk (hbox)
            have GW131 := szZ HB hg
            have GE131 := szZ HB hg
            have NB123_131 := nlZ BK123 hg
            have NB131_123 := ngZ BK123 hg
            have NB124_131 := nlZ BK124 hg
            have NB131_124 := ngZ BK124 hg
            have NB125_131 := nlZ BK125 hg
            have NB131_125 := ngZ BK125 hg
            replace BK123 := bbZ BK123 hb
            replace BK124 := bbZ BK124 hb
            replace BK125 := bbZ BK125 hb
            replace HB := Aside0.mk (below_step HB.out hb)
            clear hb hbox hg
            refine hK.out _ _ ⟨(blk_cell BK123.out 0).trans rfl, (blk_cell BK123.out 1).trans rfl, (blk_cell BK123.out 2).trans rfl, (blk_cell BK124.out 0).trans rfl, (blk_cell BK124.out 1).trans rfl, (blk_cell BK124.out 2).trans rfl⟩ (fun hHeld => ?_)
            clear hK K
            refine norm_ (a' := ?_) ?_ ?_
            rotate_left
            ·show Act.put _ (some 7) _ = _
             simp only [Act.put, sA, sB, sC, i64_w, i32_w]
             rfl
            exact norm_ (by simp only [putAll, Act.put, sA, sB, sC] <;> rfl) (hJ1_5 (gb131) _ ⟨hHeld, BK123.out, BK124.out, BK125.out, BK131.out, GW131.out, GE131.out, NB123_131.out, NB131_123.out, NB124_131.out, NB131_124.out, NB125_131.out, NB131_125.out, (by repeat (first | (with_reducible first | exact HB.out | apply below_alloc | apply pw_below_drewN | apply below_drew1 | refine below_set ?_ GE123.out | refine below_set ?_ GE124.out | refine below_set ?_ GE125.out | refine below_set ?_ GE131.out) | exact HB.out))⟩)
         ·skip
          rintro ⟨gb130, gb131⟩ w118 ⟨hS_, h0_, h1_, h2_, h3_, h4_, h5_, h6_, h7_, h8_, h9_, h10_, h11_, h12_, h13_, h14_, h15_, h16_, h17_, h18_, h19_, h20_, h21_, h22_, h23_⟩
          have BK130 := Aside0.mk h3_
          have BK131 := Aside0.mk h4_
          have GW130 := Aside0.mk h5_
          have GE130 := Aside0.mk h6_
          have NB123_130 := Aside0.mk h7_
          have NB130_123 := Aside0.mk h8_
          have NB124_130 := Aside0.mk h9_
          have NB130_124 := Aside0.mk h10_
          have NB125_130 := Aside0.mk h11_
          have NB130_125 := Aside0.mk h12_
          have NB131_130 := Aside0.mk h13_
          have NB130_131 := Aside0.mk h14_
          have GW131 := Aside0.mk h15_
          have GE131 := Aside0.mk h16_
          have NB123_131 := Aside0.mk h17_
          have NB131_123 := Aside0.mk h18_
          have NB124_131 := Aside0.mk h19_
          have NB131_124 := Aside0.mk h20_
          have NB125_131 := Aside0.mk h21_
          have NB131_125 := Aside0.mk h22_
          replace BK123 := Aside0.mk h0_
          replace BK124 := Aside0.mk h1_
          replace BK125 := Aside0.mk h2_
          replace HB := Aside0.mk h23_
          clear h0_ h1_ h2_ h3_ h4_ h5_ h6_ h7_ h8_ h9_ h10_ h11_ h12_ h13_ h14_ h15_ h16_ h17_ h18_ h19_ h20_ h21_ h22_ h23_
          have hHeld : w118.cell? ⟨gb123, 0, none⟩ = some (.bool a0_0) ∧ w118.cell? ⟨gb123, 1, none⟩ = some (.int .u64 a0_1) ∧ w118.cell? ⟨gb123, 2, none⟩ = some (.int .u64 a0_2) ∧ w118.cell? ⟨gb124, 0, none⟩ = some (.bool a1_0) ∧ w118.cell? ⟨gb124, 1, none⟩ = some (.int .u64 a1_1) ∧ w118.cell? ⟨gb124, 2, none⟩ = some (.int .u64 a1_2) := hS_
          refine norm_ (a' := ?_) ?_ ?_
          rotate_left
          ·simp only [putAll, Act.put, sA, sB, sC]
           rfl
          refine one_ (i := 1) (N := some 12) #[Y,Y,Y,N,Y,Y,N,N] rfl rfl (one_of HT_.out (by kernel_rfl)) (by decide) (fun K hK => ?_)
          refine goes_ Try.func45 (by kernel_rfl) rfl #[.agg #[.bool a0_0, .int .u64 a0_1, .int .u64 a0_2]] (by rfl) rfl rfl (by (try simp only [List.map_toArray, List.map_cons, List.map_nil]); first | done | rfl | (simp only [List.length_drop, List.length_take]; rfl)) ?_
          with_reducible refine (big_of.calls a0_0 a0_1 a0_2 t126 t127 _ A3.out).mono ?_
          rintro e w119 ⟨rfl, hb⟩
          refine ⟨_, rfl, ?_⟩
          replace BK123 := bbZ BK123 hb
          replace BK124 := bbZ BK124 hb
          replace BK125 := bbZ BK125 hb
          replace BK130 := bbZ BK130 hb
          replace BK131 := bbZ BK131 hb
          replace HB := Aside0.mk (below_step HB.out hb)
          (try clear hb)
          (try clear hb2)
          (try clear hk)
          (try clear hi)
          refine hK.out _ _ ⟨(blk_cell BK123.out 0).trans rfl, (blk_cell BK123.out 1).trans rfl, (blk_cell BK123.out 2).trans rfl, (blk_cell BK124.out 0).trans rfl, (blk_cell BK124.out 1).trans rfl, (blk_cell BK124.out 2).trans rfl⟩ (fun hHeld => ?_)
          clear hK K
          refine norm_ (a' := ?_) ?_ ?_
          rotate_left
          ·show Act.put _ (some 12) _ = _
           simp only [Act.put, sA, sB, sC, i64_w, i32_w]
           rfl
          exact norm_ (by simp only [putAll, Act.put, sA, sB, sC] <;> rfl) (hJ1_4_5 (gb130, gb131) _ ⟨hHeld, BK123.out, BK124.out, BK125.out, BK130.out, BK131.out, GW130.out, GE130.out, NB123_130.out, NB130_123.out, NB124_130.out, NB130_124.out, NB125_130.out, NB130_125.out, NB131_130.out, NB130_131.out, GW131.out, GE131.out, NB123_131.out, NB131_123.out, NB124_131.out, NB131_124.out, NB125_131.out, NB131_125.out, (by repeat (first | (with_reducible first | exact HB.out | apply below_alloc | apply pw_below_drewN | apply below_drew1 | refine below_set ?_ GE123.out | refine below_set ?_ GE124.out | refine below_set ?_ GE125.out | refine below_set ?_ GE130.out | refine below_set ?_ GE131.out) | exact HB.out))⟩)
        ·skip
         rintro gb131 w118 ⟨hS_, h0_, h1_, h2_, h3_, h4_, h5_, h6_, h7_, h8_, h9_, h10_, h11_, h12_⟩
         have BK131 := Aside0.mk h3_
         have GW131 := Aside0.mk h4_
         have GE131 := Aside0.mk h5_
         have NB123_131 := Aside0.mk h6_
         have NB131_123 := Aside0.mk h7_
         have NB124_131 := Aside0.mk h8_
         have NB131_124 := Aside0.mk h9_
         have NB125_131 := Aside0.mk h10_
         have NB131_125 := Aside0.mk h11_
         replace BK123 := Aside0.mk h0_
         replace BK124 := Aside0.mk h1_
         replace BK125 := Aside0.mk h2_
         replace HB := Aside0.mk h12_
         clear h0_ h1_ h2_ h3_ h4_ h5_ h6_ h7_ h8_ h9_ h10_ h11_ h12_
         have hHeld : w118.cell? ⟨gb123, 0, none⟩ = some (.bool a0_0) ∧ w118.cell? ⟨gb123, 1, none⟩ = some (.int .u64 a0_1) ∧ w118.cell? ⟨gb123, 2, none⟩ = some (.int .u64 a0_2) ∧ w118.cell? ⟨gb124, 0, none⟩ = some (.bool a1_0) ∧ w118.cell? ⟨gb124, 1, none⟩ = some (.int .u64 a1_1) ∧ w118.cell? ⟨gb124, 2, none⟩ = some (.int .u64 a1_2) := hS_
         refine norm_ (a' := ?_) ?_ ?_
         rotate_left
         ·simp only [putAll, Act.put, sA, sB, sC]
          rfl
         refine two_ (i := 3) (j := 4) (Ni := some 14) (Nj := some 6) #[Y,Y,Y,Y,N,Y,N,N] #[Y,Y,Y,N,Y,Y,N,N] rfl rfl rfl rfl (two_of HT_.out (by kernel_rfl)) (by decide) (by decide) (fun K hK => ?_) (fun K hK => ?_)
         ·skip
          refine goes_ Try.func45 (by kernel_rfl) rfl #[.agg #[.bool a1_0, .int .u64 a1_1, .int .u64 a1_2]] (by rfl) rfl rfl (by (try simp only [List.map_toArray, List.map_cons, List.map_nil]); first | done | rfl | (simp only [List.length_drop, List.length_take]; rfl)) ?_
          with_reducible refine (big_of.calls a1_0 a1_1 a1_2 t128 t129 _ A4.out).mono ?_
          rintro e w119 ⟨rfl, hb⟩
          refine ⟨_, rfl, ?_⟩
          replace BK123 := bbZ BK123 hb
          replace BK124 := bbZ BK124 hb
          replace BK125 := bbZ BK125 hb
          replace BK131 := bbZ BK131 hb
          replace HB := Aside0.mk (below_step HB.out hb)
          (try clear hb)
          (try clear hb2)
          (try clear hk)
          (try clear hi)
          refine hK.out _ _ ⟨(blk_cell BK123.out 0).trans rfl, (blk_cell BK123.out 1).trans rfl, (blk_cell BK123.out 2).trans rfl, (blk_cell BK124.out 0).trans rfl, (blk_cell BK124.out 1).trans rfl, (blk_cell BK124.out 2).trans rfl⟩ (fun hHeld => ?_)
          clear hK K
          refine norm_ (a' := ?_) ?_ ?_
          rotate_left
          ·show Act.put _ (some 14) _ = _
           simp only [Act.put, sA, sB, sC, i64_w, i32_w]
           rfl
          exact norm_ (by simp only [putAll, Act.put, sA, sB, sC] <;> rfl) (hJ1_3_5 (gb131) _ ⟨hHeld, BK123.out, BK124.out, BK125.out, BK131.out, GW131.out, GE131.out, NB123_131.out, NB131_123.out, NB124_131.out, NB131_124.out, NB125_131.out, NB131_125.out, (by repeat (first | (with_reducible first | exact HB.out | apply below_alloc | apply pw_below_drewN | apply below_drew1 | refine below_set ?_ GE123.out | refine below_set ?_ GE124.out | refine below_set ?_ GE125.out | refine below_set ?_ GE131.out) | exact HB.out))⟩)
         ·skip
          refine box_step ?hg (N := 6) ?hd (cs := #[.int .u64 0, .int .u64 0]) (t := 54) ?hr ?_; (case hd => rfl); (case hg => rfl); (case hr => first | (go_simp; done) | (go_simp; rfl))
          intro gb130 hg w119 hbox hb
          have BK130 := Aside0.mk (hbox)
          have GW130 := szZ HB hg
          have GE130 := szZ HB hg
          have NB123_130 := nlZ BK123 hg
          have NB130_123 := ngZ BK123 hg
          have NB124_130 := nlZ BK124 hg
          have NB130_124 := ngZ BK124 hg
          have NB125_130 := nlZ BK125 hg
          have NB130_125 := ngZ BK125 hg
          have NB131_130 := nlZ BK131 hg
          have NB130_131 := ngZ BK131 hg
          replace BK123 := bbZ BK123 hb
          replace BK124 := bbZ BK124 hb
          replace BK125 := bbZ BK125 hb
          replace BK131 := bbZ BK131 hb
          replace HB := Aside0.mk (below_step HB.out hb)
          clear hb hbox hg
          refine hK.out _ _ ⟨(blk_cell BK123.out 0).trans rfl, (blk_cell BK123.out 1).trans rfl, (blk_cell BK123.out 2).trans rfl, (blk_cell BK124.out 0).trans rfl, (blk_cell BK124.out 1).trans rfl, (blk_cell BK124.out 2).trans rfl⟩ (fun hHeld => ?_)
          clear hK K
          refine norm_ (a' := ?_) ?_ ?_
          rotate_left
          ·show Act.put _ (some 6) _ = _
           simp only [Act.put, sA, sB, sC, i64_w, i32_w]
           rfl
          exact norm_ (by simp only [putAll, Act.put, sA, sB, sC] <;> rfl) (hJ1_4_5 (gb130, gb131) _ ⟨hHeld, BK123.out, BK124.out, BK125.out, BK130.out, BK131.out, GW130.out, GE130.out, NB123_130.out, NB130_123.out, NB124_130.out, NB130_124.out, NB125_130.out, NB130_125.out, NB131_130.out, NB130_131.out, GW131.out, GE131.out, NB123_131.out, NB131_123.out, NB124_131.out, NB131_124.out, NB125_131.out, NB131_125.out, (by repeat (first | (with_reducible first | exact HB.out | apply below_alloc | apply pw_below_drewN | apply below_drew1 | refine below_set ?_ GE123.out | refine below_set ?_ GE124.out | refine below_set ?_ GE125.out | refine below_set ?_ GE131.out | refine below_set ?_ GE130.out) | exact HB.out))⟩)
       ·skip
        rintro gb130 w118 ⟨hS_, h0_, h1_, h2_, h3_, h4_, h5_, h6_, h7_, h8_, h9_, h10_, h11_, h12_⟩
        have BK130 := Aside0.mk h3_
        have GW130 := Aside0.mk h4_
        have GE130 := Aside0.mk h5_
        have NB123_130 := Aside0.mk h6_
        have NB130_123 := Aside0.mk h7_
        have NB124_130 := Aside0.mk h8_
        have NB130_124 := Aside0.mk h9_
        have NB125_130 := Aside0.mk h10_
        have NB130_125 := Aside0.mk h11_
        replace BK123 := Aside0.mk h0_
        replace BK124 := Aside0.mk h1_
        replace BK125 := Aside0.mk h2_
        replace HB := Aside0.mk h12_
        clear h0_ h1_ h2_ h3_ h4_ h5_ h6_ h7_ h8_ h9_ h10_ h11_ h12_
        have hHeld : w118.cell? ⟨gb123, 0, none⟩ = some (.bool a0_0) ∧ w118.cell? ⟨gb123, 1, none⟩ = some (.int .u64 a0_1) ∧ w118.cell? ⟨gb123, 2, none⟩ = some (.int .u64 a0_2) ∧ w118.cell? ⟨gb124, 0, none⟩ = some (.bool a1_0) ∧ w118.cell? ⟨gb124, 1, none⟩ = some (.int .u64 a1_1) ∧ w118.cell? ⟨gb124, 2, none⟩ = some (.int .u64 a1_2) := hS_
        refine norm_ (a' := ?_) ?_ ?_
        rotate_left
        ·simp only [putAll, Act.put, sA, sB, sC]
         rfl
        refine two_ (i := 3) (j := 5) (Ni := some 14) (Nj := some 7) #[Y,Y,Y,Y,Y,N,N,N] #[Y,Y,Y,N,Y,Y,N,N] rfl rfl rfl rfl (two_of HT_.out (by kernel_rfl)) (by decide) (by decide) (fun K hK => ?_) (fun K hK => ?_)
        ·skip
         refine goes_ Try.func45 (by kernel_rfl) rfl #[.agg #[.bool a1_0, .int .u64 a1_1, .int .u64 a1_2]] (by rfl) rfl rfl (by (try simp only [List.map_toArray, List.map_cons, List.map_nil]); first | done | rfl | (simp only [List.length_drop, List.length_take]; rfl)) ?_
         with_reducible refine (big_of.calls a1_0 a1_1 a1_2 t128 t129 _ A4.out).mono ?_
         rintro e w119 ⟨rfl, hb⟩
         refine ⟨_, rfl, ?_⟩
         replace BK123 := bbZ BK123 hb
         replace BK124 := bbZ BK124 hb
         replace BK125 := bbZ BK125 hb
         replace BK130 := bbZ BK130 hb
         replace HB := Aside0.mk (below_step HB.out hb)
         (try clear hb)
         (try clear hb2)
         (try clear hk)
         (try clear hi)
         refine hK.out _ _ ⟨(blk_cell BK123.out 0).trans rfl, (blk_cell BK123.out 1).trans rfl, (blk_cell BK123.out 2).trans rfl, (blk_cell BK124.out 0).trans rfl, (blk_cell BK124.out 1).trans rfl, (blk_cell BK124.out 2).trans rfl⟩ (fun hHeld => ?_)
         clear hK K
         refine norm_ (a' := ?_) ?_ ?_
         rotate_left
         ·show Act.put _ (some 14) _ = _
          simp only [Act.put, sA, sB, sC, i64_w, i32_w]
          rfl
         exact norm_ (by simp only [putAll, Act.put, sA, sB, sC] <;> rfl) (hJ1_3_4 (gb130) _ ⟨hHeld, BK123.out, BK124.out, BK125.out, BK130.out, GW130.out, GE130.out, NB123_130.out, NB130_123.out, NB124_130.out, NB130_124.out, NB125_130.out, NB130_125.out, (by repeat (first | (with_reducible first | exact HB.out | apply below_alloc | apply pw_below_drewN | apply below_drew1 | refine below_set ?_ GE123.out | refine below_set ?_ GE124.out | refine below_set ?_ GE125.out | refine below_set ?_ GE130.out) | exact HB.out))⟩)
        ·skip
         refine box_step ?hg (N := 7) ?hd (cs := #[.int .u64 0, .int .u64 0]) (t := 54) ?hr ?_; (case hd => rfl); (case hg => rfl); (case hr => first | (go_simp; done) | (go_simp; rfl))
         intro gb131 hg w119 hbox hb
         have BK131 := Aside0.mk (hbox)
         have GW131 := szZ HB hg
         have GE131 := szZ HB hg
         have NB123_131 := nlZ BK123 hg
         have NB131_123 := ngZ BK123 hg
         have NB124_131 := nlZ BK124 hg
         have NB131_124 := ngZ BK124 hg
         have NB125_131 := nlZ BK125 hg
         have NB131_125 := ngZ BK125 hg
         have NB130_131 := nlZ BK130 hg
         have NB131_130 := ngZ BK130 hg
         replace BK123 := bbZ BK123 hb
         replace BK124 := bbZ BK124 hb
         replace BK125 := bbZ BK125 hb
         replace BK130 := bbZ BK130 hb
         replace HB := Aside0.mk (below_step HB.out hb)
         clear hb hbox hg
         refine hK.out _ _ ⟨(blk_cell BK123.out 0).trans rfl, (blk_cell BK123.out 1).trans rfl, (blk_cell BK123.out 2).trans rfl, (blk_cell BK124.out 0).trans rfl, (blk_cell BK124.out 1).trans rfl, (blk_cell BK124.out 2).trans rfl⟩ (fun hHeld => ?_)
         clear hK K
         refine norm_ (a' := ?_) ?_ ?_
         rotate_left
         ·show Act.put _ (some 7) _ = _
          simp only [Act.put, sA, sB, sC, i64_w, i32_w]
          rfl
         exact norm_ (by simp only [putAll, Act.put, sA, sB, sC] <;> rfl) (hJ1_4_5 (gb130, gb131) _ ⟨hHeld, BK123.out, BK124.out, BK125.out, BK130.out, BK131.out, GW130.out, GE130.out, NB123_130.out, NB130_123.out, NB124_130.out, NB130_124.out, NB125_130.out, NB130_125.out, NB131_130.out, NB130_131.out, GW131.out, GE131.out, NB123_131.out, NB131_123.out, NB124_131.out, NB131_124.out, NB125_131.out, NB131_125.out, (by repeat (first | (with_reducible first | exact HB.out | apply below_alloc | apply pw_below_drewN | apply below_drew1 | refine below_set ?_ GE123.out | refine below_set ?_ GE124.out | refine below_set ?_ GE125.out | refine below_set ?_ GE130.out | refine below_set ?_ GE131.out) | exact HB.out))⟩)
      ·skip
       rintro _ w118 ⟨hS_, h0_, h1_, h2_, h3_⟩
       replace BK123 := Aside0.mk h0_
       replace BK124 := Aside0.mk h1_
       replace BK125 := Aside0.mk h2_
       replace HB := Aside0.mk h3_
       clear h0_ h1_ h2_ h3_
       have hHeld : w118.cell? ⟨gb123, 0, none⟩ = some (.bool a0_0) ∧ w118.cell? ⟨gb123, 1, none⟩ = some (.int .u64 a0_1) ∧ w118.cell? ⟨gb123, 2, none⟩ = some (.int .u64 a0_2) ∧ w118.cell? ⟨gb124, 0, none⟩ = some (.bool a1_0) ∧ w118.cell? ⟨gb124, 1, none⟩ = some (.int .u64 a1_1) ∧ w118.cell? ⟨gb124, 2, none⟩ = some (.int .u64 a1_2) := hS_
       refine norm_ (a' := ?_) ?_ ?_
       rotate_left
       ·simp only [putAll, Act.put, sA, sB, sC]
        rfl
       refine two_ (i := 4) (j := 5) (Ni := some 6) (Nj := some 7) #[Y,Y,Y,Y,Y,N,N,N] #[Y,Y,Y,Y,N,Y,N,N] rfl rfl rfl rfl (two_of HT_.out (by kernel_rfl)) (by decide) (by decide) (fun K hK => ?_) (fun K hK => ?_)
       ·skip
        refine box_step ?hg (N := 6) ?hd (cs := #[.int .u64 0, .int .u64 0]) (t := 54) ?hr ?_; (case hd => rfl); (case hg => rfl); (case hr => first | (go_simp; done) | (go_simp; rfl))
        intro gb130 hg w119 hbox hb
        have BK130 := Aside0.mk (hbox)
        have GW130 := szZ HB hg
        have GE130 := szZ HB hg
        have NB123_130 := nlZ BK123 hg
        have NB130_123 := ngZ BK123 hg
        have NB124_130 := nlZ BK124 hg
        have NB130_124 := ngZ BK124 hg
        have NB125_130 := nlZ BK125 hg
        have NB130_125 := ngZ BK125 hg
        replace BK123 := bbZ BK123 hb
        replace BK124 := bbZ BK124 hb
        replace BK125 := bbZ BK125 hb
        replace HB := Aside0.mk (below_step HB.out hb)
        clear hb hbox hg
        refine hK.out _ _ ⟨(blk_cell BK123.out 0).trans rfl, (blk_cell BK123.out 1).trans rfl, (blk_cell BK123.out 2).trans rfl, (blk_cell BK124.out 0).trans rfl, (blk_cell BK124.out 1).trans rfl, (blk_cell BK124.out 2).trans rfl⟩ (fun hHeld => ?_)
        clear hK K
        refine norm_ (a' := ?_) ?_ ?_
        rotate_left
        ·show Act.put _ (some 6) _ = _
         simp only [Act.put, sA, sB, sC, i64_w, i32_w]
         rfl
        exact norm_ (by simp only [putAll, Act.put, sA, sB, sC] <;> rfl) (hJ1_3_4 (gb130) _ ⟨hHeld, BK123.out, BK124.out, BK125.out, BK130.out, GW130.out, GE130.out, NB123_130.out, NB130_123.out, NB124_130.out, NB130_124.out, NB125_130.out, NB130_125.out, (by repeat (first | (with_reducible first | exact HB.out | apply below_alloc | apply pw_below_drewN | apply below_drew1 | refine below_set ?_ GE123.out | refine below_set ?_ GE124.out | refine below_set ?_ GE125.out | refine below_set ?_ GE130.out) | exact HB.out))⟩)
       ·skip
        refine box_step ?hg (N := 7) ?hd (cs := #[.int .u64 0, .int .u64 0]) (t := 54) ?hr ?_; (case hd => rfl); (case hg => rfl); (case hr => first | (go_simp; done) | (go_simp; rfl))
        intro gb131 hg w119 hbox hb
        have BK131 := Aside0.mk (hbox)
        have GW131 := szZ HB hg
        have GE131 := szZ HB hg
        have NB123_131 := nlZ BK123 hg
        have NB131_123 := ngZ BK123 hg
        have NB124_131 := nlZ BK124 hg
        have NB131_124 := ngZ BK124 hg
        have NB125_131 := nlZ BK125 hg
        have NB131_125 := ngZ BK125 hg
        replace BK123 := bbZ BK123 hb
        replace BK124 := bbZ BK124 hb
        replace BK125 := bbZ BK125 hb
        replace HB := Aside0.mk (below_step HB.out hb)
        clear hb hbox hg
        refine hK.out _ _ ⟨(blk_cell BK123.out 0).trans rfl, (blk_cell BK123.out 1).trans rfl, (blk_cell BK123.out 2).trans rfl, (blk_cell BK124.out 0).trans rfl, (blk_cell BK124.out 1).trans rfl, (blk_cell BK124.out 2).trans rfl⟩ (fun hHeld => ?_)
        clear hK K
        refine norm_ (a' := ?_) ?_ ?_
        rotate_left
        ·show Act.put _ (some 7) _ = _
         simp only [Act.put, sA, sB, sC, i64_w, i32_w]
         rfl
        exact norm_ (by simp only [putAll, Act.put, sA, sB, sC] <;> rfl) (hJ1_3_5 (gb131) _ ⟨hHeld, BK123.out, BK124.out, BK125.out, BK131.out, GW131.out, GE131.out, NB123_131.out, NB131_123.out, NB124_131.out, NB131_124.out, NB125_131.out, NB131_125.out, (by repeat (first | (with_reducible first | exact HB.out | apply below_alloc | apply pw_below_drewN | apply below_drew1 | refine below_set ?_ GE123.out | refine below_set ?_ GE124.out | refine below_set ?_ GE125.out | refine below_set ?_ GE131.out) | exact HB.out))⟩)
     ·skip
      rintro ⟨gb130, gb131⟩ w119 ⟨hS_, h0_, h1_, h2_, h3_, h4_, h5_, h6_, h7_, h8_, h9_, h10_, h11_, h12_, h13_, h14_, h15_, h16_, h17_, h18_, h19_, h20_, h21_, h22_, h23_⟩
      have BK130 := Aside0.mk h3_
      have BK131 := Aside0.mk h4_
      have GW130 := Aside0.mk h5_
      have GE130 := Aside0.mk h6_
      have NB123_130 := Aside0.mk h7_
      have NB130_123 := Aside0.mk h8_
      have NB124_130 := Aside0.mk h9_
      have NB130_124 := Aside0.mk h10_
      have NB125_130 := Aside0.mk h11_
      have NB130_125 := Aside0.mk h12_
      have NB131_130 := Aside0.mk h13_
      have NB130_131 := Aside0.mk h14_
      have GW131 := Aside0.mk h15_
      have GE131 := Aside0.mk h16_
      have NB123_131 := Aside0.mk h17_
      have NB131_123 := Aside0.mk h18_
      have NB124_131 := Aside0.mk h19_
      have NB131_124 := Aside0.mk h20_
      have NB125_131 := Aside0.mk h21_
      have NB131_125 := Aside0.mk h22_
      replace BK123 := Aside0.mk h0_
      replace BK124 := Aside0.mk h1_
      replace BK125 := Aside0.mk h2_
      replace HB := Aside0.mk h23_
      clear h0_ h1_ h2_ h3_ h4_ h5_ h6_ h7_ h8_ h9_ h10_ h11_ h12_ h13_ h14_ h15_ h16_ h17_ h18_ h19_ h20_ h21_ h22_ h23_
      have hHeld : w119.cell? ⟨gb123, 0, none⟩ = some (.bool a0_0) ∧ w119.cell? ⟨gb123, 1, none⟩ = some (.int .u64 a0_1) ∧ w119.cell? ⟨gb123, 2, none⟩ = some (.int .u64 a0_2) ∧ w119.cell? ⟨gb124, 0, none⟩ = some (.bool a1_0) ∧ w119.cell? ⟨gb124, 1, none⟩ = some (.int .u64 a1_1) ∧ w119.cell? ⟨gb124, 2, none⟩ = some (.int .u64 a1_2) := hS_
      refine norm_ (a' := ?_) ?_ ?_
      rotate_left
      ·simp only [putAll, Act.put, sA, sB, sC]
       rfl
      refine one_ (i := 3) (N := some 14) #[Y,Y,Y,Y,Y,Y,N,N] rfl rfl (one_of HT_.out (by kernel_rfl)) (by decide) (fun K hK => ?_)
      refine goes_ Try.func45 (by kernel_rfl) rfl #[.agg #[.bool a1_0, .int .u64 a1_1, .int .u64 a1_2]] (by rfl) rfl rfl (by (try simp only [List.map_toArray, List.map_cons, List.map_nil]); first | done | rfl | (simp only [List.length_drop, List.length_take]; rfl)) ?_
      with_reducible refine (big_of.calls a1_0 a1_1 a1_2 t128 t129 _ A4.out).mono ?_
      rintro e w120 ⟨rfl, hb⟩
      refine ⟨_, rfl, ?_⟩
      replace BK123 := bbZ BK123 hb
      replace BK124 := bbZ BK124 hb
      replace BK125 := bbZ BK125 hb
      replace BK130 := bbZ BK130 hb
      replace BK131 := bbZ BK131 hb
      replace HB := Aside0.mk (below_step HB.out hb)
      (try clear hb)
      (try clear hb2)
      (try clear hk)
      (try clear hi)
      refine hK.out _ _ ⟨(blk_cell BK123.out 0).trans rfl, (blk_cell BK123.out 1).trans rfl, (blk_cell BK123.out 2).trans rfl, (blk_cell BK124.out 0).trans rfl, (blk_cell BK124.out 1).trans rfl, (blk_cell BK124.out 2).trans rfl⟩ (fun hHeld => ?_)
      clear hK K
      refine norm_ (a' := ?_) ?_ ?_
      rotate_left
      ·show Act.put _ (some 14) _ = _
       simp only [Act.put, sA, sB, sC, i64_w, i32_w]
       rfl
      exact norm_ (by simp only [putAll, Act.put, sA, sB, sC] <;> rfl) (hJ1_3_4_5 (gb130, gb131) _ ⟨hHeld, BK123.out, BK124.out, BK125.out, BK130.out, BK131.out, GW130.out, GE130.out, NB123_130.out, NB130_123.out, NB124_130.out, NB130_124.out, NB125_130.out, NB130_125.out, NB131_130.out, NB130_131.out, GW131.out, GE131.out, NB123_131.out, NB131_123.out, NB124_131.out, NB131_124.out, NB125_131.out, NB131_125.out, (by repeat (first | (with_reducible first | exact HB.out | apply below_alloc | apply pw_below_drewN | apply below_drew1 | refine below_set ?_ GE123.out | refine below_set ?_ GE124.out | refine below_set ?_ GE125.out | refine below_set ?_ GE130.out | refine below_set ?_ GE131.out) | exact HB.out))⟩)
    ·skip
     rintro gb131 w119 ⟨hS_, h0_, h1_, h2_, h3_, h4_, h5_, h6_, h7_, h8_, h9_, h10_, h11_, h12_⟩
     have BK131 := Aside0.mk h3_
     have GW131 := Aside0.mk h4_
     have GE131 := Aside0.mk h5_
     have NB123_131 := Aside0.mk h6_
     have NB131_123 := Aside0.mk h7_
     have NB124_131 := Aside0.mk h8_
     have NB131_124 := Aside0.mk h9_
     have NB125_131 := Aside0.mk h10_
     have NB131_125 := Aside0.mk h11_
     replace BK123 := Aside0.mk h0_
     replace BK124 := Aside0.mk h1_
     replace BK125 := Aside0.mk h2_
     replace HB := Aside0.mk h12_
     clear h0_ h1_ h2_ h3_ h4_ h5_ h6_ h7_ h8_ h9_ h10_ h11_ h12_
     have hHeld : w119.cell? ⟨gb123, 0, none⟩ = some (.bool a0_0) ∧ w119.cell? ⟨gb123, 1, none⟩ = some (.int .u64 a0_1) ∧ w119.cell? ⟨gb123, 2, none⟩ = some (.int .u64 a0_2) ∧ w119.cell? ⟨gb124, 0, none⟩ = some (.bool a1_0) ∧ w119.cell? ⟨gb124, 1, none⟩ = some (.int .u64 a1_1) ∧ w119.cell? ⟨gb124, 2, none⟩ = some (.int .u64 a1_2) := hS_
     refine norm_ (a' := ?_) ?_ ?_
     rotate_left
     ·simp only [putAll, Act.put, sA, sB, sC]
      rfl
     refine one_ (i := 4) (N := some 6) #[Y,Y,Y,Y,Y,Y,N,N] rfl rfl (one_of HT_.out (by kernel_rfl)) (by decide) (fun K hK => ?_)
     refine box_step ?hg (N := 6) ?hd (cs := #[.int .u64 0, .int .u64 0]) (t := 54) ?hr ?_; (case hd => rfl); (case hg => rfl); (case hr => first | (go_simp; done) | (go_simp; rfl))
     intro gb130 hg w120 hbox hb
     have BK130 := Aside0.mk (hbox)
     have GW130 := szZ HB hg
     have GE130 := szZ HB hg
     have NB123_130 := nlZ BK123 hg
     have NB130_123 := ngZ BK123 hg
     have NB124_130 := nlZ BK124 hg
     have NB130_124 := ngZ BK124 hg
     have NB125_130 := nlZ BK125 hg
     have NB130_125 := ngZ BK125 hg
     have NB131_130 := nlZ BK131 hg
     have NB130_131 := ngZ BK131 hg
     replace BK123 := bbZ BK123 hb
     replace BK124 := bbZ BK124 hb
     replace BK125 := bbZ BK125 hb
     replace BK131 := bbZ BK131 hb
     replace HB := Aside0.mk (below_step HB.out hb)
     clear hb hbox hg
     refine hK.out _ _ ⟨(blk_cell BK123.out 0).trans rfl, (blk_cell BK123.out 1).trans rfl, (blk_cell BK123.out 2).trans rfl, (blk_cell BK124.out 0).trans rfl, (blk_cell BK124.out 1).trans rfl, (blk_cell BK124.out 2).trans rfl⟩ (fun hHeld => ?_)
     clear hK K
     refine norm_ (a' := ?_) ?_ ?_
     rotate_left
     ·show Act.put _ (some 6) _ = _
      simp only [Act.put, sA, sB, sC, i64_w, i32_w]
      rfl
     exact norm_ (by simp only [putAll, Act.put, sA, sB, sC] <;> rfl) (hJ1_3_4_5 (gb130, gb131) _ ⟨hHeld, BK123.out, BK124.out, BK125.out, BK130.out, BK131.out, GW130.out, GE130.out, NB123_130.out, NB130_123.out, NB124_130.out, NB130_124.out, NB125_130.out, NB130_125.out, NB131_130.out, NB130_131.out, GW131.out, GE131.out, NB123_131.out, NB131_123.out, NB124_131.out, NB131_124.out, NB125_131.out, NB131_125.out, (by repeat (first | (with_reducible first | exact HB.out | apply below_alloc | apply pw_below_drewN | apply below_drew1 | refine below_set ?_ GE123.out | refine below_set ?_ GE124.out | refine below_set ?_ GE125.out | refine below_set ?_ GE131.out | refine below_set ?_ GE130.out) | exact HB.out))⟩)
   ·skip
    rintro gb130 w119 ⟨hS_, h0_, h1_, h2_, h3_, h4_, h5_, h6_, h7_, h8_, h9_, h10_, h11_, h12_⟩
    have BK130 := Aside0.mk h3_
    have GW130 := Aside0.mk h4_
    have GE130 := Aside0.mk h5_
    have NB123_130 := Aside0.mk h6_
    have NB130_123 := Aside0.mk h7_
    have NB124_130 := Aside0.mk h8_
    have NB130_124 := Aside0.mk h9_
    have NB125_130 := Aside0.mk h10_
    have NB130_125 := Aside0.mk h11_
    replace BK123 := Aside0.mk h0_
    replace BK124 := Aside0.mk h1_
    replace BK125 := Aside0.mk h2_
    replace HB := Aside0.mk h12_
    clear h0_ h1_ h2_ h3_ h4_ h5_ h6_ h7_ h8_ h9_ h10_ h11_ h12_
    have hHeld : w119.cell? ⟨gb123, 0, none⟩ = some (.bool a0_0) ∧ w119.cell? ⟨gb123, 1, none⟩ = some (.int .u64 a0_1) ∧ w119.cell? ⟨gb123, 2, none⟩ = some (.int .u64 a0_2) ∧ w119.cell? ⟨gb124, 0, none⟩ = some (.bool a1_0) ∧ w119.cell? ⟨gb124, 1, none⟩ = some (.int .u64 a1_1) ∧ w119.cell? ⟨gb124, 2, none⟩ = some (.int .u64 a1_2) := hS_
    refine norm_ (a' := ?_) ?_ ?_
    rotate_left
    ·simp only [putAll, Act.put, sA, sB, sC]
     rfl
    refine one_ (i := 5) (N := some 7) #[Y,Y,Y,Y,Y,Y,N,N] rfl rfl (one_of HT_.out (by kernel_rfl)) (by decide) (fun K hK => ?_)
    refine box_step ?hg (N := 7) ?hd (cs := #[.int .u64 0, .int .u64 0]) (t := 54) ?hr ?_; (case hd => rfl); (case hg => rfl); (case hr => first | (go_simp; done) | (go_simp; rfl))
    intro gb131 hg w120 hbox hb
    have BK131 := Aside0.mk (hbox)
    have GW131 := szZ HB hg
    have GE131 := szZ HB hg
    have NB123_131 := nlZ BK123 hg
    have NB131_123 := ngZ BK123 hg
    have NB124_131 := nlZ BK124 hg
    have NB131_124 := ngZ BK124 hg
    have NB125_131 := nlZ BK125 hg
    have NB131_125 := ngZ BK125 hg
    have NB130_131 := nlZ BK130 hg
    have NB131_130 := ngZ BK130 hg
    replace BK123 := bbZ BK123 hb
    replace BK124 := bbZ BK124 hb
    replace BK125 := bbZ BK125 hb
    replace BK130 := bbZ BK130 hb
    replace HB := Aside0.mk (below_step HB.out hb)
    clear hb hbox hg
    refine hK.out _ _ ⟨(blk_cell BK123.out 0).trans rfl, (blk_cell BK123.out 1).trans rfl, (blk_cell BK123.out 2).trans rfl, (blk_cell BK124.out 0).trans rfl, (blk_cell BK124.out 1).trans rfl, (blk_cell BK124.out 2).trans rfl⟩ (fun hHeld => ?_)
    clear hK K
    refine norm_ (a' := ?_) ?_ ?_
    rotate_left
    ·show Act.put _ (some 7) _ = _
     simp only [Act.put, sA, sB, sC, i64_w, i32_w]
     rfl
    exact norm_ (by simp only [putAll, Act.put, sA, sB, sC] <;> rfl) (hJ1_3_4_5 (gb130, gb131) _ ⟨hHeld, BK123.out, BK124.out, BK125.out, BK130.out, BK131.out, GW130.out, GE130.out, NB123_130.out, NB130_123.out, NB124_130.out, NB130_124.out, NB125_130.out, NB130_125.out, NB131_130.out, NB130_131.out, GW131.out, GE131.out, NB123_131.out, NB131_123.out, NB124_131.out, NB131_124.out, NB125_131.out, NB131_125.out, (by repeat (first | (with_reducible first | exact HB.out | apply below_alloc | apply pw_below_drewN | apply below_drew1 | refine below_set ?_ GE123.out | refine below_set ?_ GE124.out | refine below_set ?_ GE125.out | refine below_set ?_ GE130.out | refine below_set ?_ GE131.out) | exact HB.out))⟩)
  rintro ⟨gb130, gb131⟩ w120 ⟨hS_, h0_, h1_, h2_, h3_, h4_, h5_, h6_, h7_, h8_, h9_, h10_, h11_, h12_, h13_, h14_, h15_, h16_, h17_, h18_, h19_, h20_, h21_, h22_, h23_⟩
  have BK130 := Aside0.mk h3_
  have BK131 := Aside0.mk h4_
  have GW130 := Aside0.mk h5_
  have GE130 := Aside0.mk h6_
  have NB123_130 := Aside0.mk h7_
  have NB130_123 := Aside0.mk h8_
  have NB124_130 := Aside0.mk h9_
  have NB130_124 := Aside0.mk h10_
  have NB125_130 := Aside0.mk h11_
  have NB130_125 := Aside0.mk h12_
  have NB131_130 := Aside0.mk h13_
  have NB130_131 := Aside0.mk h14_
  have GW131 := Aside0.mk h15_
  have GE131 := Aside0.mk h16_
  have NB123_131 := Aside0.mk h17_
  have NB131_123 := Aside0.mk h18_
  have NB124_131 := Aside0.mk h19_
  have NB131_124 := Aside0.mk h20_
  have NB125_131 := Aside0.mk h21_
  have NB131_125 := Aside0.mk h22_
  replace BK123 := Aside0.mk h0_
  replace BK124 := Aside0.mk h1_
  replace BK125 := Aside0.mk h2_
  replace HB := Aside0.mk h23_
  clear h0_ h1_ h2_ h3_ h4_ h5_ h6_ h7_ h8_ h9_ h10_ h11_ h12_ h13_ h14_ h15_ h16_ h17_ h18_ h19_ h20_ h21_ h22_ h23_
  have hHeld : w120.cell? ⟨gb123, 0, none⟩ = some (.bool a0_0) ∧ w120.cell? ⟨gb123, 1, none⟩ = some (.int .u64 a0_1) ∧ w120.cell? ⟨gb123, 2, none⟩ = some (.int .u64 a0_2) ∧ w120.cell? ⟨gb124, 0, none⟩ = some (.bool a1_0) ∧ w120.cell? ⟨gb124, 1, none⟩ = some (.int .u64 a1_1) ∧ w120.cell? ⟨gb124, 2, none⟩ = some (.int .u64 a1_2) := hS_
  refine norm_ (a' := ?_) ?_ ?_
  rotate_left
  ·simp only [putAll, Act.put, sA, sB, sC]
   rfl
  refine one_ (i := 6) (N := none) #[Y,Y,Y,Y,Y,Y,Y,N] rfl rfl (one_of HT_.out (by kernel_rfl)) (by decide) (fun K hK => ?_)
  have hs121 : w120.cell? ⟨gb130, 0, none⟩ = some (.int .u64 0) := (blk_cell BK130.out 0).trans rfl
  have hfs121 := blk_frozen BK130.out 0
  have hns121_0 := NB123_130.out
  have hns121_1 := NB124_130.out
  have hns121_2 := NB125_130.out
  have hns121_4 := NB131_130.out
  have hms121_0 := NB130_123.out
  have hms121_1 := NB130_124.out
  have hms121_2 := NB130_125.out
  have hms121_4 := NB130_131.out
  have hs122 : w120.cell? ⟨gb130, 1, none⟩ = some (.int .u64 0) := (blk_cell BK130.out 1).trans rfl
  have hfs122 := blk_frozen BK130.out 1
  have hns122_0 := NB123_130.out
  have hns122_1 := NB124_130.out
  have hns122_2 := NB125_130.out
  have hns122_4 := NB131_130.out
  have hms122_0 := NB130_123.out
  have hms122_1 := NB130_124.out
  have hms122_2 := NB130_125.out
  have hms122_4 := NB130_131.out
  refine skip_ (w1 := ?_) (by rfl) rfl ?_ ?_
  rotate_left
  ·go_simp
   rfl
  refine hK.out _ _ ⟨((cell_far (p := ⟨gb130, _, none⟩) NB123_130.out _).trans (((cell_far (p := ⟨gb130, _, none⟩) NB123_130.out _).trans (hHeld.1)))), ((cell_far (p := ⟨gb130, _, none⟩) NB123_130.out _).trans (((cell_far (p := ⟨gb130, _, none⟩) NB123_130.out _).trans (hHeld.2.1)))), ((cell_far (p := ⟨gb130, _, none⟩) NB123_130.out _).trans (((cell_far (p := ⟨gb130, _, none⟩) NB123_130.out _).trans (hHeld.2.2.1)))), ((cell_far (p := ⟨gb130, _, none⟩) NB124_130.out _).trans (((cell_far (p := ⟨gb130, _, none⟩) NB124_130.out _).trans (hHeld.2.2.2.1)))), ((cell_far (p := ⟨gb130, _, none⟩) NB124_130.out _).trans (((cell_far (p := ⟨gb130, _, none⟩) NB124_130.out _).trans (hHeld.2.2.2.2.1)))), ((cell_far (p := ⟨gb130, _, none⟩) NB124_130.out _).trans (((cell_far (p := ⟨gb130, _, none⟩) NB124_130.out _).trans (hHeld.2.2.2.2.2))))⟩ (fun hHeld => ?_)
  clear hK K
  refine one_ (i := 7) (N := none) #[Y,Y,Y,Y,Y,Y,Y,Y] rfl rfl (one_of HT_.out (by kernel_rfl)) (by decide) (fun K hK => ?_)
  have hs123 : w120.cell? ⟨gb131, 0, none⟩ = some (.int .u64 0) := (blk_cell BK131.out 0).trans rfl
  have hfs123 := blk_frozen BK131.out 0
  have hns123_0 := NB123_131.out
  have hns123_1 := NB124_131.out
  have hns123_2 := NB125_131.out
  have hns123_3 := NB130_131.out
  have hms123_0 := NB131_123.out
  have hms123_1 := NB131_124.out
  have hms123_2 := NB131_125.out
  have hms123_3 := NB131_130.out
  have hs124 : w120.cell? ⟨gb131, 1, none⟩ = some (.int .u64 0) := (blk_cell BK131.out 1).trans rfl
  have hfs124 := blk_frozen BK131.out 1
  have hns124_0 := NB123_131.out
  have hns124_1 := NB124_131.out
  have hns124_2 := NB125_131.out
  have hns124_3 := NB130_131.out
  have hms124_0 := NB131_123.out
  have hms124_1 := NB131_124.out
  have hms124_2 := NB131_125.out
  have hms124_3 := NB131_130.out
  refine skip_ (w1 := ?_) (by rfl) rfl ?_ ?_
  rotate_left
  ·go_simp
   rfl
  refine hK.out _ _ ⟨((cell_far (p := ⟨gb131, _, none⟩) NB123_131.out _).trans (((cell_far (p := ⟨gb131, _, none⟩) NB123_131.out _).trans (hHeld.1)))), ((cell_far (p := ⟨gb131, _, none⟩) NB123_131.out _).trans (((cell_far (p := ⟨gb131, _, none⟩) NB123_131.out _).trans (hHeld.2.1)))), ((cell_far (p := ⟨gb131, _, none⟩) NB123_131.out _).trans (((cell_far (p := ⟨gb131, _, none⟩) NB123_131.out _).trans (hHeld.2.2.1)))), ((cell_far (p := ⟨gb131, _, none⟩) NB124_131.out _).trans (((cell_far (p := ⟨gb131, _, none⟩) NB124_131.out _).trans (hHeld.2.2.2.1)))), ((cell_far (p := ⟨gb131, _, none⟩) NB124_131.out _).trans (((cell_far (p := ⟨gb131, _, none⟩) NB124_131.out _).trans (hHeld.2.2.2.2.1)))), ((cell_far (p := ⟨gb131, _, none⟩) NB124_131.out _).trans (((cell_far (p := ⟨gb131, _, none⟩) NB124_131.out _).trans (hHeld.2.2.2.2.2))))⟩ (fun hHeld => ?_)
  clear hK K
  refine done_ (done_of HT_.out (by kernel_rfl)) ?_
  have hnb125 := NB123_124.out
  have hnc125 := NB124_123.out
  have hnb126 := NB123_125.out
  have hnc126 := NB125_123.out
  have hnb127 := NB123_130.out
  have hnc127 := NB130_123.out
  have hnb128 := NB123_131.out
  have hnc128 := NB131_123.out
  have hcz129_0 : w120.cell? ⟨gb123, 0, none⟩ = some (.bool a0_0) := (blk_cell BK123.out 0).trans rfl
  have hcz129_1 : w120.cell? ⟨gb123, 1, none⟩ = some (.int .u64 a0_1) := (blk_cell BK123.out 1).trans rfl
  have hcz129_2 : w120.cell? ⟨gb123, 2, none⟩ = some (.int .u64 a0_2) := (blk_cell BK123.out 2).trans rfl
  have hfz129_0 := blk_frozen BK123.out 0
  have hfz129_1 := blk_frozen BK123.out 1
  have hfz129_2 := blk_frozen BK123.out 2
  have hnb130 := NB124_125.out
  have hnc130 := NB125_124.out
  have hnb131 := NB124_130.out
  have hnc131 := NB130_124.out
  have hnb132 := NB124_131.out
  have hnc132 := NB131_124.out
  have hcz133_0 : w120.cell? ⟨gb124, 0, none⟩ = some (.bool a1_0) := (blk_cell BK124.out 0).trans rfl
  have hcz133_1 : w120.cell? ⟨gb124, 1, none⟩ = some (.int .u64 a1_1) := (blk_cell BK124.out 1).trans rfl
  have hcz133_2 : w120.cell? ⟨gb124, 2, none⟩ = some (.int .u64 a1_2) := (blk_cell BK124.out 2).trans rfl
  have hfz133_0 := blk_frozen BK124.out 0
  have hfz133_1 := blk_frozen BK124.out 1
  have hfz133_2 := blk_frozen BK124.out 2
  have hnb134 := NB130_125.out
  have hnc134 := NB125_130.out
  have hnb135 := NB130_131.out
  have hnc135 := NB131_130.out
  have hcz136_0 : w120.cell? ⟨gb130, 0, none⟩ = some (.int .u64 0) := (blk_cell BK130.out 0).trans rfl
  have hcz136_1 : w120.cell? ⟨gb130, 1, none⟩ = some (.int .u64 0) := (blk_cell BK130.out 1).trans rfl
  have hfz136_0 := blk_frozen BK130.out 0
  have hfz136_1 := blk_frozen BK130.out 1
  have hnb137 := NB131_125.out
  have hnc137 := NB125_131.out
  have hcz138_0 : w120.cell? ⟨gb131, 0, none⟩ = some (.int .u64 0) := (blk_cell BK131.out 0).trans rfl
  have hcz138_1 : w120.cell? ⟨gb131, 1, none⟩ = some (.int .u64 0) := (blk_cell BK131.out 1).trans rfl
  have hfz138_0 := blk_frozen BK131.out 0
  have hfz138_1 := blk_frozen BK131.out 1
  try go_wp2_with (first | (simp only [bits_Add64.runs t127 t129 0 t143 t144 A80.out]) | (simp only [bits_Add64.runs t126 t128 t144 t145 t146 A81.out]) | ((with_reducible refine gate_callee (f := 48) rfl ?_); refine goesL_ (some 61) rfl rfl Try.func48 (by kernel_rfl) rfl #[.agg #[.int .u64 t145, .int .u64 t143], .bool a0_0] rfl (by (try simp only [List.map_toArray, List.map_cons, List.map_nil]); first | done | rfl | (simp only [List.length_drop, List.length_take]; rfl)) ?_; (with_reducible refine (big_size_with.calls t145 t143 a0_0 t147 t148 t149 _ A111.out).mono ?_); rintro e w139 ⟨rfl, hb⟩; refine ⟨_, rfl, ?_⟩; replace BK123 := Aside0.mk (blk_below (g := gb123) (o := .cells #[.bool a0_0, .int .u64 a0_1, .int .u64 a0_2] 24 (0, 0)) (by (with_reducible repeat (first | refine blk_drewN ?_ _ | refine blk_drew ?_ | refine blk_alloc ?_ _)); refine blk_far ?_ NB123_131.out _; (with_reducible repeat (first | refine blk_drewN ?_ _ | refine blk_drew ?_ | refine blk_alloc ?_ _)); refine blk_far ?_ NB123_131.out _; (with_reducible repeat (first | refine blk_drewN ?_ _ | refine blk_drew ?_ | refine blk_alloc ?_ _)); refine blk_far ?_ NB123_130.out _; (with_reducible repeat (first | refine blk_drewN ?_ _ | refine blk_drew ?_ | refine blk_alloc ?_ _)); refine blk_far ?_ NB123_130.out _; (with_reducible repeat (first | refine blk_drewN ?_ _ | refine blk_drew ?_ | refine blk_alloc ?_ _)); exact BK123.out) hb); replace BK124 := Aside0.mk (blk_below (g := gb124) (o := .cells #[.bool a1_0, .int .u64 a1_1, .int .u64 a1_2] 24 (0, 0)) (by (with_reducible repeat (first | refine blk_drewN ?_ _ | refine blk_drew ?_ | refine blk_alloc ?_ _)); refine blk_far ?_ NB124_131.out _; (with_reducible repeat (first | refine blk_drewN ?_ _ | refine blk_drew ?_ | refine blk_alloc ?_ _)); refine blk_far ?_ NB124_131.out _; (with_reducible repeat (first | refine blk_drewN ?_ _ | refine blk_drew ?_ | refine blk_alloc ?_ _)); refine blk_far ?_ NB124_130.out _; (with_reducible repeat (first | refine blk_drewN ?_ _ | refine blk_drew ?_ | refine blk_alloc ?_ _)); refine blk_far ?_ NB124_130.out _; (with_reducible repeat (first | refine blk_drewN ?_ _ | refine blk_drew ?_ | refine blk_alloc ?_ _)); exact BK124.out) hb); replace BK125 := Aside0.mk (blk_below (g := gb125) (o := .cells #[.bool false, .int .u64 0, .int .u64 0] 24 (0, 0)) (by (with_reducible repeat (first | refine blk_drewN ?_ _ | refine blk_drew ?_ | refine blk_alloc ?_ _)); refine blk_far ?_ NB125_131.out _; (with_reducible repeat (first | refine blk_drewN ?_ _ | refine blk_drew ?_ | refine blk_alloc ?_ _)); refine blk_far ?_ NB125_131.out _; (with_reducible repeat (first | refine blk_drewN ?_ _ | refine blk_drew ?_ | refine blk_alloc ?_ _)); refine blk_far ?_ NB125_130.out _; (with_reducible repeat (first | refine blk_drewN ?_ _ | refine blk_drew ?_ | refine blk_alloc ?_ _)); refine blk_far ?_ NB125_130.out _; (with_reducible repeat (first | refine blk_drewN ?_ _ | refine blk_drew ?_ | refine blk_alloc ?_ _)); exact BK125.out) hb); replace BK130 := Aside0.mk (blk_below (g := gb130) (o := .cells #[.int .u64 t126, .int .u64 t127] 54 (0, 0)) (by (with_reducible repeat (first | refine blk_drewN ?_ _ | refine blk_drew ?_ | refine blk_alloc ?_ _)); refine blk_far ?_ NB130_131.out _; (with_reducible repeat (first | refine blk_drewN ?_ _ | refine blk_drew ?_ | refine blk_alloc ?_ _)); refine blk_far ?_ NB130_131.out _; (with_reducible repeat (first | refine blk_drewN ?_ _ | refine blk_drew ?_ | refine blk_alloc ?_ _)); refine blk_put (cs := #[.int .u64 t126, .int .u64 0]) ?_ 1 _ rfl; (with_reducible repeat (first | refine blk_drewN ?_ _ | refine blk_drew ?_ | refine blk_alloc ?_ _)); refine blk_put (cs := #[.int .u64 0, .int .u64 0]) ?_ 0 _ rfl; (with_reducible repeat (first | refine blk_drewN ?_ _ | refine blk_drew ?_ | refine blk_alloc ?_ _)); exact BK130.out) hb); replace BK131 := Aside0.mk (blk_below (g := gb131) (o := .cells #[.int .u64 t128, .int .u64 t129] 54 (0, 0)) (by (with_reducible repeat (first | refine blk_drewN ?_ _ | refine blk_drew ?_ | refine blk_alloc ?_ _)); refine blk_put (cs := #[.int .u64 t128, .int .u64 0]) ?_ 1 _ rfl; (with_reducible repeat (first | refine blk_drewN ?_ _ | refine blk_drew ?_ | refine blk_alloc ?_ _)); refine blk_put (cs := #[.int .u64 0, .int .u64 0]) ?_ 0 _ rfl; (with_reducible repeat (first | refine blk_drewN ?_ _ | refine blk_drew ?_ | refine blk_alloc ?_ _)); refine blk_far ?_ NB131_130.out _; (with_reducible repeat (first | refine blk_drewN ?_ _ | refine blk_drew ?_ | refine blk_alloc ?_ _)); refine blk_far ?_ NB131_130.out _; (with_reducible repeat (first | refine blk_drewN ?_ _ | refine blk_drew ?_ | refine blk_alloc ?_ _)); exact BK131.out) hb); replace HB := Aside0.mk (below_step (by repeat (first | (with_reducible first | exact HB.out | apply below_alloc | apply pw_below_drewN | apply below_drew1 | refine below_set ?_ GE123.out | refine below_set ?_ GE124.out | refine below_set ?_ GE125.out | refine below_set ?_ GE130.out | refine below_set ?_ GE131.out) | exact HB.out)) hb); (try clear hb); (try clear hb2); (try clear hk); (try clear hi); have hcz140_0 : w139.cell? ⟨gb125, 0, none⟩ = some (.bool false) := (blk_cell BK125.out 0).trans rfl; have hcz140_1 : w139.cell? ⟨gb125, 1, none⟩ = some (.int .u64 0) := (blk_cell BK125.out 1).trans rfl; have hcz140_2 : w139.cell? ⟨gb125, 2, none⟩ = some (.int .u64 0) := (blk_cell BK125.out 2).trans rfl; have hfz140_0 := blk_frozen BK125.out 0; have hfz140_1 := blk_frozen BK125.out 1; have hfz140_2 := blk_frozen BK125.out 2))
  refine bodyPost_ret (results_ct rfl _ _ gb125 24 #[.bool t147, .int .u64 t148, .int .u64 t149] (0, 0) _ rfl (by (with_reducible repeat (first | refine blk_drewN ?_ _ | refine blk_drew ?_ | refine blk_alloc ?_ _)); refine blk_put (cs := #[.bool t147, .int .u64 t148, .int .u64 0]) ?_ 2 _ rfl; (with_reducible repeat (first | refine blk_drewN ?_ _ | refine blk_drew ?_ | refine blk_alloc ?_ _)); refine blk_put (cs := #[.bool t147, .int .u64 0, .int .u64 0]) ?_ 1 _ rfl; (with_reducible repeat (first | refine blk_drewN ?_ _ | refine blk_drew ?_ | refine blk_alloc ?_ _)); refine blk_put (cs := #[.bool false, .int .u64 0, .int .u64 0]) ?_ 0 _ rfl; (with_reducible repeat (first | refine blk_drewN ?_ _ | refine blk_drew ?_ | refine blk_alloc ?_ _)); exact BK125.out) Try.underlying24 rfl (by kernel_rfl)) rfl ?_
  exact ⟨by first | rfl | (simp [errW_none, errW_some] <;> rfl) | (simp [*, errW_none, errW_some] <;> rfl), by repeat (first | (with_reducible first | exact HB.out | apply below_alloc | apply pw_below_drewN | apply below_drew1 | refine below_set ?_ GE123.out | refine below_set ?_ GE124.out | refine below_set ?_ GE125.out | refine below_set ?_ GE130.out | refine below_set ?_ GE131.out) | exact HB.out)⟩

theorem big_Add.calls (a0_0 : Bool) (a0_1 : Int) (a0_2 : Int) (a1_0 : Bool) (a1_1 : Int) (a1_2 : Int) (r1 : Bool) (r2 : Int) (r3 : Int) (r4 : Int) (w : World) (h : big_Add.f a0_0 a0_1 a0_2 a1_0 a1_1 a1_2 = some (r1, r2, r3, r4)) :
 Calls Try.prog 16 #[.agg #[.bool a0_0, .int .u64 a0_1, .int .u64 a0_2], .agg #[.bool a1_0, .int .u64 a1_1, .int .u64 a1_2]] w fun e w' => e = .returned (.tuple #[.agg #[.bool r1, .int .u64 r2, .int .u64 r3], .int .i64 r4]) ∧ Below w.heap.size w w' := by
 by_cases hpart : (a0_0 != a1_0) = true
 ·exact big_Add.calls_a a0_0 a0_1 a0_2 a1_0 a1_1 a1_2 r1 r2 r3 r4 w h hpart
 ·exact big_Add.calls_b a0_0 a0_1 a0_2 a1_0 a1_1 a1_2 r1 r2 r3 r4 w h hpart

end Go.Proofs.Ytkoeehacildioaa.Px
