/- Printed by a program of this session (wip/tool/px.py), over the kit's print: for each Go function a Lean function, and the proof that the machine's call answers as that function says. Conditions: none beside what the theorems state. -/
import Derived.Test.YtkoeehacildioaaPx0
import Derived.Test.YtkoeehacildioaaPx3
import Derived.Test.YtkoeehacildioaaPx4
import Derived.Test.YtkoeehacildioaaPx6
import Derived.Test.YtkoeehacildioaaPx7
namespace Go.Proofs.Ytkoeehacildioaa.Px
open Go.RowKit Go.Proofs.YtkoeehacildioaaW.PrintWords Go.Proofs.YtkoeehacildioaaW.PrintLast Go.Proofs.YtkoeehacildioaaW.PrintMore
attribute [local go_sem] max2_int min2_int max_two min_two max_three min_three max_four min_four   -- for this text's walks alone
set_option linter.unusedVariables false
set_option linter.unusedSimpArgs false

/-! ### big_Add: function 16 -/
noncomputable def big_Add.f (a0_0 : Bool) (a0_1 : Int) (a0_2 : Int) (a1_0 : Bool) (a1_1 : Int) (a1_2 : Int) : Option (Bool × Int × Int × Int) := (big_of.f a0_0 a0_1 a0_2).bind fun bt126 => ((big_of.f a1_0 a1_1 a1_2).bind fun bt128 => (if (a0_0 != a1_0) = true then ((big_size_cmpS.f bt126.1 bt126.2 bt128.1 bt128.2).bind fun t132 => (if t132 < 0 then ((big_size_minusS.f bt128.1 bt128.2 bt126.1 bt126.2).bind fun bt133 => ((big_size_with.f bt133.1 bt133.2 a1_0).bind fun bt135 => (some (bt135.1, bt135.2.1, bt135.2.2, 0)))) else ((big_size_minusS.f bt126.1 bt126.2 bt128.1 bt128.2).bind fun bt138 => ((big_size_with.f bt138.1 bt138.2 a0_0).bind fun bt140 => (some (bt140.1, bt140.2.1, bt140.2.2, 0)))))) else ((bits_Add64.f bt126.2 bt128.2 0).bind fun bt143 => ((bits_Add64.f bt126.1 bt128.1 bt143.2).bind fun bt145 => (if bt145.2 > 0 then (some (false, 0, 0, 10)) else ((big_size_with.f bt145.1 bt143.1 a0_0).bind fun bt147 => (some (bt147.1, bt147.2.1, bt147.2.2, 0))))))))
def big_Add.T1 : Bool × List (List Nat × List Nat) := (true, [([], []), ([0], [0]), ([], []), ([2, 1], [2]), ([], []), ([], []), ([4, 1, 3, 0, 1, 4, 5], [1, 4]), ([5, 3, 6, 0, 1, 2, 3, 4, 5, 6], [3, 5])])
def big_Add.B1 : List Nat := [0, 1, 0, 7, 0, 0, 63, 127]
theorem big_Add.tab1 : rtab .any (opsOf Try.f16 1) = big_Add.T1 := by kernel_rfl
theorem big_Add.bits1 : waitsOk big_Add.T1.2 big_Add.B1 = true := by kernel_rfl
def big_Add.T4 : Bool × List (List Nat × List Nat) := (true, [([], []), ([], []), ([0, 1], [0, 1]), ([], []), ([3], [3]), ([2, 4, 2], [2, 4]), ([5, 5, 0, 1, 2, 3, 4, 5], [5]), ([6, 0, 1, 2, 3, 4, 5, 6], [])])
def big_Add.B4 : List Nat := [0, 0, 3, 0, 8, 31, 63, 127]
theorem big_Add.tab4 : rtab .any (opsOf Try.f16 4) = big_Add.T4 := by kernel_rfl
theorem big_Add.bits4 : waitsOk big_Add.T4.2 big_Add.B4 = true := by kernel_rfl
def big_Add.T5 : Bool × List (List Nat × List Nat) := (true, [([], []), ([], []), ([0, 1], [0, 1]), ([], []), ([3], [3]), ([2, 4, 2], [2, 4]), ([5, 5, 0, 1, 2, 3, 4, 5], [5]), ([6, 0, 1, 2, 3, 4, 5, 6], [])])
def big_Add.B5 : List Nat := [0, 0, 3, 0, 8, 31, 63, 127]
theorem big_Add.tab5 : rtab .any (opsOf Try.f16 5) = big_Add.T5 := by kernel_rfl
theorem big_Add.bits5 : waitsOk big_Add.T5.2 big_Add.B5 = true := by kernel_rfl
set_option maxHeartbeats 8000000 in
set_option maxRecDepth 100000 in
theorem big_Add.calls_a (a0_0 : Bool) (a0_1 : Int) (a0_2 : Int) (a1_0 : Bool) (a1_1 : Int) (a1_2 : Int) (r1 : Bool) (r2 : Int) (r3 : Int) (r4 : Int) (w : World) (h : big_Add.f a0_0 a0_1 a0_2 a1_0 a1_1 a1_2 = some (r1, r2, r3, r4)) (hpart : (a0_0 != a1_0) = true) :
 Calls Try.prog 16 #[.agg #[.bool a0_0, .int .u64 a0_1, .int .u64 a0_2], .agg #[.bool a1_0, .int .u64 a1_1, .int .u64 a1_2]] w fun e w' => e = .returned (.tuple #[.agg #[.bool r1, .int .u64 r2, .int .u64 r3], .int .i64 r4]) ∧ Below w.heap.size w w' := by
 have hu24 := Try.underlying24
 have hu54 := Try.underlying54
 have HB := Aside0.mk (Below.refl w.heap.size w)
 have H : ((big_of.f a0_0 a0_1 a0_2).bind fun bt126 => ((big_of.f a1_0 a1_1 a1_2).bind fun bt128 => (if (a0_0 != a1_0) = true then ((big_size_cmpS.f bt126.1 bt126.2 bt128.1 bt128.2).bind fun t132 => (if t132 < 0 then ((big_size_minusS.f bt128.1 bt128.2 bt126.1 bt126.2).bind fun bt133 => ((big_size_with.f bt133.1 bt133.2 a1_0).bind fun bt135 => (some (bt135.1, bt135.2.1, bt135.2.2, 0)))) else ((big_size_minusS.f bt126.1 bt126.2 bt128.1 bt128.2).bind fun bt138 => ((big_size_with.f bt138.1 bt138.2 a0_0).bind fun bt140 => (some (bt140.1, bt140.2.1, bt140.2.2, 0)))))) else ((bits_Add64.f bt126.2 bt128.2 0).bind fun bt143 => ((bits_Add64.f bt126.1 bt128.1 bt143.2).bind fun bt145 => (if bt145.2 > 0 then (some (false, 0, 0, 10)) else ((big_size_with.f bt145.1 bt143.1 a0_0).bind fun bt147 => (some (bt147.1, bt147.2.1, bt147.2.2, 0))))))))) = some (r1, r2, r3, r4) := h
 clear h
 replace H := Option.bind_eq_some_iff.mp H
 obtain ⟨⟨t126, t127⟩, A30, H⟩ := H
 try dsimp only at H
 have A3 := Aside0.mk A30
 clear A30
 replace H := Option.bind_eq_some_iff.mp H
 obtain ⟨⟨t128, t129⟩, A40, H⟩ := H
 try dsimp only at H
 have A4 := Aside0.mk A40
 clear A40
 have c5 := hpart
 rw [if_pos c5] at H
 have c5b0 : (a0_0 != a1_0) = true := c5
 (try (have c5b1 : decide (a0_0 = a1_0) = false := by simpa using c5))
 (try (have c5b2 : (a0_0 == a1_0) = false := by simpa using c5))
 (try (have c5b3 : ¬ (a0_0 = a1_0) := by simpa using c5))
 clear c5
 replace H := Option.bind_eq_some_iff.mp H
 obtain ⟨t132, A60, H⟩ := H
 try dsimp only at H
 have A6 := Aside0.mk A60
 clear A60
 by_cases c7 : t132 < 0
 ·rw [if_pos c7] at H
  have c7b0 : decide (t132 < 0) = true := decide_eq_true c7
  clear c7
  replace H := Option.bind_eq_some_iff.mp H
  obtain ⟨⟨t133, t134⟩, A80, H⟩ := H
  replace H : ((big_size_with.f t133 t134 a1_0).bind fun bt135 => (some (bt135.1, bt135.2.1, bt135.2.2, 0))) = some (r1, r2, r3, r4) := H
  have A8 := Aside0.mk A80
  clear A80
  replace H := Option.bind_eq_some_iff.mp H
  obtain ⟨⟨t135, t136, t137⟩, A90, H⟩ := H
  replace H : (some (t135, t136, t137, 0)) = some (r1, r2, r3, r4) := H
  have A9 := Aside0.mk A90
  clear A90
  simp only [Option.some.injEq, Prod.mk.injEq] at H
  obtain ⟨rfl, rfl, rfl, rfl⟩ := H
  go_enter Try.func16, Try.ntmps16
  try go_wp2_with (first | ((with_reducible refine gate_dst (N := 2) rfl ?_); refine box_event ?hg (N := 2) ?hd (cs := #[.bool a0_0, .int .u64 a0_1, .int .u64 a0_2]) (t := 24) ?hr ?_; (case hd => rfl); (case hg => rfl); (case hr => first | (go_simp; done) | (go_simp; rfl)); intro gb123 hg w10 hbox hb; have BK123 := Aside0.mk (hbox); have GW123 := Aside0.mk ((by rw [hg]; exact (below_size (by repeat (first | (with_reducible first | exact HB.out | apply below_alloc | apply pw_below_drewN | apply below_drew1) | exact HB.out))) : w.heap.size ≤ gb123)); have GE123 := Aside0.mk ((by rw [hg]; exact (below_size (by repeat (first | (with_reducible first | exact HB.out | apply below_alloc | apply pw_below_drewN | apply below_drew1) | exact HB.out))) : w.heap.size ≤ gb123)); replace HB := Aside0.mk (below_step (by repeat (first | (with_reducible first | exact HB.out | apply below_alloc | apply pw_below_drewN | apply below_drew1) | exact HB.out)) hb); clear hb hbox hg) | ((with_reducible refine gate_dst (N := 3) rfl ?_); refine box_event ?hg (N := 3) ?hd (cs := #[.bool a1_0, .int .u64 a1_1, .int .u64 a1_2]) (t := 24) ?hr ?_; (case hd => rfl); (case hg => rfl); (case hr => first | (go_simp; done) | (go_simp; rfl)); intro gb124 hg w11 hbox hb; have BK124 := Aside0.mk (hbox); have GW124 := Aside0.mk ((by rw [hg]; exact (below_size (by repeat (first | (with_reducible first | exact HB.out | apply below_alloc | apply pw_below_drewN | apply below_drew1 | refine below_set ?_ GE123.out) | exact HB.out))) : w.heap.size ≤ gb124)); have GE124 := Aside0.mk ((by rw [hg]; exact (below_size (by repeat (first | (with_reducible first | exact HB.out | apply below_alloc | apply pw_below_drewN | apply below_drew1 | refine below_set ?_ GE123.out) | exact HB.out))) : w.heap.size ≤ gb124)); have NB123_124 := Aside0.mk ((by rw [hg]; exact Nat.ne_of_lt (blk_lt (g := gb123) (o := .cells #[.bool a0_0, .int .u64 a0_1, .int .u64 a0_2] 24 (0, 0)) (by (with_reducible repeat (first | refine blk_drewN ?_ _ | refine blk_drew ?_ | refine blk_alloc ?_ _)); exact BK123.out)) : gb123 ≠ gb124)); have NB124_123 := Aside0.mk ((by rw [hg]; exact Nat.ne_of_gt (blk_lt (g := gb123) (o := .cells #[.bool a0_0, .int .u64 a0_1, .int .u64 a0_2] 24 (0, 0)) (by (with_reducible repeat (first | refine blk_drewN ?_ _ | refine blk_drew ?_ | refine blk_alloc ?_ _)); exact BK123.out)) : gb124 ≠ gb123)); replace BK123 := Aside0.mk (blk_below (g := gb123) (o := .cells #[.bool a0_0, .int .u64 a0_1, .int .u64 a0_2] 24 (0, 0)) (by (with_reducible repeat (first | refine blk_drewN ?_ _ | refine blk_drew ?_ | refine blk_alloc ?_ _)); exact BK123.out) hb); replace HB := Aside0.mk (below_step (by repeat (first | (with_reducible first | exact HB.out | apply below_alloc | apply pw_below_drewN | apply below_drew1 | refine below_set ?_ GE123.out) | exact HB.out)) hb); clear hb hbox hg) | ((with_reducible refine gate_dst (N := 4) rfl ?_); refine box_event ?hg (N := 4) ?hd (cs := #[.bool false, .int .u64 0, .int .u64 0]) (t := 24) ?hr ?_; (case hd => rfl); (case hg => rfl); (case hr => first | (go_simp; done) | (go_simp; rfl)); intro gb125 hg w12 hbox hb; have BK125 := Aside0.mk (hbox); have GW125 := Aside0.mk ((by rw [hg]; exact (below_size (by repeat (first | (with_reducible first | exact HB.out | apply below_alloc | apply pw_below_drewN | apply below_drew1 | refine below_set ?_ GE123.out | refine below_set ?_ GE124.out) | exact HB.out))) : w.heap.size ≤ gb125)); have GE125 := Aside0.mk ((by rw [hg]; exact (below_size (by repeat (first | (with_reducible first | exact HB.out | apply below_alloc | apply pw_below_drewN | apply below_drew1 | refine below_set ?_ GE123.out | refine below_set ?_ GE124.out) | exact HB.out))) : w.heap.size ≤ gb125)); have NB123_125 := Aside0.mk ((by rw [hg]; exact Nat.ne_of_lt (blk_lt (g := gb123) (o := .cells #[.bool a0_0, .int .u64 a0_1, .int .u64 a0_2] 24 (0, 0)) (by (with_reducible repeat (first | refine blk_drewN ?_ _ | refine blk_drew ?_ | refine blk_alloc ?_ _)); exact BK123.out)) : gb123 ≠ gb125)); have NB125_123 := Aside0.mk ((by rw [hg]; exact Nat.ne_of_gt (blk_lt (g := gb123) (o := .cells #[.bool a0_0, .int .u64 a0_1, .int .u64 a0_2] 24 (0, 0)) (by (with_reducible repeat (first | refine blk_drewN ?_ _ | refine blk_drew ?_ | refine blk_alloc ?_ _)); exact BK123.out)) : gb125 ≠ gb123)); have NB124_125 := Aside0.mk ((by rw [hg]; exact Nat.ne_of_lt (blk_lt (g := gb124) (o := .cells #[.bool a1_0, .int .u64 a1_1, .int .u64 a1_2] 24 (0, 0)) (by (with_reducible repeat (first | refine blk_drewN ?_ _ | refine blk_drew ?_ | refine blk_alloc ?_ _)); exact BK124.out)) : gb124 ≠ gb125)); have NB125_124 := Aside0.mk ((by rw [hg]; exact Nat.ne_of_gt (blk_lt (g := gb124) (o := .cells #[.bool a1_0, .int .u64 a1_1, .int .u64 a1_2] 24 (0, 0)) (by (with_reducible repeat (first | refine blk_drewN ?_ _ | refine blk_drew ?_ | refine blk_alloc ?_ _)); exact BK124.out)) : gb125 ≠ gb124)); replace BK123 := Aside0.mk (blk_below (g := gb123) (o := .cells #[.bool a0_0, .int .u64 a0_1, .int .u64 a0_2] 24 (0, 0)) (by (with_reducible repeat (first | refine blk_drewN ?_ _ | refine blk_drew ?_ | refine blk_alloc ?_ _)); exact BK123.out) hb); replace BK124 := Aside0.mk (blk_below (g := gb124) (o := .cells #[.bool a1_0, .int .u64 a1_1, .int .u64 a1_2] 24 (0, 0)) (by (with_reducible repeat (first | refine blk_drewN ?_ _ | refine blk_drew ?_ | refine blk_alloc ?_ _)); exact BK124.out) hb); replace HB := Aside0.mk (below_step (by repeat (first | (with_reducible first | exact HB.out | apply below_alloc | apply pw_below_drewN | apply below_drew1 | refine below_set ?_ GE123.out | refine below_set ?_ GE124.out) | exact HB.out)) hb); clear hb hbox hg))
  replace BK123 := Aside0.mk (blk_drew BK123.out)
  replace BK124 := Aside0.mk (blk_drew BK124.out)
  replace BK125 := Aside0.mk (blk_drew BK125.out)
  replace HB := Aside0.mk (below_drew1 HB.out)
  refine start_ (n := 8) (S := fun w' => w'.cell? ⟨gb123, 0, none⟩ = some (.bool a0_0) ∧ w'.cell? ⟨gb123, 1, none⟩ = some (.int .u64 a0_1) ∧ w'.cell? ⟨gb123, 2, none⟩ = some (.int .u64 a0_2) ∧ w'.cell? ⟨gb124, 0, none⟩ = some (.bool a1_0) ∧ w'.cell? ⟨gb124, 1, none⟩ = some (.int .u64 a1_1) ∧ w'.cell? ⟨gb124, 2, none⟩ = some (.int .u64 a1_2)) (ds := []) #[N,N,N,N,N,N,N,N] (by kernel_rfl) rfl rfl ⟨(blk_cell BK123.out 0).trans rfl, (blk_cell BK123.out 1).trans rfl, (blk_cell BK123.out 2).trans rfl, (blk_cell BK124.out 0).trans rfl, (blk_cell BK124.out 1).trans rfl, (blk_cell BK124.out 2).trans rfl⟩ (fun hHeld => ?_); refine with_tabW big_Add.tab1 big_Add.bits1 (fun HT_ HW_ => ?_)
  generalize w12.drew = w13 at BK123 BK124 BK125 HB hHeld ⊢
  refine take_ (i := 0) (N := some 11) (v := ?_) (a' := ?_) #[Y,N,N,N,N,N,N,N] rfl rfl (take_ofW HT_.out HW_.out (by kernel_rfl)) (fun _ _ _ h => h) (Or.inl ⟨by rfl, ?_⟩) hHeld ?_ ?_
  rotate_left
  ·rintro w' ⟨s0, s1, s2, s3, s4, s5⟩
   go_simp
   with_reducible rfl
  rotate_left
  ·simp only [Act.put, sA, sB, sC, i64_w, i32_w]
   rfl
  refine take_ (i := 2) (N := some 13) (v := ?_) (a' := ?_) #[Y,N,Y,N,N,N,N,N] rfl rfl (take_ofW HT_.out HW_.out (by kernel_rfl)) (fun _ _ _ h => h) (Or.inl ⟨by rfl, ?_⟩) hHeld ?_ ?_
  rotate_left
  ·rintro w' ⟨s0, s1, s2, s3, s4, s5⟩
   go_simp
   with_reducible rfl
  rotate_left
  ·simp only [Act.put, sA, sB, sC, i64_w, i32_w]
   rfl
  refine join_ (σ := Nat × Nat) 2 #[Y,Y,Y,Y,Y,Y,N,N] (fun s_ => [(12, .agg #[.int .u64 t126, .int .u64 t127]), (14, .agg #[.int .u64 t128, .int .u64 t129]), (6, .pointer (some ⟨s_.1, 0, none⟩)), (7, .pointer (some ⟨s_.2, 0, none⟩))]) (fun s_ w' => (w'.cell? ⟨gb123, 0, none⟩ = some (.bool a0_0) ∧ w'.cell? ⟨gb123, 1, none⟩ = some (.int .u64 a0_1) ∧ w'.cell? ⟨gb123, 2, none⟩ = some (.int .u64 a0_2) ∧ w'.cell? ⟨gb124, 0, none⟩ = some (.bool a1_0) ∧ w'.cell? ⟨gb124, 1, none⟩ = some (.int .u64 a1_1) ∧ w'.cell? ⟨gb124, 2, none⟩ = some (.int .u64 a1_2)) ∧ (w'.heap[gb123]? = some (.cells #[.bool a0_0, .int .u64 a0_1, .int .u64 a0_2] 24 (0, 0))) ∧ (w'.heap[gb124]? = some (.cells #[.bool a1_0, .int .u64 a1_1, .int .u64 a1_2] 24 (0, 0))) ∧ (w'.heap[gb125]? = some (.cells #[.bool false, .int .u64 0, .int .u64 0] 24 (0, 0))) ∧ (w'.heap[s_.1]? = some (.cells #[.int .u64 0, .int .u64 0] 54 (0, 0))) ∧ (w'.heap[s_.2]? = some (.cells #[.int .u64 0, .int .u64 0] 54 (0, 0))) ∧ (w.heap.size ≤ s_.1) ∧ (w.heap.size ≤ s_.1) ∧ (gb123 ≠ s_.1) ∧ (s_.1 ≠ gb123) ∧ (gb124 ≠ s_.1) ∧ (s_.1 ≠ gb124) ∧ (gb125 ≠ s_.1) ∧ (s_.1 ≠ gb125) ∧ (s_.2 ≠ s_.1) ∧ (s_.1 ≠ s_.2) ∧ (w.heap.size ≤ s_.2) ∧ (w.heap.size ≤ s_.2) ∧ (gb123 ≠ s_.2) ∧ (s_.2 ≠ gb123) ∧ (gb124 ≠ s_.2) ∧ (s_.2 ≠ gb124) ∧ (gb125 ≠ s_.2) ∧ (s_.2 ≠ gb125) ∧ (Below w.heap.size w w')) ?_ ?_
  rotate_left
  ·intro hJ1_3_4_5
   refine join_ (σ := Nat) 3 #[Y,Y,Y,Y,Y,N,N,N] (fun s_ => [(12, .agg #[.int .u64 t126, .int .u64 t127]), (14, .agg #[.int .u64 t128, .int .u64 t129]), (6, .pointer (some ⟨s_, 0, none⟩))]) (fun s_ w' => (w'.cell? ⟨gb123, 0, none⟩ = some (.bool a0_0) ∧ w'.cell? ⟨gb123, 1, none⟩ = some (.int .u64 a0_1) ∧ w'.cell? ⟨gb123, 2, none⟩ = some (.int .u64 a0_2) ∧ w'.cell? ⟨gb124, 0, none⟩ = some (.bool a1_0) ∧ w'.cell? ⟨gb124, 1, none⟩ = some (.int .u64 a1_1) ∧ w'.cell? ⟨gb124, 2, none⟩ = some (.int .u64 a1_2)) ∧ (w'.heap[gb123]? = some (.cells #[.bool a0_0, .int .u64 a0_1, .int .u64 a0_2] 24 (0, 0))) ∧ (w'.heap[gb124]? = some (.cells #[.bool a1_0, .int .u64 a1_1, .int .u64 a1_2] 24 (0, 0))) ∧ (w'.heap[gb125]? = some (.cells #[.bool false, .int .u64 0, .int .u64 0] 24 (0, 0))) ∧ (w'.heap[s_]? = some (.cells #[.int .u64 0, .int .u64 0] 54 (0, 0))) ∧ (w.heap.size ≤ s_) ∧ (w.heap.size ≤ s_) ∧ (gb123 ≠ s_) ∧ (s_ ≠ gb123) ∧ (gb124 ≠ s_) ∧ (s_ ≠ gb124) ∧ (gb125 ≠ s_) ∧ (s_ ≠ gb125) ∧ (Below w.heap.size w w')) ?_ ?_
   rotate_left
   ·intro hJ1_3_4
    refine join_ (σ := Nat) 3 #[Y,Y,Y,Y,N,Y,N,N] (fun s_ => [(12, .agg #[.int .u64 t126, .int .u64 t127]), (14, .agg #[.int .u64 t128, .int .u64 t129]), (7, .pointer (some ⟨s_, 0, none⟩))]) (fun s_ w' => (w'.cell? ⟨gb123, 0, none⟩ = some (.bool a0_0) ∧ w'.cell? ⟨gb123, 1, none⟩ = some (.int .u64 a0_1) ∧ w'.cell? ⟨gb123, 2, none⟩ = some (.int .u64 a0_2) ∧ w'.cell? ⟨gb124, 0, none⟩ = some (.bool a1_0) ∧ w'.cell? ⟨gb124, 1, none⟩ = some (.int .u64 a1_1) ∧ w'.cell? ⟨gb124, 2, none⟩ = some (.int .u64 a1_2)) ∧ (w'.heap[gb123]? = some (.cells #[.bool a0_0, .int .u64 a0_1, .int .u64 a0_2] 24 (0, 0))) ∧ (w'.heap[gb124]? = some (.cells #[.bool a1_0, .int .u64 a1_1, .int .u64 a1_2] 24 (0, 0))) ∧ (w'.heap[gb125]? = some (.cells #[.bool false, .int .u64 0, .int .u64 0] 24 (0, 0))) ∧ (w'.heap[s_]? = some (.cells #[.int .u64 0, .int .u64 0] 54 (0, 0))) ∧ (w.heap.size ≤ s_) ∧ (w.heap.size ≤ s_) ∧ (gb123 ≠ s_) ∧ (s_ ≠ gb123) ∧ (gb124 ≠ s_) ∧ (s_ ≠ gb124) ∧ (gb125 ≠ s_) ∧ (s_ ≠ gb125) ∧ (Below w.heap.size w w')) ?_ ?_
    rotate_left
    ·intro hJ1_3_5
     refine join_ (σ := Nat × Nat) 3 #[Y,Y,Y,N,Y,Y,N,N] (fun s_ => [(12, .agg #[.int .u64 t126, .int .u64 t127]), (6, .pointer (some ⟨s_.1, 0, none⟩)), (7, .pointer (some ⟨s_.2, 0, none⟩))]) (fun s_ w' => (w'.cell? ⟨gb123, 0, none⟩ = some (.bool a0_0) ∧ w'.cell? ⟨gb123, 1, none⟩ = some (.int .u64 a0_1) ∧ w'.cell? ⟨gb123, 2, none⟩ = some (.int .u64 a0_2) ∧ w'.cell? ⟨gb124, 0, none⟩ = some (.bool a1_0) ∧ w'.cell? ⟨gb124, 1, none⟩ = some (.int .u64 a1_1) ∧ w'.cell? ⟨gb124, 2, none⟩ = some (.int .u64 a1_2)) ∧ (w'.heap[gb123]? = some (.cells #[.bool a0_0, .int .u64 a0_1, .int .u64 a0_2] 24 (0, 0))) ∧ (w'.heap[gb124]? = some (.cells #[.bool a1_0, .int .u64 a1_1, .int .u64 a1_2] 24 (0, 0))) ∧ (w'.heap[gb125]? = some (.cells #[.bool false, .int .u64 0, .int .u64 0] 24 (0, 0))) ∧ (w'.heap[s_.1]? = some (.cells #[.int .u64 0, .int .u64 0] 54 (0, 0))) ∧ (w'.heap[s_.2]? = some (.cells #[.int .u64 0, .int .u64 0] 54 (0, 0))) ∧ (w.heap.size ≤ s_.1) ∧ (w.heap.size ≤ s_.1) ∧ (gb123 ≠ s_.1) ∧ (s_.1 ≠ gb123) ∧ (gb124 ≠ s_.1) ∧ (s_.1 ≠ gb124) ∧ (gb125 ≠ s_.1) ∧ (s_.1 ≠ gb125) ∧ (s_.2 ≠ s_.1) ∧ (s_.1 ≠ s_.2) ∧ (w.heap.size ≤ s_.2) ∧ (w.heap.size ≤ s_.2) ∧ (gb123 ≠ s_.2) ∧ (s_.2 ≠ gb123) ∧ (gb124 ≠ s_.2) ∧ (s_.2 ≠ gb124) ∧ (gb125 ≠ s_.2) ∧ (s_.2 ≠ gb125) ∧ (Below w.heap.size w w')) ?_ ?_
     rotate_left
     ·intro hJ1_4_5
      refine join_ (σ := Unit) 4 #[Y,Y,Y,Y,N,N,N,N] (fun s_ => [(12, .agg #[.int .u64 t126, .int .u64 t127]), (14, .agg #[.int .u64 t128, .int .u64 t129])]) (fun s_ w' => (w'.cell? ⟨gb123, 0, none⟩ = some (.bool a0_0) ∧ w'.cell? ⟨gb123, 1, none⟩ = some (.int .u64 a0_1) ∧ w'.cell? ⟨gb123, 2, none⟩ = some (.int .u64 a0_2) ∧ w'.cell? ⟨gb124, 0, none⟩ = some (.bool a1_0) ∧ w'.cell? ⟨gb124, 1, none⟩ = some (.int .u64 a1_1) ∧ w'.cell? ⟨gb124, 2, none⟩ = some (.int .u64 a1_2)) ∧ (w'.heap[gb123]? = some (.cells #[.bool a0_0, .int .u64 a0_1, .int .u64 a0_2] 24 (0, 0))) ∧ (w'.heap[gb124]? = some (.cells #[.bool a1_0, .int .u64 a1_1, .int .u64 a1_2] 24 (0, 0))) ∧ (w'.heap[gb125]? = some (.cells #[.bool false, .int .u64 0, .int .u64 0] 24 (0, 0))) ∧ (Below w.heap.size w w')) ?_ ?_
      rotate_left
      ·intro hJ1_3
       refine join_ (σ := Nat) 4 #[Y,Y,Y,N,Y,N,N,N] (fun s_ => [(12, .agg #[.int .u64 t126, .int .u64 t127]), (6, .pointer (some ⟨s_, 0, none⟩))]) (fun s_ w' => (w'.cell? ⟨gb123, 0, none⟩ = some (.bool a0_0) ∧ w'.cell? ⟨gb123, 1, none⟩ = some (.int .u64 a0_1) ∧ w'.cell? ⟨gb123, 2, none⟩ = some (.int .u64 a0_2) ∧ w'.cell? ⟨gb124, 0, none⟩ = some (.bool a1_0) ∧ w'.cell? ⟨gb124, 1, none⟩ = some (.int .u64 a1_1) ∧ w'.cell? ⟨gb124, 2, none⟩ = some (.int .u64 a1_2)) ∧ (w'.heap[gb123]? = some (.cells #[.bool a0_0, .int .u64 a0_1, .int .u64 a0_2] 24 (0, 0))) ∧ (w'.heap[gb124]? = some (.cells #[.bool a1_0, .int .u64 a1_1, .int .u64 a1_2] 24 (0, 0))) ∧ (w'.heap[gb125]? = some (.cells #[.bool false, .int .u64 0, .int .u64 0] 24 (0, 0))) ∧ (w'.heap[s_]? = some (.cells #[.int .u64 0, .int .u64 0] 54 (0, 0))) ∧ (w.heap.size ≤ s_) ∧ (w.heap.size ≤ s_) ∧ (gb123 ≠ s_) ∧ (s_ ≠ gb123) ∧ (gb124 ≠ s_) ∧ (s_ ≠ gb124) ∧ (gb125 ≠ s_) ∧ (s_ ≠ gb125) ∧ (Below w.heap.size w w')) ?_ ?_
       rotate_left
       ·intro hJ1_4
        refine join_ (σ := Nat) 4 #[Y,Y,Y,N,N,Y,N,N] (fun s_ => [(12, .agg #[.int .u64 t126, .int .u64 t127]), (7, .pointer (some ⟨s_, 0, none⟩))]) (fun s_ w' => (w'.cell? ⟨gb123, 0, none⟩ = some (.bool a0_0) ∧ w'.cell? ⟨gb123, 1, none⟩ = some (.int .u64 a0_1) ∧ w'.cell? ⟨gb123, 2, none⟩ = some (.int .u64 a0_2) ∧ w'.cell? ⟨gb124, 0, none⟩ = some (.bool a1_0) ∧ w'.cell? ⟨gb124, 1, none⟩ = some (.int .u64 a1_1) ∧ w'.cell? ⟨gb124, 2, none⟩ = some (.int .u64 a1_2)) ∧ (w'.heap[gb123]? = some (.cells #[.bool a0_0, .int .u64 a0_1, .int .u64 a0_2] 24 (0, 0))) ∧ (w'.heap[gb124]? = some (.cells #[.bool a1_0, .int .u64 a1_1, .int .u64 a1_2] 24 (0, 0))) ∧ (w'.heap[gb125]? = some (.cells #[.bool false, .int .u64 0, .int .u64 0] 24 (0, 0))) ∧ (w'.heap[s_]? = some (.cells #[.int .u64 0, .int .u64 0] 54 (0, 0))) ∧ (w.heap.size ≤ s_) ∧ (w.heap.size ≤ s_) ∧ (gb123 ≠ s_) ∧ (s_ ≠ gb123) ∧ (gb124 ≠ s_) ∧ (s_ ≠ gb124) ∧ (gb125 ≠ s_) ∧ (s_ ≠ gb125) ∧ (Below w.heap.size w w')) ?_ ?_
        rotate_left
        ·intro hJ1_5
         refine join_ (σ := Nat × Nat) 4 #[Y,N,Y,N,Y,Y,N,N] (fun s_ => [(6, .pointer (some ⟨s_.1, 0, none⟩)), (7, .pointer (some ⟨s_.2, 0, none⟩))]) (fun s_ w' => (w'.cell? ⟨gb123, 0, none⟩ = some (.bool a0_0) ∧ w'.cell? ⟨gb123, 1, none⟩ = some (.int .u64 a0_1) ∧ w'.cell? ⟨gb123, 2, none⟩ = some (.int .u64 a0_2) ∧ w'.cell? ⟨gb124, 0, none⟩ = some (.bool a1_0) ∧ w'.cell? ⟨gb124, 1, none⟩ = some (.int .u64 a1_1) ∧ w'.cell? ⟨gb124, 2, none⟩ = some (.int .u64 a1_2)) ∧ (w'.heap[gb123]? = some (.cells #[.bool a0_0, .int .u64 a0_1, .int .u64 a0_2] 24 (0, 0))) ∧ (w'.heap[gb124]? = some (.cells #[.bool a1_0, .int .u64 a1_1, .int .u64 a1_2] 24 (0, 0))) ∧ (w'.heap[gb125]? = some (.cells #[.bool false, .int .u64 0, .int .u64 0] 24 (0, 0))) ∧ (w'.heap[s_.1]? = some (.cells #[.int .u64 0, .int .u64 0] 54 (0, 0))) ∧ (w'.heap[s_.2]? = some (.cells #[.int .u64 0, .int .u64 0] 54 (0, 0))) ∧ (w.heap.size ≤ s_.1) ∧ (w.heap.size ≤ s_.1) ∧ (gb123 ≠ s_.1) ∧ (s_.1 ≠ gb123) ∧ (gb124 ≠ s_.1) ∧ (s_.1 ≠ gb124) ∧ (gb125 ≠ s_.1) ∧ (s_.1 ≠ gb125) ∧ (s_.2 ≠ s_.1) ∧ (s_.1 ≠ s_.2) ∧ (w.heap.size ≤ s_.2) ∧ (w.heap.size ≤ s_.2) ∧ (gb123 ≠ s_.2) ∧ (s_.2 ≠ gb123) ∧ (gb124 ≠ s_.2) ∧ (s_.2 ≠ gb124) ∧ (gb125 ≠ s_.2) ∧ (s_.2 ≠ gb125) ∧ (Below w.heap.size w w')) ?_ ?_
         rotate_left
         ·intro hJ4_5
          refine join_ (σ := Unit) 5 #[Y,Y,Y,N,N,N,N,N] (fun s_ => [(12, .agg #[.int .u64 t126, .int .u64 t127])]) (fun s_ w' => (w'.cell? ⟨gb123, 0, none⟩ = some (.bool a0_0) ∧ w'.cell? ⟨gb123, 1, none⟩ = some (.int .u64 a0_1) ∧ w'.cell? ⟨gb123, 2, none⟩ = some (.int .u64 a0_2) ∧ w'.cell? ⟨gb124, 0, none⟩ = some (.bool a1_0) ∧ w'.cell? ⟨gb124, 1, none⟩ = some (.int .u64 a1_1) ∧ w'.cell? ⟨gb124, 2, none⟩ = some (.int .u64 a1_2)) ∧ (w'.heap[gb123]? = some (.cells #[.bool a0_0, .int .u64 a0_1, .int .u64 a0_2] 24 (0, 0))) ∧ (w'.heap[gb124]? = some (.cells #[.bool a1_0, .int .u64 a1_1, .int .u64 a1_2] 24 (0, 0))) ∧ (w'.heap[gb125]? = some (.cells #[.bool false, .int .u64 0, .int .u64 0] 24 (0, 0))) ∧ (Below w.heap.size w w')) ?_ ?_
          rotate_left
          ·intro hJ1
           refine join_ (σ := Nat) 5 #[Y,N,Y,N,Y,N,N,N] (fun s_ => [(6, .pointer (some ⟨s_, 0, none⟩))]) (fun s_ w' => (w'.cell? ⟨gb123, 0, none⟩ = some (.bool a0_0) ∧ w'.cell? ⟨gb123, 1, none⟩ = some (.int .u64 a0_1) ∧ w'.cell? ⟨gb123, 2, none⟩ = some (.int .u64 a0_2) ∧ w'.cell? ⟨gb124, 0, none⟩ = some (.bool a1_0) ∧ w'.cell? ⟨gb124, 1, none⟩ = some (.int .u64 a1_1) ∧ w'.cell? ⟨gb124, 2, none⟩ = some (.int .u64 a1_2)) ∧ (w'.heap[gb123]? = some (.cells #[.bool a0_0, .int .u64 a0_1, .int .u64 a0_2] 24 (0, 0))) ∧ (w'.heap[gb124]? = some (.cells #[.bool a1_0, .int .u64 a1_1, .int .u64 a1_2] 24 (0, 0))) ∧ (w'.heap[gb125]? = some (.cells #[.bool false, .int .u64 0, .int .u64 0] 24 (0, 0))) ∧ (w'.heap[s_]? = some (.cells #[.int .u64 0, .int .u64 0] 54 (0, 0))) ∧ (w.heap.size ≤ s_) ∧ (w.heap.size ≤ s_) ∧ (gb123 ≠ s_) ∧ (s_ ≠ gb123) ∧ (gb124 ≠ s_) ∧ (s_ ≠ gb124) ∧ (gb125 ≠ s_) ∧ (s_ ≠ gb125) ∧ (Below w.heap.size w w')) ?_ ?_
           rotate_left
           ·intro hJ4
            refine join_ (σ := Nat) 5 #[Y,N,Y,N,N,Y,N,N] (fun s_ => [(7, .pointer (some ⟨s_, 0, none⟩))]) (fun s_ w' => (w'.cell? ⟨gb123, 0, none⟩ = some (.bool a0_0) ∧ w'.cell? ⟨gb123, 1, none⟩ = some (.int .u64 a0_1) ∧ w'.cell? ⟨gb123, 2, none⟩ = some (.int .u64 a0_2) ∧ w'.cell? ⟨gb124, 0, none⟩ = some (.bool a1_0) ∧ w'.cell? ⟨gb124, 1, none⟩ = some (.int .u64 a1_1) ∧ w'.cell? ⟨gb124, 2, none⟩ = some (.int .u64 a1_2)) ∧ (w'.heap[gb123]? = some (.cells #[.bool a0_0, .int .u64 a0_1, .int .u64 a0_2] 24 (0, 0))) ∧ (w'.heap[gb124]? = some (.cells #[.bool a1_0, .int .u64 a1_1, .int .u64 a1_2] 24 (0, 0))) ∧ (w'.heap[gb125]? = some (.cells #[.bool false, .int .u64 0, .int .u64 0] 24 (0, 0))) ∧ (w'.heap[s_]? = some (.cells #[.int .u64 0, .int .u64 0] 54 (0, 0))) ∧ (w.heap.size ≤ s_) ∧ (w.heap.size ≤ s_) ∧ (gb123 ≠ s_) ∧ (s_ ≠ gb123) ∧ (gb124 ≠ s_) ∧ (s_ ≠ gb124) ∧ (gb125 ≠ s_) ∧ (s_ ≠ gb125) ∧ (Below w.heap.size w w')) ?_ ?_
            rotate_left
            ·intro hJ5
             refine three_ (i := 1) (j := 4) (k := 5) (Ni := some 12) (Nj := some 6) (Nk := some 7) #[Y,Y,Y,N,N,N,N,N] #[Y,N,Y,N,Y,N,N,N] #[Y,N,Y,N,N,Y,N,N] rfl rfl rfl rfl rfl rfl (three_of HT_.out (by kernel_rfl)) (by decide) (by decide) (by decide) (fun K hK => ?_) (fun K hK => ?_) (fun K hK => ?_)
             ·skip
              refine goes_ Try.func45 (by kernel_rfl) rfl #[.agg #[.bool a0_0, .int .u64 a0_1, .int .u64 a0_2]] (by rfl) rfl rfl (by (try simp only [List.map_toArray, List.map_cons, List.map_nil]); first | done | rfl | (simp only [List.length_drop, List.length_take]; rfl)) ?_
              with_reducible refine (big_of.calls a0_0 a0_1 a0_2 t126 t127 _ A3.out).mono ?_
              rintro e w14 ⟨rfl, hb⟩
              refine ⟨_, rfl, ?_⟩
              replace BK123 := bbZ BK123 hb
              replace BK124 := bbZ BK124 hb
              replace BK125 := bbZ BK125 hb
              replace HB := Aside0.mk (below_step HB.out hb)
              (try clear hb)
              (try clear hb2)
              (try clear hk)
              (try clear hi)
              refine hK.out _ _ ⟨(blk_cell BK123.out 0).trans rfl, (blk_cell BK123.out 1).trans rfl, (blk_cell BK123.out 2).trans rfl, (blk_cell BK124.out 0).trans rfl, (blk_cell BK124.out 1).trans rfl, (blk_cell BK124.out 2).trans rfl⟩ (fun hHeld => ?_)
              clear hK K
              refine norm_ (a' := ?_) ?_ ?_
              rotate_left
              ·show Act.put _ (some 12) _ = _
               simp only [Act.put, sA, sB, sC, i64_w, i32_w]
               rfl
              exact norm_ (by simp only [putAll, Act.put, sA, sB, sC] <;> rfl) (hJ1 () _ ⟨hHeld, BK123.out, BK124.out, BK125.out, (by repeat (first | (with_reducible first | exact HB.out | apply below_alloc | apply pw_below_drewN | apply below_drew1 | refine below_set ?_ GE123.out | refine below_set ?_ GE124.out | refine below_set ?_ GE125.out) | exact HB.out))⟩)
             ·skip
              refine box_step ?hg (N := 6) ?hd (cs := #[.int .u64 0, .int .u64 0]) (t := 54) ?hr ?_; (case hd => rfl); (case hg => rfl); (case hr => first | (go_simp; done) | (go_simp; rfl))
              intro gb130 hg w14 hbox hb
              have BK130 := Aside0.mk (hbox)
              have GW130 := szZ HB hg
              have GE130 := szZ HB hg
              have NB123_130 := nlZ BK123 hg
              have NB130_123 := ngZ BK123 hg
              have NB124_130 := nlZ BK124 hg
              have NB130_124 := ngZ BK124 hg
              have NB125_130 := nlZ BK125 hg
              have NB130_125 := ngZ BK125 hg
              replace BK123 := bbZ BK123 hb
              replace BK124 := bbZ BK124 hb
              replace BK125 := bbZ BK125 hb
              replace HB := Aside0.mk (below_step HB.out hb)
              clear hb hbox hg
              refine hK.out _ _ ⟨(blk_cell BK123.out 0).trans rfl, (blk_cell BK123.out 1).trans rfl, (blk_cell BK123.out 2).trans rfl, (blk_cell BK124.out 0).trans rfl, (blk_cell BK124.out 1).trans rfl, (blk_cell BK124.out 2).trans rfl⟩ (fun hHeld => ?_)
              clear hK K
              refine norm_ (a' := ?_) ?_ ?_
              rotate_left
              ·show Act.put _ (some 6) _ = _
               simp only [Act.put, sA, sB, sC, i64_w, i32_w]
               rfl
              exact norm_ (by simp only [putAll, Act.put, sA, sB, sC] <;> rfl) (hJ4 (gb130) _ ⟨hHeld, BK123.out, BK124.out, BK125.out, BK130.out, GW130.out, GE130.out, NB123_130.out, NB130_123.out, NB124_130.out, NB130_124.out, NB125_130.out, NB130_125.out, (by repeat (first | (with_reducible first | exact HB.out | apply below_alloc | apply pw_below_drewN | apply below_drew1 | refine below_set ?_ GE123.out | refine below_set ?_ GE124.out | refine below_set ?_ GE125.out | refine below_set ?_ GE130.out) | exact HB.out))⟩)
             ·skip
              refine box_step ?hg (N := 7) ?hd (cs := #[.int .u64 0, .int .u64 0]) (t := 54) ?hr ?_; (case hd => rfl); (case hg => rfl); (case hr => first | (go_simp; done) | (go_simp; rfl))
              intro gb131 hg w14 hbox hb
              have BK131 := Aside0.mk (hbox)
              have GW131 := szZ HB hg
              have GE131 := szZ HB hg
              have NB123_131 := nlZ BK123 hg
              have NB131_123 := ngZ BK123 hg
              have NB124_131 := nlZ BK124 hg
              have NB131_124 := ngZ BK124 hg
              have NB125_131 := nlZ BK125 hg
              have NB131_125 := ngZ BK125 hg
              replace BK123 := bbZ BK123 hb
              replace BK124 := bbZ BK124 hb
              replace BK125 := bbZ BK125 hb
              replace HB := Aside0.mk (below_step HB.out hb)
              clear hb hbox hg
              refine hK.out _ _ ⟨(blk_cell BK123.out 0).trans rfl, (blk_cell BK123.out 1).trans rfl, (blk_cell BK123.out 2).trans rfl, (blk_cell BK124.out 0).trans rfl, (blk_cell BK124.out 1).trans rfl, (blk_cell BK124.out 2).trans rfl⟩ (fun hHeld => ?_)
              clear hK K
              refine norm_ (a' := ?_) ?_ ?_
              rotate_left
              ·show Act.put _ (some 7) _ = _
               simp only [Act.put, sA, sB, sC, i64_w, i32_w]
               rfl
              exact norm_ (by simp only [putAll, Act.put, sA, sB, sC] <;> rfl) (hJ5 (gb131) _ ⟨hHeld, BK123.out, BK124.out, BK125.out, BK131.out, GW131.out, GE131.out, NB123_131.out, NB131_123.out, NB124_131.out, NB131_124.out, NB125_131.out, NB131_125.out, (by repeat (first | (with_reducible first | exact HB.out | apply below_alloc | apply pw_below_drewN | apply below_drew1 | refine below_set ?_ GE123.out | refine below_set ?_ GE124.out | refine below_set ?_ GE125.out | refine below_set ?_ GE131.out) | exact HB.out))⟩)
            ·skip
             rintro gb131 w15 ⟨hS_, h0_, h1_, h2_, h3_, h4_, h5_, h6_, h7_, h8_, h9_, h10_, h11_, h12_⟩
             have BK131 := Aside0.mk h3_
             have GW131 := Aside0.mk h4_
             have GE131 := Aside0.mk h5_
             have NB123_131 := Aside0.mk h6_
             have NB131_123 := Aside0.mk h7_
             have NB124_131 := Aside0.mk h8_
             have NB131_124 := Aside0.mk h9_
             have NB125_131 := Aside0.mk h10_
             have NB131_125 := Aside0.mk h11_
             replace BK123 := Aside0.mk h0_
             replace BK124 := Aside0.mk h1_
             replace BK125 := Aside0.mk h2_
             replace HB := Aside0.mk h12_
             clear h0_ h1_ h2_ h3_ h4_ h5_ h6_ h7_ h8_ h9_ h10_ h11_ h12_
             have hHeld : w15.cell? ⟨gb123, 0, none⟩ = some (.bool a0_0) ∧ w15.cell? ⟨gb123, 1, none⟩ = some (.int .u64 a0_1) ∧ w15.cell? ⟨gb123, 2, none⟩ = some (.int .u64 a0_2) ∧ w15.cell? ⟨gb124, 0, none⟩ = some (.bool a1_0) ∧ w15.cell? ⟨gb124, 1, none⟩ = some (.int .u64 a1_1) ∧ w15.cell? ⟨gb124, 2, none⟩ = some (.int .u64 a1_2) := hS_
             refine norm_ (a' := ?_) ?_ ?_
             rotate_left
             ·simp only [putAll, Act.put, sA, sB, sC]
              rfl
             refine two_ (i := 1) (j := 4) (Ni := some 12) (Nj := some 6) #[Y,Y,Y,N,N,Y,N,N] #[Y,N,Y,N,Y,Y,N,N] rfl rfl rfl rfl (two_of HT_.out (by kernel_rfl)) (by decide) (by decide) (fun K hK => ?_) (fun K hK => ?_)
             ·skip
              refine goes_ Try.func45 (by kernel_rfl) rfl #[.agg #[.bool a0_0, .int .u64 a0_1, .int .u64 a0_2]] (by rfl) rfl rfl (by (try simp only [List.map_toArray, List.map_cons, List.map_nil]); first | done | rfl | (simp only [List.length_drop, List.length_take]; rfl)) ?_
              with_reducible refine (big_of.calls a0_0 a0_1 a0_2 t126 t127 _ A3.out).mono ?_
              rintro e w16 ⟨rfl, hb⟩
              refine ⟨_, rfl, ?_⟩
              replace BK123 := bbZ BK123 hb
              replace BK124 := bbZ BK124 hb
              replace BK125 := bbZ BK125 hb
              replace BK131 := bbZ BK131 hb
              replace HB := Aside0.mk (below_step HB.out hb)
              (try clear hb)
              (try clear hb2)
              (try clear hk)
              (try clear hi)
              refine hK.out _ _ ⟨(blk_cell BK123.out 0).trans rfl, (blk_cell BK123.out 1).trans rfl, (blk_cell BK123.out 2).trans rfl, (blk_cell BK124.out 0).trans rfl, (blk_cell BK124.out 1).trans rfl, (blk_cell BK124.out 2).trans rfl⟩ (fun hHeld => ?_)
              clear hK K
              refine norm_ (a' := ?_) ?_ ?_
              rotate_left
              ·show Act.put _ (some 12) _ = _
               simp only [Act.put, sA, sB, sC, i64_w, i32_w]
               rfl
              exact norm_ (by simp only [putAll, Act.put, sA, sB, sC] <;> rfl) (hJ1_5 (gb131) _ ⟨hHeld, BK123.out, BK124.out, BK125.out, BK131.out, GW131.out, GE131.out, NB123_131.out, NB131_123.out, NB124_131.out, NB131_124.out, NB125_131.out, NB131_125.out, (by repeat (first | (with_reducible first | exact HB.out | apply below_alloc | apply pw_below_drewN | apply below_drew1 | refine below_set ?_ GE123.out | refine below_set ?_ GE124.out | refine below_set ?_ GE125.out | refine below_set ?_ GE131.out) | exact HB.out))⟩)
             ·skip
              refine box_step ?hg (N := 6) ?hd (cs := #[.int .u64 0, .int .u64 0]) (t := 54) ?hr ?_; (case hd => rfl); (case hg => rfl); (case hr => first | (go_simp; done) | (go_simp; rfl))
              intro gb130 hg w16 hbox hb
              have BK130 := Aside0.mk (hbox)
              have GW130 := szZ HB hg
              have GE130 := szZ HB hg
              have NB123_130 := nlZ BK123 hg
              have NB130_123 := ngZ BK123 hg
              have NB124_130 := nlZ BK124 hg
              have NB130_124 := ngZ BK124 hg
              have NB125_130 := nlZ BK125 hg
              have NB130_125 := ngZ BK125 hg
              have NB131_130 := nlZ BK131 hg
              have NB130_131 := ngZ BK131 hg
              replace BK123 := bbZ BK123 hb
              replace BK124 := bbZ BK124 hb
              replace BK125 := bbZ BK125 hb
              replace BK131 := bbZ BK131 hb
              replace HB := Aside0.mk (below_step HB.out hb)
              clear hb hbox hg
              refine hK.out _ _ ⟨(blk_cell BK123.out 0).trans rfl, (blk_cell BK123.out 1).trans rfl, (blk_cell BK123.out 2).trans rfl, (blk_cell BK124.out 0).trans rfl, (blk_cell BK124.out 1).trans rfl, (blk_cell BK124.out 2).trans rfl⟩ (fun hHeld => ?_)
              clear hK K
              refine norm_ (a' := ?_) ?_ ?_
              rotate_left
              ·show Act.put _ (some 6) _ = _
               simp only [Act.put, sA, sB, sC, i64_w, i32_w]
               rfl
              exact norm_ (by simp only [putAll, Act.put, sA, sB, sC] <;> rfl) (hJ4_5 (gb130, gb131) _ ⟨hHeld, BK123.out, BK124.out, BK125.out, BK130.out, BK131.out, GW130.out, GE130.out, NB123_130.out, NB130_123.out, NB124_130.out, NB130_124.out, NB125_130.out, NB130_125.out, NB131_130.out, NB130_131.out, GW131.out, GE131.out, NB123_131.out, NB131_123.out, NB124_131.out, NB131_124.out, NB125_131.out, NB131_125.out, (by repeat (first | (with_reducible first | exact HB.out | apply below_alloc | apply pw_below_drewN | apply below_drew1 | refine below_set ?_ GE123.out | refine below_set ?_ GE124.out | refine below_set ?_ GE125.out | refine below_set ?_ GE131.out | refine below_set ?_ GE130.out) | exact HB.out))⟩)
           ·skip
            rintro gb130 w15 ⟨hS_, h0_, h1_, h2_, h3_, h4_, h5_, h6_, h7_, h8_, h9_, h10_, h11_, h12_⟩
            have BK130 := Aside0.mk h3_
            have GW130 := Aside0.mk h4_
            have GE130 := Aside0.mk h5_
            have NB123_130 := Aside0.mk h6_
            have NB130_123 := Aside0.mk h7_
            have NB124_130 := Aside0.mk h8_
            have NB130_124 := Aside0.mk h9_
            have NB125_130 := Aside0.mk h10_
            have NB130_125 := Aside0.mk h11_
            replace BK123 := Aside0.mk h0_
            replace BK124 := Aside0.mk h1_
            replace BK125 := Aside0.mk h2_
            replace HB := Aside0.mk h12_
            clear h0_ h1_ h2_ h3_ h4_ h5_ h6_ h7_ h8_ h9_ h10_ h11_ h12_
            have hHeld : w15.cell? ⟨gb123, 0, none⟩ = some (.bool a0_0) ∧ w15.cell? ⟨gb123, 1, none⟩ = some (.int .u64 a0_1) ∧ w15.cell? ⟨gb123, 2, none⟩ = some (.int .u64 a0_2) ∧ w15.cell? ⟨gb124, 0, none⟩ = some (.bool a1_0) ∧ w15.cell? ⟨gb124, 1, none⟩ = some (.int .u64 a1_1) ∧ w15.cell? ⟨gb124, 2, none⟩ = some (.int .u64 a1_2) := hS_
            refine norm_ (a' := ?_) ?_ ?_
            rotate_left
            ·simp only [putAll, Act.put, sA, sB, sC]
             rfl
            refine two_ (i := 1) (j := 5) (Ni := some 12) (Nj := some 7) #[Y,Y,Y,N,Y,N,N,N] #[Y,N,Y,N,Y,Y,N,N] rfl rfl rfl rfl (two_of HT_.out (by kernel_rfl)) (by decide) (by decide) (fun K hK => ?_) (fun K hK => ?_)
            ·skip
             refine goes_ Try.func45 (by kernel_rfl) rfl #[.agg #[.bool a0_0, .int .u64 a0_1, .int .u64 a0_2]] (by rfl) rfl rfl (by (try simp only [List.map_toArray, List.map_cons, List.map_nil]); first | done | rfl | (simp only [List.length_drop, List.length_take]; rfl)) ?_
             with_reducible refine (big_of.calls a0_0 a0_1 a0_2 t126 t127 _ A3.out).mono ?_
             rintro e w16 ⟨rfl, hb⟩
             refine ⟨_, rfl, ?_⟩
             replace BK123 := bbZ BK123 hb
             replace BK124 := bbZ BK124 hb
             replace BK125 := bbZ BK125 hb
             replace BK130 := bbZ BK130 hb
             replace HB := Aside0.mk (below_step HB.out hb)
             (try clear hb)
             (try clear hb2)
             (try clear hk)
             (try clear hi)
             refine hK.out _ _ ⟨(blk_cell BK123.out 0).trans rfl, (blk_cell BK123.out 1).trans rfl, (blk_cell BK123.out 2).trans rfl, (blk_cell BK124.out 0).trans rfl, (blk_cell BK124.out 1).trans rfl, (blk_cell BK124.out 2).trans rfl⟩ (fun hHeld => ?_)
             clear hK K
             refine norm_ (a' := ?_) ?_ ?_
             rotate_left
             ·show Act.put _ (some 12) _ = _
              simp only [Act.put, sA, sB, sC, i64_w, i32_w]
              rfl
             exact norm_ (by simp only [putAll, Act.put, sA, sB, sC] <;> rfl) (hJ1_4 (gb130) _ ⟨hHeld, BK123.out, BK124.out, BK125.out, BK130.out, GW130.out, GE130.out, NB123_130.out, NB130_123.out, NB124_130.out, NB130_124.out, NB125_130.out, NB130_125.out, (by repeat (first | (with_reducible first | exact HB.out | apply below_alloc | apply pw_below_drewN | apply below_drew1 | refine below_set ?_ GE123.out | refine below_set ?_ GE124.out | refine below_set ?_ GE125.out | refine below_set ?_ GE130.out) | exact HB.out))⟩)
            ·skip
             refine box_step ?hg (N := 7) ?hd (cs := #[.int .u64 0, .int .u64 0]) (t := 54) ?hr ?_; (case hd => rfl); (case hg => rfl); (case hr => first | (go_simp; done) | (go_simp; rfl))
             intro gb131 hg w16 hbox hb
             have BK131 := Aside0.mk (hbox)
             have GW131 := szZ HB hg
             have GE131 := szZ HB hg
             have NB123_131 := nlZ BK123 hg
             have NB131_123 := ngZ BK123 hg
             have NB124_131 := nlZ BK124 hg
             have NB131_124 := ngZ BK124 hg
             have NB125_131 := nlZ BK125 hg
             have NB131_125 := ngZ BK125 hg
             have NB130_131 := nlZ BK130 hg
             have NB131_130 := ngZ BK130 hg
             replace BK123 := bbZ BK123 hb
             replace BK124 := bbZ BK124 hb
             replace BK125 := bbZ BK125 hb
             replace BK130 := bbZ BK130 hb
             replace HB := Aside0.mk (below_step HB.out hb)
             clear hb hbox hg
             refine hK.out _ _ ⟨(blk_cell BK123.out 0).trans rfl, (blk_cell BK123.out 1).trans rfl, (blk_cell BK123.out 2).trans rfl, (blk_cell BK124.out 0).trans rfl, (blk_cell BK124.out 1).trans rfl, (blk_cell BK124.out 2).trans rfl⟩ (fun hHeld => ?_)
             clear hK K
             refine norm_ (a' := ?_) ?_ ?_
             rotate_left
             ·show Act.put _ (some 7) _ = _
              simp only [Act.put, sA, sB, sC, i64_w, i32_w]
              rfl
             exact norm_ (by simp only [putAll, Act.put, sA, sB, sC] <;> rfl) (hJ4_5 (gb130, gb131) _ ⟨hHeld, BK123.out, BK124.out, BK125.out, BK130.out, BK131.out, GW130.out, GE130.out, NB123_130.out, NB130_123.out, NB124_130.out, NB130_124.out, NB125_130.out, NB130_125.out, NB131_130.out, NB130_131.out, GW131.out, GE131.out, NB123_131.out, NB131_123.out, NB124_131.out, NB131_124.out, NB125_131.out, NB131_125.out, (by repeat (first | (with_reducible first | exact HB.out | apply below_alloc | apply pw_below_drewN | apply below_drew1 | refine below_set ?_ GE123.out | refine below_set ?_ GE124.out | refine below_set ?_ GE125.out | refine below_set ?_ GE130.out | refine below_set ?_ GE131.out) | exact HB.out))⟩)
          ·skip
           rintro _ w15 ⟨hS_, h0_, h1_, h2_, h3_⟩
           replace BK123 := Aside0.mk h0_
           replace BK124 := Aside0.mk h1_
           replace BK125 := Aside0.mk h2_
           replace HB := Aside0.mk h3_
           clear h0_ h1_ h2_ h3_
           have hHeld : w15.cell? ⟨gb123, 0, none⟩ = some (.bool a0_0) ∧ w15.cell? ⟨gb123, 1, none⟩ = some (.int .u64 a0_1) ∧ w15.cell? ⟨gb123, 2, none⟩ = some (.int .u64 a0_2) ∧ w15.cell? ⟨gb124, 0, none⟩ = some (.bool a1_0) ∧ w15.cell? ⟨gb124, 1, none⟩ = some (.int .u64 a1_1) ∧ w15.cell? ⟨gb124, 2, none⟩ = some (.int .u64 a1_2) := hS_
           refine norm_ (a' := ?_) ?_ ?_
           rotate_left
           ·simp only [putAll, Act.put, sA, sB, sC]
            rfl
           refine three_ (i := 3) (j := 4) (k := 5) (Ni := some 14) (Nj := some 6) (Nk := some 7) #[Y,Y,Y,Y,N,N,N,N] #[Y,Y,Y,N,Y,N,N,N] #[Y,Y,Y,N,N,Y,N,N] rfl rfl rfl rfl rfl rfl (three_of HT_.out (by kernel_rfl)) (by decide) (by decide) (by decide) (fun K hK => ?_) (fun K hK => ?_) (fun K hK => ?_)
           ·skip
            refine goes_ Try.func45 (by kernel_rfl) rfl #[.agg #[.bool a1_0, .int .u64 a1_1, .int .u64 a1_2]] (by rfl) rfl rfl (by (try simp only [List.map_toArray, List.map_cons, List.map_nil]); first | done | rfl | (simp only [List.length_drop, List.length_take]; rfl)) ?_
            with_reducible refine (big_of.calls a1_0 a1_1 a1_2 t128 t129 _ A4.out).mono ?_
            rintro e w16 ⟨rfl, hb⟩
            refine ⟨_, rfl, ?_⟩
            replace BK123 := bbZ BK123 hb
            replace BK124 := bbZ BK124 hb
            replace BK125 := bbZ BK125 hb
            replace HB := Aside0.mk (below_step HB.out hb)
            (try clear hb)
            (try clear hb2)
            (try clear hk)
            (try clear hi)
            refine hK.out _ _ ⟨(blk_cell BK123.out 0).trans rfl, (blk_cell BK123.out 1).trans rfl, (blk_cell BK123.out 2).trans rfl, (blk_cell BK124.out 0).trans rfl, (blk_cell BK124.out 1).trans rfl, (blk_cell BK124.out 2).trans rfl⟩ (fun hHeld => ?_)
            clear hK K
            refine norm_ (a' := ?_) ?_ ?_
            rotate_left
            ·show Act.put _ (some 14) _ = _
             simp only [Act.put, sA, sB, sC, i64_w, i32_w]
             rfl
            exact norm_ (by simp only [putAll, Act.put, sA, sB, sC] <;> rfl) (hJ1_3 () _ ⟨hHeld, BK123.out, BK124.out, BK125.out, (by repeat (first | (with_reducible first | exact HB.out | apply below_alloc | apply pw_below_drewN | apply below_drew1 | refine below_set ?_ GE123.out | refine below_set ?_ GE124.out | refine below_set ?_ GE125.out) | exact HB.out))⟩)
           ·skip
            refine box_step ?hg (N := 6) ?hd (cs := #[.int .u64 0, .int .u64 0]) (t := 54) ?hr ?_; (case hd => rfl); (case hg => rfl); (case hr => first | (go_simp; done) | (go_simp; rfl))
            intro gb130 hg w16 hbox hb
            have BK130 := Aside0.mk (hbox)
            have GW130 := szZ HB hg
            have GE130 := szZ HB hg
            have NB123_130 := nlZ BK123 hg
            have NB130_123 := ngZ BK123 hg
            have NB124_130 := nlZ BK124 hg
            have NB130_124 := ngZ BK124 hg
            have NB125_130 := nlZ BK125 hg
            have NB130_125 := ngZ BK125 hg
            replace BK123 := bbZ BK123 hb
            replace BK124 := bbZ BK124 hb
            replace BK125 := bbZ BK125 hb
            replace HB := Aside0.mk (below_step HB.out hb)
            clear hb hbox hg
            refine hK.out _ _ ⟨(blk_cell BK123.out 0).trans rfl, (blk_cell BK123.out 1).trans rfl, (blk_cell BK123.out 2).trans rfl, (blk_cell BK124.out 0).trans rfl, (blk_cell BK124.out 1).trans rfl, (blk_cell BK124.out 2).trans rfl⟩ (fun hHeld => ?_)
            clear hK K
            refine norm_ (a' := ?_) ?_ ?_
            rotate_left
            ·show Act.put _ (some 6) _ = _
             simp only [Act.put, sA, sB, sC, i64_w, i32_w]
             rfl
            exact norm_ (by simp only [putAll, Act.put, sA, sB, sC] <;> rfl) (hJ1_4 (gb130) _ ⟨hHeld, BK123.out, BK124.out, BK125.out, BK130.out, GW130.out, GE130.out, NB123_130.out, NB130_123.out, NB124_130.out, NB130_124.out, NB125_130.out, NB130_125.out, (by repeat (first | (with_reducible first | exact HB.out | apply below_alloc | apply pw_below_drewN | apply below_drew1 | refine below_set ?_ GE123.out | refine below_set ?_ GE124.out | refine below_set ?_ GE125.out | refine below_set ?_ GE130.out) | exact HB.out))⟩)
           ·skip
            refine box_step ?hg (N := 7) ?hd (cs := #[.int .u64 0, .int .u64 0]) (t := 54) ?hr ?_; (case hd => rfl); (case hg => rfl); (case hr => first | (go_simp; done) | (go_simp; rfl))
            intro gb131 hg w16 hbox hb
            have BK131 := Aside0.mk (hbox)
            have GW131 := szZ HB hg
            have GE131 := szZ HB hg
            have NB123_131 := nlZ BK123 hg
            have NB131_123 := ngZ BK123 hg
            have NB124_131 := nlZ BK124 hg
            have NB131_124 := ngZ BK124 hg
            have NB125_131 := nlZ BK125 hg
            have NB131_125 := ngZ BK125 hg
            replace BK123 := bbZ BK123 hb
            replace BK124 := bbZ BK124 hb
            replace BK125 := bbZ BK125 hb
            replace HB := Aside0.mk (below_step HB.out hb)
            clear hb hbox hg
            refine hK.out _ _ ⟨(blk_cell BK123.out 0).trans rfl, (blk_cell BK123.out 1).trans rfl, (blk_cell BK123.out 2).trans rfl, (blk_cell BK124.out 0).trans rfl, (blk_cell BK124.out 1).trans rfl, (blk_cell BK124.out 2).trans rfl⟩ (fun hHeld => ?_)
            clear hK K
            refine norm_ (a' := ?_) ?_ ?_
            rotate_left
            ·show Act.put _ (some 7) _ = _
             simp only [Act.put, sA, sB, sC, i64_w, i32_w]
             rfl
            exact norm_ (by simp only [putAll, Act.put, sA, sB, sC] <;> rfl) (hJ1_5 (gb131) _ ⟨hHeld, BK123.out, BK124.out, BK125.out, BK131.out, GW131.out, GE131.out, NB123_131.out, NB131_123.out, NB124_131.out, NB131_124.out, NB125_131.out, NB131_125.out, (by repeat (first | (with_reducible first | exact HB.out | apply below_alloc | apply pw_below_drewN | apply below_drew1 | refine below_set ?_ GE123.out | refine below_set ?_ GE124.out | refine below_set ?_ GE125.out | refine below_set ?_ GE131.out) | exact HB.out))⟩)
         ·skip
          rintro ⟨gb130, gb131⟩ w16 ⟨hS_, h0_, h1_, h2_, h3_, h4_, h5_, h6_, h7_, h8_, h9_, h10_, h11_, h12_, h13_, h14_, h15_, h16_, h17_, h18_, h19_, h20_, h21_, h22_, h23_⟩
          have BK130 := Aside0.mk h3_
          have BK131 := Aside0.mk h4_
          have GW130 := Aside0.mk h5_
          have GE130 := Aside0.mk h6_
          have NB123_130 := Aside0.mk h7_
          have NB130_123 := Aside0.mk h8_
          have NB124_130 := Aside0.mk h9_
          have NB130_124 := Aside0.mk h10_
          have NB125_130 := Aside0.mk h11_
          have NB130_125 := Aside0.mk h12_
          have NB131_130 := Aside0.mk h13_
          have NB130_131 := Aside0.mk h14_
          have GW131 := Aside0.mk h15_
          have GE131 := Aside0.mk h16_
          have NB123_131 := Aside0.mk h17_
          have NB131_123 := Aside0.mk h18_
          have NB124_131 := Aside0.mk h19_
          have NB131_124 := Aside0.mk h20_
          have NB125_131 := Aside0.mk h21_
          have NB131_125 := Aside0.mk h22_
          replace BK123 := Aside0.mk h0_
          replace BK124 := Aside0.mk h1_
          replace BK125 := Aside0.mk h2_
          replace HB := Aside0.mk h23_
          clear h0_ h1_ h2_ h3_ h4_ h5_ h6_ h7_ h8_ h9_ h10_ h11_ h12_ h13_ h14_ h15_ h16_ h17_ h18_ h19_ h20_ h21_ h22_ h23_
          have hHeld : w16.cell? ⟨gb123, 0, none⟩ = some (.bool a0_0) ∧ w16.cell? ⟨gb123, 1, none⟩ = some (.int .u64 a0_1) ∧ w16.cell? ⟨gb123, 2, none⟩ = some (.int .u64 a0_2) ∧ w16.cell? ⟨gb124, 0, none⟩ = some (.bool a1_0) ∧ w16.cell? ⟨gb124, 1, none⟩ = some (.int .u64 a1_1) ∧ w16.cell? ⟨gb124, 2, none⟩ = some (.int .u64 a1_2) := hS_
          refine norm_ (a' := ?_) ?_ ?_
          rotate_left
          ·simp only [putAll, Act.put, sA, sB, sC]
           rfl
          refine one_ (i := 1) (N := some 12) #[Y,Y,Y,N,Y,Y,N,N] rfl rfl (one_of HT_.out (by kernel_rfl)) (by decide) (fun K hK => ?_)
          refine goes_ Try.func45 (by kernel_rfl) rfl #[.agg #[.bool a0_0, .int .u64 a0_1, .int .u64 a0_2]] (by rfl) rfl rfl (by (try simp only [List.map_toArray, List.map_cons, List.map_nil]); first | done | rfl | (simp only [List.length_drop, List.length_take]; rfl)) ?_
          with_reducible refine (big_of.calls a0_0 a0_1 a0_2 t126 t127 _ A3.out).mono ?_
          rintro e w17 ⟨rfl, hb⟩
          refine ⟨_, rfl, ?_⟩
          replace BK123 := bbZ BK123 hb
          replace BK124 := bbZ BK124 hb
          replace BK125 := bbZ BK125 hb
          replace BK130 := bbZ BK130 hb
          replace BK131 := bbZ BK131 hb
          replace HB := Aside0.mk (below_step HB.out hb)
          (try clear hb)
          (try clear hb2)
          (try clear hk)
          (try clear hi)
          refine hK.out _ _ ⟨(blk_cell BK123.out 0).trans rfl, (blk_cell BK123.out 1).trans rfl, (blk_cell BK123.out 2).trans rfl, (blk_cell BK124.out 0).trans rfl, (blk_cell BK124.out 1).trans rfl, (blk_cell BK124.out 2).trans rfl⟩ (fun hHeld => ?_)
          clear hK K
          refine norm_ (a' := ?_) ?_ ?_
          rotate_left
          ·show Act.put _ (some 12) _ = _
           simp only [Act.put, sA, sB, sC, i64_w, i32_w]
           rfl
          exact norm_ (by simp only [putAll, Act.put, sA, sB, sC] <;> rfl) (hJ1_4_5 (gb130, gb131) _ ⟨hHeld, BK123.out, BK124.out, BK125.out, BK130.out, BK131.out, GW130.out, GE130.out, NB123_130.out, NB130_123.out, NB124_130.out, NB130_124.out, NB125_130.out, NB130_125.out, NB131_130.out, NB130_131.out, GW131.out, GE131.out, NB123_131.out, NB131_123.out, NB124_131.out, NB131_124.out, NB125_131.out, NB131_125.out, (by repeat (first | (with_reducible first | exact HB.out | apply below_alloc | apply pw_below_drewN | apply below_drew1 | refine below_set ?_ GE123.out | refine below_set ?_ GE124.out | refine below_set ?_ GE125.out | refine below_set ?_ GE130.out | refine below_set ?_ GE131.out) | exact HB.out))⟩)
        ·skip
         rintro gb131 w16 ⟨hS_, h0_, h1_, h2_, h3_, h4_, h5_, h6_, h7_, h8_, h9_, h10_, h11_, h12_⟩
         have BK131 := Aside0.mk h3_
         have GW131 := Aside0.mk h4_
         have GE131 := Aside0.mk h5_
         have NB123_131 := Aside0.mk h6_
         have NB131_123 := Aside0.mk h7_
         have NB124_131 := Aside0.mk h8_
         have NB131_124 := Aside0.mk h9_
         have NB125_131 := Aside0.mk h10_
         have NB131_125 := Aside0.mk h11_
         replace BK123 := Aside0.mk h0_
         replace BK124 := Aside0.mk h1_
         replace BK125 := Aside0.mk h2_
         replace HB := Aside0.mk h12_
         clear h0_ h1_ h2_ h3_ h4_ h5_ h6_ h7_ h8_ h9_ h10_ h11_ h12_
         have hHeld : w16.cell? ⟨gb123, 0, none⟩ = some (.bool a0_0) ∧ w16.cell? ⟨gb123, 1, none⟩ = some (.int .u64 a0_1) ∧ w16.cell? ⟨gb123, 2, none⟩ = some (.int .u64 a0_2) ∧ w16.cell? ⟨gb124, 0, none⟩ = some (.bool a1_0) ∧ w16.cell? ⟨gb124, 1, none⟩ = some (.int .u64 a1_1) ∧ w16.cell? ⟨gb124, 2, none⟩ = some (.int .u64 a1_2) := hS_
         refine norm_ (a' := ?_) ?_ ?_
         rotate_left
         ·simp only [putAll, Act.put, sA, sB, sC]
          rfl
         refine two_ (i := 3) (j := 4) (Ni := some 14) (Nj := some 6) #[Y,Y,Y,Y,N,Y,N,N] #[Y,Y,Y,N,Y,Y,N,N] rfl rfl rfl rfl (two_of HT_.out (by kernel_rfl)) (by decide) (by decide) (fun K hK => ?_) (fun K hK => ?_)
         ·skip
          refine goes_ Try.func45 (by kernel_rfl) rfl #[.agg #[.bool a1_0, .int .u64 a1_1, .int .u64 a1_2]] (by rfl) rfl rfl (by (try simp only [List.map_toArray, List.map_cons, List.map_nil]); first | done | rfl | (simp only [List.length_drop, List.length_take]; rfl)) ?_
          with_reducible refine (big_of.calls a1_0 a1_1 a1_2 t128 t129 _ A4.out).mono ?_
          rintro e w17 ⟨rfl, hb⟩
          refine ⟨_, rfl, ?_⟩
          replace BK123 := bbZ BK123 hb
          replace BK124 := bbZ BK124 hb
          replace BK125 := bbZ BK125 hb
          replace BK131 := bbZ BK131 hb
          replace HB := Aside0.mk (below_step HB.out hb)
          (try clear hb)
          (try clear hb2)
          (try clear hk)
          (try clear hi)
          refine hK.out _ _ ⟨(blk_cell BK123.out 0).trans rfl, (blk_cell BK123.out 1).trans rfl, (blk_cell BK123.out 2).trans rfl, (blk_cell BK124.out 0).trans rfl, (blk_cell BK124.out 1).trans rfl, (blk_cell BK124.out 2).trans rfl⟩ (fun hHeld => ?_)
          clear hK K
          refine norm_ (a' := ?_) ?_ ?_
          rotate_left
          ·show Act.put _ (some 14) _ = _
           simp only [Act.put, sA, sB, sC, i64_w, i32_w]
           rfl
          exact norm_ (by simp only [putAll, Act.put, sA, sB, sC] <;> rfl) (hJ1_3_5 (gb131) _ ⟨hHeld, BK123.out, BK124.out, BK125.out, BK131.out, GW131.out, GE131.out, NB123_131.out, NB131_123.out, NB124_131.out, NB131_124.out, NB125_131.out, NB131_125.out, (by repeat (first | (with_reducible first | exact HB.out | apply below_alloc | apply pw_below_drewN | apply below_drew1 | refine below_set ?_ GE123.out | refine below_set ?_ GE124.out | refine below_set ?_ GE125.out | refine below_set ?_ GE131.out) | exact HB.out))⟩)
         ·skip
          refine box_step ?hg (N := 6) ?hd (cs := #[.int .u64 0, .int .u64 0]) (t := 54) ?hr ?_; (case hd => rfl); (case hg => rfl); (case hr => first | (go_simp; done) | (go_simp; rfl))
          intro gb130 hg w17 hbox hb
          have BK130 := Aside0.mk (hbox)
          have GW130 := szZ HB hg
          have GE130 := szZ HB hg
          have NB123_130 := nlZ BK123 hg
          have NB130_123 := ngZ BK123 hg
          have NB124_130 := nlZ BK124 hg
          have NB130_124 := ngZ BK124 hg
          have NB125_130 := nlZ BK125 hg
          have NB130_125 := ngZ BK125 hg
          have NB131_130 := nlZ BK131 hg
          have NB130_131 := ngZ BK131 hg
          replace BK123 := bbZ BK123 hb
          replace BK124 := bbZ BK124 hb
          replace BK125 := bbZ BK125 hb
          replace BK131 := bbZ BK131 hb
          replace HB := Aside0.mk (below_step HB.out hb)
          clear hb hbox hg
          refine hK.out _ _ ⟨(blk_cell BK123.out 0).trans rfl, (blk_cell BK123.out 1).trans rfl, (blk_cell BK123.out 2).trans rfl, (blk_cell BK124.out 0).trans rfl, (blk_cell BK124.out 1).trans rfl, (blk_cell BK124.out 2).trans rfl⟩ (fun hHeld => ?_)
          clear hK K
          refine norm_ (a' := ?_) ?_ ?_
          rotate_left
          ·show Act.put _ (some 6) _ = _
           simp only [Act.put, sA, sB, sC, i64_w, i32_w]
           rfl
          exact norm_ (by simp only [putAll, Act.put, sA, sB, sC] <;> rfl) (hJ1_4_5 (gb130, gb131) _ ⟨hHeld, BK123.out, BK124.out, BK125.out, BK130.out, BK131.out, GW130.out, GE130.out, NB123_130.out, NB130_123.out, NB124_130.out, NB130_124.out, NB125_130.out, NB130_125.out, NB131_130.out, NB130_131.out, GW131.out, GE131.out, NB123_131.out, NB131_123.out, NB124_131.out, NB131_124.out, NB125_131.out, NB131_125.out, (by repeat (first | (with_reducible first | exact HB.out | apply below_alloc | apply pw_below_drewN | apply below_drew1 | refine below_set ?_ GE123.out | refine below_set ?_ GE124.out | refine below_set ?_ GE125.out | refine below_set ?_ GE131.out | refine below_set ?_ GE130.out) | exact HB.out))⟩)
       ·skip
        rintro gb130 w16 ⟨hS_, h0_, h1_, h2_, h3_, h4_, h5_, h6_, h7_, h8_, h9_, h10_, h11_, h12_⟩
        have BK130 := Aside0.mk h3_
        have GW130 := Aside0.mk h4_
        have GE130 := Aside0.mk h5_
        have NB123_130 := Aside0.mk h6_
        have NB130_123 := Aside0.mk h7_
        have NB124_130 := Aside0.mk h8_
        have NB130_124 := Aside0.mk h9_
        have NB125_130 := Aside0.mk h10_
        have NB130_125 := Aside0.mk h11_
        replace BK123 := Aside0.mk h0_
        replace BK124 := Aside0.mk h1_
        replace BK125 := Aside0.mk h2_
        replace HB := Aside0.mk h12_
        clear h0_ h1_ h2_ h3_ h4_ h5_ h6_ h7_ h8_ h9_ h10_ h11_ h12_
        have hHeld : w16.cell? ⟨gb123, 0, none⟩ = some (.bool a0_0) ∧ w16.cell? ⟨gb123, 1, none⟩ = some (.int .u64 a0_1) ∧ w16.cell? ⟨gb123, 2, none⟩ = some (.int .u64 a0_2) ∧ w16.cell? ⟨gb124, 0, none⟩ = some (.bool a1_0) ∧ w16.cell? ⟨gb124, 1, none⟩ = some (.int .u64 a1_1) ∧ w16.cell? ⟨gb124, 2, none⟩ = some (.int .u64 a1_2) := hS_
        refine norm_ (a' := ?_) ?_ ?_
        rotate_left
        ·simp only [putAll, Act.put, sA, sB, sC]
         rfl
        refine two_ (i := 3) (j := 5) (Ni := some 14) (Nj := some 7) #[Y,Y,Y,Y,Y,N,N,N] #[Y,Y,Y,N,Y,Y,N,N] rfl rfl rfl rfl (two_of HT_.out (by kernel_rfl)) (by decide) (by decide) (fun K hK => ?_) (fun K hK => ?_)
        ·skip
         refine goes_ Try.func45 (by kernel_rfl) rfl #[.agg #[.bool a1_0, .int .u64 a1_1, .int .u64 a1_2]] (by rfl) rfl rfl (by (try simp only [List.map_toArray, List.map_cons, List.map_nil]); first | done | rfl | (simp only [List.length_drop, List.length_take]; rfl)) ?_
         with_reducible refine (big_of.calls a1_0 a1_1 a1_2 t128 t129 _ A4.out).mono ?_
         rintro e w17 ⟨rfl, hb⟩
         refine ⟨_, rfl, ?_⟩
         replace BK123 := bbZ BK123 hb
         replace BK124 := bbZ BK124 hb
         replace BK125 := bbZ BK125 hb
         replace BK130 := bbZ BK130 hb
         replace HB := Aside0.mk (below_step HB.out hb)
         (try clear hb)
         (try clear hb2)
         (try clear hk)
         (try clear hi)
         refine hK.out _ _ ⟨(blk_cell BK123.out 0).trans rfl, (blk_cell BK123.out 1).trans rfl, (blk_cell BK123.out 2).trans rfl, (blk_cell BK124.out 0).trans rfl, (blk_cell BK124.out 1).trans rfl, (blk_cell BK124.out 2).trans rfl⟩ (fun hHeld => ?_)
         clear hK K
         refine norm_ (a' := ?_) ?_ ?_
         rotate_left
         ·show Act.put _ (some 14) _ = _
          simp only [Act.put, sA, sB, sC, i64_w, i32_w]
          rfl
         exact norm_ (by simp only [putAll, Act.put, sA, sB, sC] <;> rfl) (hJ1_3_4 (gb130) _ ⟨hHeld, BK123.out, BK124.out, BK125.out, BK130.out, GW130.out, GE130.out, NB123_130.out, NB130_123.out, NB124_130.out, NB130_124.out, NB125_130.out, NB130_125.out, (by repeat (first | (with_reducible first | exact HB.out | apply below_alloc | apply pw_below_drewN | apply below_drew1 | refine below_set ?_ GE123.out | refine below_set ?_ GE124.out | refine below_set ?_ GE125.out | refine below_set ?_ GE130.out) | exact HB.out))⟩)
        ·skip
         refine box_step ?hg (N := 7) ?hd (cs := #[.int .u64 0, .int .u64 0]) (t := 54) ?hr ?_; (case hd => rfl); (case hg => rfl); (case hr => first | (go_simp; done) | (go_simp; rfl))
         intro gb131 hg w17 hbox hb
         have BK131 := Aside0.mk (hbox)
         have GW131 := szZ HB hg
         have GE131 := szZ HB hg
         have NB123_131 := nlZ BK123 hg
         have NB131_123 := ngZ BK123 hg
         have NB124_131 := nlZ BK124 hg
         have NB131_124 := ngZ BK124 hg
         have NB125_131 := nlZ BK125 hg
         have NB131_125 := ngZ BK125 hg
         have NB130_131 := nlZ BK130 hg
         have NB131_130 := ngZ BK130 hg
         replace BK123 := bbZ BK123 hb
         replace BK124 := bbZ BK124 hb
         replace BK125 := bbZ BK125 hb
         replace BK130 := bbZ BK130 hb
         replace HB := Aside0.mk (below_step HB.out hb)
         clear hb hbox hg
         refine hK.out _ _ ⟨(blk_cell BK123.out 0).trans rfl, (blk_cell BK123.out 1).trans rfl, (blk_cell BK123.out 2).trans rfl, (blk_cell BK124.out 0).trans rfl, (blk_cell BK124.out 1).trans rfl, (blk_cell BK124.out 2).trans rfl⟩ (fun hHeld => ?_)
         clear hK K
         refine norm_ (a' := ?_) ?_ ?_
         rotate_left
         ·show Act.put _ (some 7) _ = _
          simp only [Act.put, sA, sB, sC, i64_w, i32_w]
          rfl
         exact norm_ (by simp only [putAll, Act.put, sA, sB, sC] <;> rfl) (hJ1_4_5 (gb130, gb131) _ ⟨hHeld, BK123.out, BK124.out, BK125.out, BK130.out, BK131.out, GW130.out, GE130.out, NB123_130.out, NB130_123.out, NB124_130.out, NB130_124.out, NB125_130.out, NB130_125.out, NB131_130.out, NB130_131.out, GW131.out, GE131.out, NB123_131.out, NB131_123.out, NB124_131.out, NB131_124.out, NB125_131.out, NB131_125.out, (by repeat (first | (with_reducible first | exact HB.out | apply below_alloc | apply pw_below_drewN | apply below_drew1 | refine below_set ?_ GE123.out | refine below_set ?_ GE124.out | refine below_set ?_ GE125.out | refine below_set ?_ GE130.out | refine below_set ?_ GE131.out) | exact HB.out))⟩)
      ·skip
       rintro _ w16 ⟨hS_, h0_, h1_, h2_, h3_⟩
       replace BK123 := Aside0.mk h0_
       replace BK124 := Aside0.mk h1_
       replace BK125 := Aside0.mk h2_
       replace HB := Aside0.mk h3_
       clear h0_ h1_ h2_ h3_
       have hHeld : w16.cell? ⟨gb123, 0, none⟩ = some (.bool a0_0) ∧ w16.cell? ⟨gb123, 1, none⟩ = some (.int .u64 a0_1) ∧ w16.cell? ⟨gb123, 2, none⟩ = some (.int .u64 a0_2) ∧ w16.cell? ⟨gb124, 0, none⟩ = some (.bool a1_0) ∧ w16.cell? ⟨gb124, 1, none⟩ = some (.int .u64 a1_1) ∧ w16.cell? ⟨gb124, 2, none⟩ = some (.int .u64 a1_2) := hS_
       refine norm_ (a' := ?_) ?_ ?_
       rotate_left
       ·simp only [putAll, Act.put, sA, sB, sC]
        rfl
       refine two_ (i := 4) (j := 5) (Ni := some 6) (Nj := some 7) #[Y,Y,Y,Y,Y,N,N,N] #[Y,Y,Y,Y,N,Y,N,N] rfl rfl rfl rfl (two_of HT_.out (by kernel_rfl)) (by decide) (by decide) (fun K hK => ?_) (fun K hK => ?_)
       ·skip
        refine box_step ?hg (N := 6) ?hd (cs := #[.int .u64 0, .int .u64 0]) (t := 54) ?hr ?_; (case hd => rfl); (case hg => rfl); (case hr => first | (go_simp; done) | (go_simp; rfl))
        intro gb130 hg w17 hbox hb
        have BK130 := Aside0.mk (hbox)
        have GW130 := szZ HB hg
        have GE130 := szZ HB hg
        have NB123_130 := nlZ BK123 hg
        have NB130_123 := ngZ BK123 hg
        have NB124_130 := nlZ BK124 hg
        have NB130_124 := ngZ BK124 hg
        have NB125_130 := nlZ BK125 hg
        have NB130_125 := ngZ BK125 hg
        replace BK123 := bbZ BK123 hb
        replace BK124 := bbZ BK124 hb
        replace BK125 := bbZ BK125 hb
        replace HB := Aside0.mk (below_step HB.out hb)
        clear hb hbox hg
        refine hK.out _ _ ⟨(blk_cell BK123.out 0).trans rfl, (blk_cell BK123.out 1).trans rfl, (blk_cell BK123.out 2).trans rfl, (blk_cell BK124.out 0).trans rfl, (blk_cell BK124.out 1).trans rfl, (blk_cell BK124.out 2).trans rfl⟩ (fun hHeld => ?_)
        clear hK K
        refine norm_ (a' := ?_) ?_ ?_
        rotate_left
        ·show Act.put _ (some 6) _ = _
         simp only [Act.put, sA, sB, sC, i64_w, i32_w]
         rfl
        exact norm_ (by simp only [putAll, Act.put, sA, sB, sC] <;> rfl) (hJ1_3_4 (gb130) _ ⟨hHeld, BK123.out, BK124.out, BK125.out, BK130.out, GW130.out, GE130.out, NB123_130.out, NB130_123.out, NB124_130.out, NB130_124.out, NB125_130.out, NB130_125.out, (by repeat (first | (with_reducible first | exact HB.out | apply below_alloc | apply pw_below_drewN | apply below_drew1 | refine below_set ?_ GE123.out | refine below_set ?_ GE124.out | refine below_set ?_ GE125.out | refine below_set ?_ GE130.out) | exact HB.out))⟩)
       ·skip
        refine box_step ?hg (N := 7) ?hd (cs := #[.int .u64 0, .int .u64 0]) (t := 54) ?hr ?_; (case hd => rfl); (case hg => rfl); (case hr => first | (go_simp; done) | (go_simp; rfl))
        intro gb131 hg w17 hbox hb
        have BK131 := Aside0.mk (hbox)
        have GW131 := szZ HB hg
        have GE131 := szZ HB hg
        have NB123_131 := nlZ BK123 hg
        have NB131_123 := ngZ BK123 hg
        have NB124_131 := nlZ BK124 hg
        have NB131_124 := ngZ BK124 hg
        have NB125_131 := nlZ BK125 hg
        have NB131_125 := ngZ BK125 hg
        replace BK123 := bbZ BK123 hb
        replace BK124 := bbZ BK124 hb
        replace BK125 := bbZ BK125 hb
        replace HB := Aside0.mk (below_step HB.out hb)
        clear hb hbox hg
        refine hK.out _ _ ⟨(blk_cell BK123.out 0).trans rfl, (blk_cell BK123.out 1).trans rfl, (blk_cell BK123.out 2).trans rfl, (blk_cell BK124.out 0).trans rfl, (blk_cell BK124.out 1).trans rfl, (blk_cell BK124.out 2).trans rfl⟩ (fun hHeld => ?_)
        clear hK K
        refine norm_ (a' := ?_) ?_ ?_
        rotate_left
        ·show Act.put _ (some 7) _ = _
         simp only [Act.put, sA, sB, sC, i64_w, i32_w]
         rfl
        exact norm_ (by simp only [putAll, Act.put, sA, sB, sC] <;> rfl) (hJ1_3_5 (gb131) _ ⟨hHeld, BK123.out, BK124.out, BK125.out, BK131.out, GW131.out, GE131.out, NB123_131.out, NB131_123.out, NB124_131.out, NB131_124.out, NB125_131.out, NB131_125.out, (by repeat (first | (with_reducible first | exact HB.out | apply below_alloc | apply pw_below_drewN | apply below_drew1 | refine below_set ?_ GE123.out | refine below_set ?_ GE124.out | refine below_set ?_ GE125.out | refine below_set ?_ GE131.out) | exact HB.out))⟩)
     ·skip
      rintro ⟨gb130, gb131⟩ w17 ⟨hS_, h0_, h1_, h2_, h3_, h4_, h5_, h6_, h7_, h8_, h9_, h10_, h11_, h12_, h13_, h14_, h15_, h16_, h17_, h18_, h19_, h20_, h21_, h22_, h23_⟩
      have BK130 := Aside0.mk h3_
      have BK131 := Aside0.mk h4_
      have GW130 := Aside0.mk h5_
      have GE130 := Aside0.mk h6_
      have NB123_130 := Aside0.mk h7_
      have NB130_123 := Aside0.mk h8_
      have NB124_130 := Aside0.mk h9_
      have NB130_124 := Aside0.mk h10_
      have NB125_130 := Aside0.mk h11_
      have NB130_125 := Aside0.mk h12_
      have NB131_130 := Aside0.mk h13_
      have NB130_131 := Aside0.mk h14_
      have GW131 := Aside0.mk h15_
      have GE131 := Aside0.mk h16_
      have NB123_131 := Aside0.mk h17_
      have NB131_123 := Aside0.mk h18_
      have NB124_131 := Aside0.mk h19_
      have NB131_124 := Aside0.mk h20_
      have NB125_131 := Aside0.mk h21_
      have NB131_125 := Aside0.mk h22_
      replace BK123 := Aside0.mk h0_
      replace BK124 := Aside0.mk h1_
      replace BK125 := Aside0.mk h2_
      replace HB := Aside0.mk h23_
      clear h0_ h1_ h2_ h3_ h4_ h5_ h6_ h7_ h8_ h9_ h10_ h11_ h12_ h13_ h14_ h15_ h16_ h17_ h18_ h19_ h20_ h21_ h22_ h23_
      have hHeld : w17.cell? ⟨gb123, 0, none⟩ = some (.bool a0_0) ∧ w17.cell? ⟨gb123, 1, none⟩ = some (.int .u64 a0_1) ∧ w17.cell? ⟨gb123, 2, none⟩ = some (.int .u64 a0_2) ∧ w17.cell? ⟨gb124, 0, none⟩ = some (.bool a1_0) ∧ w17.cell? ⟨gb124, 1, none⟩ = some (.int .u64 a1_1) ∧ w17.cell? ⟨gb124, 2, none⟩ = some (.int .u64 a1_2) := hS_
      refine norm_ (a' := ?_) ?_ ?_
      rotate_left
      ·simp only [putAll, Act.put, sA, sB, sC]
       rfl
      refine one_ (i := 3) (N := some 14) #[Y,Y,Y,Y,Y,Y,N,N] rfl rfl (one_of HT_.out (by kernel_rfl)) (by decide) (fun K hK => ?_)
      refine goes_ Try.func45 (by kernel_rfl) rfl #[.agg #[.bool a1_0, .int .u64 a1_1, .int .u64 a1_2]] (by rfl) rfl rfl (by (try simp only [List.map_toArray, List.map_cons, List.map_nil]); first | done | rfl | (simp only [List.length_drop, List.length_take]; rfl)) ?_
      with_reducible refine (big_of.calls a1_0 a1_1 a1_2 t128 t129 _ A4.out).mono ?_
      rintro e w18 ⟨rfl, hb⟩
      refine ⟨_, rfl, ?_⟩
      replace BK123 := bbZ BK123 hb
      replace BK124 := bbZ BK124 hb
      replace BK125 := bbZ BK125 hb
      replace BK130 := bbZ BK130 hb
      replace BK131 := bbZ BK131 hb
      replace HB := Aside0.mk (below_step HB.out hb)
      (try clear hb)
      (try clear hb2)
      (try clear hk)
      (try clear hi)
      refine hK.out _ _ ⟨(blk_cell BK123.out 0).trans rfl, (blk_cell BK123.out 1).trans rfl, (blk_cell BK123.out 2).trans rfl, (blk_cell BK124.out 0).trans rfl, (blk_cell BK124.out 1).trans rfl, (blk_cell BK124.out 2).trans rfl⟩ (fun hHeld => ?_)
      clear hK K
      refine norm_ (a' := ?_) ?_ ?_
      rotate_left
      ·show Act.put _ (some 14) _ = _
       simp only [Act.put, sA, sB, sC, i64_w, i32_w]
       rfl
      exact norm_ (by simp only [putAll, Act.put, sA, sB, sC] <;> rfl) (hJ1_3_4_5 (gb130, gb131) _ ⟨hHeld, BK123.out, BK124.out, BK125.out, BK130.out, BK131.out, GW130.out, GE130.out, NB123_130.out, NB130_123.out, NB124_130.out, NB130_124.out, NB125_130.out, NB130_125.out, NB131_130.out, NB130_131.out, GW131.out, GE131.out, NB123_131.out, NB131_123.out, NB124_131.out, NB131_124.out, NB125_131.out, NB131_125.out, (by repeat (first | (with_reducible first | exact HB.out | apply below_alloc | apply pw_below_drewN | apply below_drew1 | refine below_set ?_ GE123.out | refine below_set ?_ GE124.out | refine below_set ?_ GE125.out | refine below_set ?_ GE130.out | refine below_set ?_ GE131.out) | exact HB.out))⟩)
    ·skip
     rintro gb131 w17 ⟨hS_, h0_, h1_, h2_, h3_, h4_, h5_, h6_, h7_, h8_, h9_, h10_, h11_, h12_⟩
     have BK131 := Aside0.mk h3_
     have GW131 := Aside0.mk h4_
     have GE131 := Aside0.mk h5_
     have NB123_131 := Aside0.mk h6_
     have NB131_123 := Aside0.mk h7_
     have NB124_131 := Aside0.mk h8_
     have NB131_124 := Aside0.mk h9_
     have NB125_131 := Aside0.mk h10_
     have NB131_125 := Aside0.mk h11_
     replace BK123 := Aside0.mk h0_
     replace BK124 := Aside0.mk h1_
     replace BK125 := Aside0.mk h2_
     replace HB := Aside0.mk h12_
     clear h0_ h1_ h2_ h3_ h4_ h5_ h6_ h7_ h8_ h9_ h10_ h11_ h12_
     have hHeld : w17.cell? ⟨gb123, 0, none⟩ = some (.bool a0_0) ∧ w17.cell? ⟨gb123, 1, none⟩ = some (.int .u64 a0_1) ∧ w17.cell? ⟨gb123, 2, none⟩ = some (.int .u64 a0_2) ∧ w17.cell? ⟨gb124, 0, none⟩ = some (.bool a1_0) ∧ w17.cell? ⟨gb124, 1, none⟩ = some (.int .u64 a1_1) ∧ w17.cell? ⟨gb124, 2, none⟩ = some (.int .u64 a1_2) := hS_
     refine norm_ (a' := ?_) ?_ ?_
     rotate_left
     ·simp only [putAll, Act.put, sA, sB, sC]
      rfl
     refine one_ (i := 4) (N := some 6) #[Y,Y,Y,Y,Y,Y,N,N] rfl rfl (one_of HT_.out (by kernel_rfl)) (by decide) (fun K hK => ?_)
     refine box_step ?hg (N := 6) ?hd (cs := #[.int .u64 0, .int .u64 0]) (t := 54) ?hr ?_; (case hd => rfl); (case hg => rfl); (case hr => first | (go_simp; done) | (go_simp; rfl))
     intro gb130 hg w18 hbox hb
     have BK130 := Aside0.mk (hbox)
     have GW130 := szZ HB hg
     have GE130 := szZ HB hg
     have NB123_130 := nlZ BK123 hg
     have NB130_123 := ngZ BK123 hg
     have NB124_130 := nlZ BK124 hg
     have NB130_124 := ngZ BK124 hg
     have NB125_130 := nlZ BK125 hg
     have NB130_125 := ngZ BK125 hg
     have NB131_130 := nlZ BK131 hg
     have NB130_131 := ngZ BK131 hg
     replace BK123 := bbZ BK123 hb
     replace BK124 := bbZ BK124 hb
     replace BK125 := bbZ BK125 hb
     replace BK131 := bbZ BK131 hb
     replace HB := Aside0.mk (below_step HB.out hb)
     clear hb hbox hg
     refine hK.out _ _ ⟨(blk_cell BK123.out 0).trans rfl, (blk_cell BK123.out 1).trans rfl, (blk_cell BK123.out 2).trans rfl, (blk_cell BK124.out 0).trans rfl, (blk_cell BK124.out 1).trans rfl, (blk_cell BK124.out 2).trans rfl⟩ (fun hHeld => ?_)
     clear hK K
     refine norm_ (a' := ?_) ?_ ?_
     rotate_left
     ·show Act.put _ (some 6) _ = _
      simp only [Act.put, sA, sB, sC, i64_w, i32_w]
      rfl
     exact norm_ (by simp only [putAll, Act.put, sA, sB, sC] <;> rfl) (hJ1_3_4_5 (gb130, gb131) _ ⟨hHeld, BK123.out, BK124.out, BK125.out, BK130.out, BK131.out, GW130.out, GE130.out, NB123_130.out, NB130_123.out, NB124_130.out, NB130_124.out, NB125_130.out, NB130_125.out, NB131_130.out, NB130_131.out, GW131.out, GE131.out, NB123_131.out, NB131_123.out, NB124_131.out, NB131_124.out, NB125_131.out, NB131_125.out, (by repeat (first | (with_reducible first | exact HB.out | apply below_alloc | apply pw_below_drewN | apply below_drew1 | refine below_set ?_ GE123.out | refine below_set ?_ GE124.out | refine below_set ?_ GE125.out | refine below_set ?_ GE131.out | refine below_set ?_ GE130.out) | exact HB.out))⟩)
   ·skip
    rintro gb130 w17 ⟨hS_, h0_, h1_, h2_, h3_, h4_, h5_, h6_, h7_, h8_, h9_, h10_, h11_, h12_⟩
    have BK130 := Aside0.mk h3_
    have GW130 := Aside0.mk h4_
    have GE130 := Aside0.mk h5_
    have NB123_130 := Aside0.mk h6_
    have NB130_123 := Aside0.mk h7_
    have NB124_130 := Aside0.mk h8_
    have NB130_124 := Aside0.mk h9_
    have NB125_130 := Aside0.mk h10_
    have NB130_125 := Aside0.mk h11_
    replace BK123 := Aside0.mk h0_
    replace BK124 := Aside0.mk h1_
    replace BK125 := Aside0.mk h2_
    replace HB := Aside0.mk h12_
    clear h0_ h1_ h2_ h3_ h4_ h5_ h6_ h7_ h8_ h9_ h10_ h11_ h12_
    have hHeld : w17.cell? ⟨gb123, 0, none⟩ = some (.bool a0_0) ∧ w17.cell? ⟨gb123, 1, none⟩ = some (.int .u64 a0_1) ∧ w17.cell? ⟨gb123, 2, none⟩ = some (.int .u64 a0_2) ∧ w17.cell? ⟨gb124, 0, none⟩ = some (.bool a1_0) ∧ w17.cell? ⟨gb124, 1, none⟩ = some (.int .u64 a1_1) ∧ w17.cell? ⟨gb124, 2, none⟩ = some (.int .u64 a1_2) := hS_
    refine norm_ (a' := ?_) ?_ ?_
    rotate_left
    ·simp only [putAll, Act.put, sA, sB, sC]
     rfl
    refine one_ (i := 5) (N := some 7) #[Y,Y,Y,Y,Y,Y,N,N] rfl rfl (one_of HT_.out (by kernel_rfl)) (by decide) (fun K hK => ?_)
    refine box_step ?hg (N := 7) ?hd (cs := #[.int .u64 0, .int .u64 0]) (t := 54) ?hr ?_; (case hd => rfl); (case hg => rfl); (case hr => first | (go_simp; done) | (go_simp; rfl))
    intro gb131 hg w18 hbox hb
    have BK131 := Aside0.mk (hbox)
    have GW131 := szZ HB hg
    have GE131 := szZ HB hg
    have NB123_131 := nlZ BK123 hg
    have NB131_123 := ngZ BK123 hg
    have NB124_131 := nlZ BK124 hg
    have NB131_124 := ngZ BK124 hg
    have NB125_131 := nlZ BK125 hg
    have NB131_125 := ngZ BK125 hg
    have NB130_131 := nlZ BK130 hg
    have NB131_130 := ngZ BK130 hg
    replace BK123 := bbZ BK123 hb
    replace BK124 := bbZ BK124 hb
    replace BK125 := bbZ BK125 hb
    replace BK130 := bbZ BK130 hb
    replace HB := Aside0.mk (below_step HB.out hb)
    clear hb hbox hg
    refine hK.out _ _ ⟨(blk_cell BK123.out 0).trans rfl, (blk_cell BK123.out 1).trans rfl, (blk_cell BK123.out 2).trans rfl, (blk_cell BK124.out 0).trans rfl, (blk_cell BK124.out 1).trans rfl, (blk_cell BK124.out 2).trans rfl⟩ (fun hHeld => ?_)
    clear hK K
    refine norm_ (a' := ?_) ?_ ?_
    rotate_left
    ·show Act.put _ (some 7) _ = _
     simp only [Act.put, sA, sB, sC, i64_w, i32_w]
     rfl
    exact norm_ (by simp only [putAll, Act.put, sA, sB, sC] <;> rfl) (hJ1_3_4_5 (gb130, gb131) _ ⟨hHeld, BK123.out, BK124.out, BK125.out, BK130.out, BK131.out, GW130.out, GE130.out, NB123_130.out, NB130_123.out, NB124_130.out, NB130_124.out, NB125_130.out, NB130_125.out, NB131_130.out, NB130_131.out, GW131.out, GE131.out, NB123_131.out, NB131_123.out, NB124_131.out, NB131_124.out, NB125_131.out, NB131_125.out, (by repeat (first | (with_reducible first | exact HB.out | apply below_alloc | apply pw_below_drewN | apply below_drew1 | refine below_set ?_ GE123.out | refine below_set ?_ GE124.out | refine below_set ?_ GE125.out | refine below_set ?_ GE130.out | refine below_set ?_ GE131.out) | exact HB.out))⟩)
  rintro ⟨gb130, gb131⟩ w18 ⟨hS_, h0_, h1_, h2_, h3_, h4_, h5_, h6_, h7_, h8_, h9_, h10_, h11_, h12_, h13_, h14_, h15_, h16_, h17_, h18_, h19_, h20_, h21_, h22_, h23_⟩
  have BK130 := Aside0.mk h3_
  have BK131 := Aside0.mk h4_
  have GW130 := Aside0.mk h5_
  have GE130 := Aside0.mk h6_
  have NB123_130 := Aside0.mk h7_
  have NB130_123 := Aside0.mk h8_
  have NB124_130 := Aside0.mk h9_
  have NB130_124 := Aside0.mk h10_
  have NB125_130 := Aside0.mk h11_
  have NB130_125 := Aside0.mk h12_
  have NB131_130 := Aside0.mk h13_
  have NB130_131 := Aside0.mk h14_
  have GW131 := Aside0.mk h15_
  have GE131 := Aside0.mk h16_
  have NB123_131 := Aside0.mk h17_
  have NB131_123 := Aside0.mk h18_
  have NB124_131 := Aside0.mk h19_
  have NB131_124 := Aside0.mk h20_
  have NB125_131 := Aside0.mk h21_
  have NB131_125 := Aside0.mk h22_
  replace BK123 := Aside0.mk h0_
  replace BK124 := Aside0.mk h1_
  replace BK125 := Aside0.mk h2_
  replace HB := Aside0.mk h23_
  clear h0_ h1_ h2_ h3_ h4_ h5_ h6_ h7_ h8_ h9_ h10_ h11_ h12_ h13_ h14_ h15_ h16_ h17_ h18_ h19_ h20_ h21_ h22_ h23_
  have hHeld : w18.cell? ⟨gb123, 0, none⟩ = some (.bool a0_0) ∧ w18.cell? ⟨gb123, 1, none⟩ = some (.int .u64 a0_1) ∧ w18.cell? ⟨gb123, 2, none⟩ = some (.int .u64 a0_2) ∧ w18.cell? ⟨gb124, 0, none⟩ = some (.bool a1_0) ∧ w18.cell? ⟨gb124, 1, none⟩ = some (.int .u64 a1_1) ∧ w18.cell? ⟨gb124, 2, none⟩ = some (.int .u64 a1_2) := hS_
  refine norm_ (a' := ?_) ?_ ?_
  rotate_left
  ·simp only [putAll, Act.put, sA, sB, sC]
   rfl
  refine one_ (i := 6) (N := none) #[Y,Y,Y,Y,Y,Y,Y,N] rfl rfl (one_of HT_.out (by kernel_rfl)) (by decide) (fun K hK => ?_)
  have hs19 : w18.cell? ⟨gb130, 0, none⟩ = some (.int .u64 0) := (blk_cell BK130.out 0).trans rfl
  have hfs19 := blk_frozen BK130.out 0
  have hns19_0 := NB123_130.out
  have hns19_1 := NB124_130.out
  have hns19_2 := NB125_130.out
  have hns19_4 := NB131_130.out
  have hms19_0 := NB130_123.out
  have hms19_1 := NB130_124.out
  have hms19_2 := NB130_125.out
  have hms19_4 := NB130_131.out
  have hs20 : w18.cell? ⟨gb130, 1, none⟩ = some (.int .u64 0) := (blk_cell BK130.out 1).trans rfl
  have hfs20 := blk_frozen BK130.out 1
  have hns20_0 := NB123_130.out
  have hns20_1 := NB124_130.out
  have hns20_2 := NB125_130.out
  have hns20_4 := NB131_130.out
  have hms20_0 := NB130_123.out
  have hms20_1 := NB130_124.out
  have hms20_2 := NB130_125.out
  have hms20_4 := NB130_131.out
  refine skip_ (w1 := ?_) (by rfl) rfl ?_ ?_
  rotate_left
  ·go_simp
   rfl
  refine hK.out _ _ ⟨((cell_far (p := ⟨gb130, _, none⟩) NB123_130.out _).trans (((cell_far (p := ⟨gb130, _, none⟩) NB123_130.out _).trans (hHeld.1)))), ((cell_far (p := ⟨gb130, _, none⟩) NB123_130.out _).trans (((cell_far (p := ⟨gb130, _, none⟩) NB123_130.out _).trans (hHeld.2.1)))), ((cell_far (p := ⟨gb130, _, none⟩) NB123_130.out _).trans (((cell_far (p := ⟨gb130, _, none⟩) NB123_130.out _).trans (hHeld.2.2.1)))), ((cell_far (p := ⟨gb130, _, none⟩) NB124_130.out _).trans (((cell_far (p := ⟨gb130, _, none⟩) NB124_130.out _).trans (hHeld.2.2.2.1)))), ((cell_far (p := ⟨gb130, _, none⟩) NB124_130.out _).trans (((cell_far (p := ⟨gb130, _, none⟩) NB124_130.out _).trans (hHeld.2.2.2.2.1)))), ((cell_far (p := ⟨gb130, _, none⟩) NB124_130.out _).trans (((cell_far (p := ⟨gb130, _, none⟩) NB124_130.out _).trans (hHeld.2.2.2.2.2))))⟩ (fun hHeld => ?_)
  clear hK K
  refine one_ (i := 7) (N := none) #[Y,Y,Y,Y,Y,Y,Y,Y] rfl rfl (one_of HT_.out (by kernel_rfl)) (by decide) (fun K hK => ?_)
  have hs21 : w18.cell? ⟨gb131, 0, none⟩ = some (.int .u64 0) := (blk_cell BK131.out 0).trans rfl
  have hfs21 := blk_frozen BK131.out 0
  have hns21_0 := NB123_131.out
  have hns21_1 := NB124_131.out
  have hns21_2 := NB125_131.out
  have hns21_3 := NB130_131.out
  have hms21_0 := NB131_123.out
  have hms21_1 := NB131_124.out
  have hms21_2 := NB131_125.out
  have hms21_3 := NB131_130.out
  have hs22 : w18.cell? ⟨gb131, 1, none⟩ = some (.int .u64 0) := (blk_cell BK131.out 1).trans rfl
  have hfs22 := blk_frozen BK131.out 1
  have hns22_0 := NB123_131.out
  have hns22_1 := NB124_131.out
  have hns22_2 := NB125_131.out
  have hns22_3 := NB130_131.out
  have hms22_0 := NB131_123.out
  have hms22_1 := NB131_124.out
  have hms22_2 := NB131_125.out
  have hms22_3 := NB131_130.out
  refine skip_ (w1 := ?_) (by rfl) rfl ?_ ?_
  rotate_left
  ·go_simp
   rfl
  refine hK.out _ _ ⟨((cell_far (p := ⟨gb131, _, none⟩) NB123_131.out _).trans (((cell_far (p := ⟨gb131, _, none⟩) NB123_131.out _).trans (hHeld.1)))), ((cell_far (p := ⟨gb131, _, none⟩) NB123_131.out _).trans (((cell_far (p := ⟨gb131, _, none⟩) NB123_131.out _).trans (hHeld.2.1)))), ((cell_far (p := ⟨gb131, _, none⟩) NB123_131.out _).trans (((cell_far (p := ⟨gb131, _, none⟩) NB123_131.out _).trans (hHeld.2.2.1)))), ((cell_far (p := ⟨gb131, _, none⟩) NB124_131.out _).trans (((cell_far (p := ⟨gb131, _, none⟩) NB124_131.out _).trans (hHeld.2.2.2.1)))), ((cell_far (p := ⟨gb131, _, none⟩) NB124_131.out _).trans (((cell_far (p := ⟨gb131, _, none⟩) NB124_131.out _).trans (hHeld.2.2.2.2.1)))), ((cell_far (p := ⟨gb131, _, none⟩) NB124_131.out _).trans (((cell_far (p := ⟨gb131, _, none⟩) NB124_131.out _).trans (hHeld.2.2.2.2.2))))⟩ (fun hHeld => ?_)
  clear hK K
  refine done_ (done_of HT_.out (by kernel_rfl)) ?_
  have hnb23 := NB123_124.out
  have hnc23 := NB124_123.out
  have hnb24 := NB123_125.out
  have hnc24 := NB125_123.out
  have hnb25 := NB123_130.out
  have hnc25 := NB130_123.out
  have hnb26 := NB123_131.out
  have hnc26 := NB131_123.out
  have hcz27_0 : w18.cell? ⟨gb123, 0, none⟩ = some (.bool a0_0) := (blk_cell BK123.out 0).trans rfl
  have hcz27_1 : w18.cell? ⟨gb123, 1, none⟩ = some (.int .u64 a0_1) := (blk_cell BK123.out 1).trans rfl
  have hcz27_2 : w18.cell? ⟨gb123, 2, none⟩ = some (.int .u64 a0_2) := (blk_cell BK123.out 2).trans rfl
  have hfz27_0 := blk_frozen BK123.out 0
  have hfz27_1 := blk_frozen BK123.out 1
  have hfz27_2 := blk_frozen BK123.out 2
  have hnb28 := NB124_125.out
  have hnc28 := NB125_124.out
  have hnb29 := NB124_130.out
  have hnc29 := NB130_124.out
  have hnb30 := NB124_131.out
  have hnc30 := NB131_124.out
  have hcz31_0 : w18.cell? ⟨gb124, 0, none⟩ = some (.bool a1_0) := (blk_cell BK124.out 0).trans rfl
  have hcz31_1 : w18.cell? ⟨gb124, 1, none⟩ = some (.int .u64 a1_1) := (blk_cell BK124.out 1).trans rfl
  have hcz31_2 : w18.cell? ⟨gb124, 2, none⟩ = some (.int .u64 a1_2) := (blk_cell BK124.out 2).trans rfl
  have hfz31_0 := blk_frozen BK124.out 0
  have hfz31_1 := blk_frozen BK124.out 1
  have hfz31_2 := blk_frozen BK124.out 2
  have hnb32 := NB130_125.out
  have hnc32 := NB125_130.out
  have hnb33 := NB130_131.out
  have hnc33 := NB131_130.out
  have hcz34_0 : w18.cell? ⟨gb130, 0, none⟩ = some (.int .u64 0) := (blk_cell BK130.out 0).trans rfl
  have hcz34_1 : w18.cell? ⟨gb130, 1, none⟩ = some (.int .u64 0) := (blk_cell BK130.out 1).trans rfl
  have hfz34_0 := blk_frozen BK130.out 0
  have hfz34_1 := blk_frozen BK130.out 1
  have hnb35 := NB131_125.out
  have hnc35 := NB125_131.out
  have hcz36_0 : w18.cell? ⟨gb131, 0, none⟩ = some (.int .u64 0) := (blk_cell BK131.out 0).trans rfl
  have hcz36_1 : w18.cell? ⟨gb131, 1, none⟩ = some (.int .u64 0) := (blk_cell BK131.out 1).trans rfl
  have hfz36_0 := blk_frozen BK131.out 0
  have hfz36_1 := blk_frozen BK131.out 1
  try go_wp2_with (first | ((with_reducible refine gate_callee (f := 46) rfl ?_); refine goesL_ (some 22) rfl rfl Try.func46 (by kernel_rfl) rfl #[.agg #[.int .u64 t126, .int .u64 t127], .agg #[.int .u64 t128, .int .u64 t129]] rfl (by (try simp only [List.map_toArray, List.map_cons, List.map_nil]); first | done | rfl | (simp only [List.length_drop, List.length_take]; rfl)) ?_; (with_reducible refine (big_size_cmpS.calls t126 t127 t128 t129 t132 _ A6.out).mono ?_); rintro e w37 ⟨rfl, hb⟩; refine ⟨_, rfl, ?_⟩; replace BK123 := Aside0.mk (blk_below (g := gb123) (o := .cells #[.bool a0_0, .int .u64 a0_1, .int .u64 a0_2] 24 (0, 0)) (by (with_reducible repeat (first | refine blk_drewN ?_ _ | refine blk_drew ?_ | refine blk_alloc ?_ _)); refine blk_far ?_ NB123_131.out _; (with_reducible repeat (first | refine blk_drewN ?_ _ | refine blk_drew ?_ | refine blk_alloc ?_ _)); refine blk_far ?_ NB123_131.out _; (with_reducible repeat (first | refine blk_drewN ?_ _ | refine blk_drew ?_ | refine blk_alloc ?_ _)); refine blk_far ?_ NB123_130.out _; (with_reducible repeat (first | refine blk_drewN ?_ _ | refine blk_drew ?_ | refine blk_alloc ?_ _)); refine blk_far ?_ NB123_130.out _; (with_reducible repeat (first | refine blk_drewN ?_ _ | refine blk_drew ?_ | refine blk_alloc ?_ _)); exact BK123.out) hb); replace BK124 := Aside0.mk (blk_below (g := gb124) (o := .cells #[.bool a1_0, .int .u64 a1_1, .int .u64 a1_2] 24 (0, 0)) (by (with_reducible repeat (first | refine blk_drewN ?_ _ | refine blk_drew ?_ | refine blk_alloc ?_ _)); refine blk_far ?_ NB124_131.out _; (with_reducible repeat (first | refine blk_drewN ?_ _ | refine blk_drew ?_ | refine blk_alloc ?_ _)); refine blk_far ?_ NB124_131.out _; (with_reducible repeat (first | refine blk_drewN ?_ _ | refine blk_drew ?_ | refine blk_alloc ?_ _)); refine blk_far ?_ NB124_130.out _; (with_reducible repeat (first | refine blk_drewN ?_ _ | refine blk_drew ?_ | refine blk_alloc ?_ _)); refine blk_far ?_ NB124_130.out _; (with_reducible repeat (first | refine blk_drewN ?_ _ | refine blk_drew ?_ | refine blk_alloc ?_ _)); exact BK124.out) hb); replace BK125 := Aside0.mk (blk_below (g := gb125) (o := .cells #[.bool false, .int .u64 0, .int .u64 0] 24 (0, 0)) (by (with_reducible repeat (first | refine blk_drewN ?_ _ | refine blk_drew ?_ | refine blk_alloc ?_ _)); refine blk_far ?_ NB125_131.out _; (with_reducible repeat (first | refine blk_drewN ?_ _ | refine blk_drew ?_ | refine blk_alloc ?_ _)); refine blk_far ?_ NB125_131.out _; (with_reducible repeat (first | refine blk_drewN ?_ _ | refine blk_drew ?_ | refine blk_alloc ?_ _)); refine blk_far ?_ NB125_130.out _; (with_reducible repeat (first | refine blk_drewN ?_ _ | refine blk_drew ?_ | refine blk_alloc ?_ _)); refine blk_far ?_ NB125_130.out _; (with_reducible repeat (first | refine blk_drewN ?_ _ | refine blk_drew ?_ | refine blk_alloc ?_ _)); exact BK125.out) hb); replace BK130 := Aside0.mk (blk_below (g := gb130) (o := .cells #[.int .u64 t126, .int .u64 t127] 54 (0, 0)) (by (with_reducible repeat (first | refine blk_drewN ?_ _ | refine blk_drew ?_ | refine blk_alloc ?_ _)); refine blk_far ?_ NB130_131.out _; (with_reducible repeat (first | refine blk_drewN ?_ _ | refine blk_drew ?_ | refine blk_alloc ?_ _)); refine blk_far ?_ NB130_131.out _; (with_reducible repeat (first | refine blk_drewN ?_ _ | refine blk_drew ?_ | refine blk_alloc ?_ _)); refine blk_put (cs := #[.int .u64 t126, .int .u64 0]) ?_ 1 _ rfl; (with_reducible repeat (first | refine blk_drewN ?_ _ | refine blk_drew ?_ | refine blk_alloc ?_ _)); refine blk_put (cs := #[.int .u64 0, .int .u64 0]) ?_ 0 _ rfl; (with_reducible repeat (first | refine blk_drewN ?_ _ | refine blk_drew ?_ | refine blk_alloc ?_ _)); exact BK130.out) hb); replace BK131 := Aside0.mk (blk_below (g := gb131) (o := .cells #[.int .u64 t128, .int .u64 t129] 54 (0, 0)) (by (with_reducible repeat (first | refine blk_drewN ?_ _ | refine blk_drew ?_ | refine blk_alloc ?_ _)); refine blk_put (cs := #[.int .u64 t128, .int .u64 0]) ?_ 1 _ rfl; (with_reducible repeat (first | refine blk_drewN ?_ _ | refine blk_drew ?_ | refine blk_alloc ?_ _)); refine blk_put (cs := #[.int .u64 0, .int .u64 0]) ?_ 0 _ rfl; (with_reducible repeat (first | refine blk_drewN ?_ _ | refine blk_drew ?_ | refine blk_alloc ?_ _)); refine blk_far ?_ NB131_130.out _; (with_reducible repeat (first | refine blk_drewN ?_ _ | refine blk_drew ?_ | refine blk_alloc ?_ _)); refine blk_far ?_ NB131_130.out _; (with_reducible repeat (first | refine blk_drewN ?_ _ | refine blk_drew ?_ | refine blk_alloc ?_ _)); exact BK131.out) hb); replace HB := Aside0.mk (below_step (by repeat (first | (with_reducible first | exact HB.out | apply below_alloc | apply pw_below_drewN | apply below_drew1 | refine below_set ?_ GE123.out | refine below_set ?_ GE124.out | refine below_set ?_ GE125.out | refine below_set ?_ GE130.out | refine below_set ?_ GE131.out) | exact HB.out)) hb); (try clear hb); (try clear hb2); (try clear hk); (try clear hi)))
  replace BK123 := Aside0.mk (blk_drew BK123.out)
  replace BK124 := Aside0.mk (blk_drew BK124.out)
  replace BK125 := Aside0.mk (blk_drew BK125.out)
  replace BK130 := Aside0.mk (blk_drew BK130.out)
  replace BK131 := Aside0.mk (blk_drew BK131.out)
  replace HB := Aside0.mk (below_drew1 HB.out)
  refine start_ (n := 8) (S := fun w' => w'.cell? ⟨gb131, 0, none⟩ = some (.int .u64 t128) ∧ w'.cell? ⟨gb131, 1, none⟩ = some (.int .u64 t129) ∧ w'.cell? ⟨gb130, 0, none⟩ = some (.int .u64 t126) ∧ w'.cell? ⟨gb130, 1, none⟩ = some (.int .u64 t127) ∧ w'.cell? ⟨gb124, 0, none⟩ = some (.bool a1_0) ∧ w'.cell? ⟨gb124, 1, none⟩ = some (.int .u64 a1_1) ∧ w'.cell? ⟨gb124, 2, none⟩ = some (.int .u64 a1_2)) (ds := []) #[N,N,N,N,N,N,N,N] (by kernel_rfl) rfl rfl ⟨(blk_cell BK131.out 0).trans rfl, (blk_cell BK131.out 1).trans rfl, (blk_cell BK130.out 0).trans rfl, (blk_cell BK130.out 1).trans rfl, (blk_cell BK124.out 0).trans rfl, (blk_cell BK124.out 1).trans rfl, (blk_cell BK124.out 2).trans rfl⟩ (fun hHeld => ?_); refine with_tabW big_Add.tab4 big_Add.bits4 (fun HT_ HW_ => ?_)
  generalize w37.drew = w38 at BK123 BK124 BK125 BK130 BK131 HB hHeld ⊢
  refine pure_ (i := 3) (N := some 27) (v := ?_) (a' := ?_) #[N,N,N,Y,N,N,N,N] rfl rfl (any_of HT_.out (by kernel_rfl)) (fun _ _ _ h => h) (Or.inl ⟨by rfl, ?_⟩) ?_ ?_
  rotate_left
  ·intro w'
   go_simp
   with_reducible rfl
  rotate_left
  ·simp only [Act.put, sA, sB, sC, i64_w, i32_w]
   rfl
  refine take_ (i := 0) (N := some 24) (v := ?_) (a' := ?_) #[Y,N,N,Y,N,N,N,N] rfl rfl (take_ofW HT_.out HW_.out (by kernel_rfl)) (fun _ _ _ h => h) (Or.inl ⟨by rfl, ?_⟩) hHeld ?_ ?_
  rotate_left
  ·rintro w' ⟨s0, s1, s2, s3, s4, s5, s6⟩
   go_simp
   with_reducible rfl
  rotate_left
  ·simp only [Act.put, sA, sB, sC, i64_w, i32_w]
   rfl
  refine take_ (i := 1) (N := some 25) (v := ?_) (a' := ?_) #[Y,Y,N,Y,N,N,N,N] rfl rfl (take_ofW HT_.out HW_.out (by kernel_rfl)) (fun _ _ _ h => h) (Or.inl ⟨by rfl, ?_⟩) hHeld ?_ ?_
  rotate_left
  ·rintro w' ⟨s0, s1, s2, s3, s4, s5, s6⟩
   go_simp
   with_reducible rfl
  rotate_left
  ·simp only [Act.put, sA, sB, sC, i64_w, i32_w]
   rfl
  refine take_ (i := 4) (N := some 28) (v := ?_) (a' := ?_) #[Y,Y,N,Y,Y,N,N,N] rfl rfl (take_ofW HT_.out HW_.out (by kernel_rfl)) (fun _ _ _ h => h) (Or.inl ⟨by rfl, ?_⟩) hHeld ?_ ?_
  rotate_left
  ·rintro w' ⟨s0, s1, s2, s3, s4, s5, s6⟩
   go_simp
   with_reducible rfl
  rotate_left
  ·simp only [Act.put, sA, sB, sC, i64_w, i32_w]
   rfl
  refine one_ (i := 2) (N := some 26) #[Y,Y,Y,Y,Y,N,N,N] rfl rfl (one_of HT_.out (by kernel_rfl)) (by decide) (fun K hK => ?_)
  refine goes_ Try.func47 (by kernel_rfl) rfl #[.agg #[.int .u64 t128, .int .u64 t129], .agg #[.int .u64 t126, .int .u64 t127]] (by rfl) rfl rfl (by (try simp only [List.map_toArray, List.map_cons, List.map_nil]); first | done | rfl | (simp only [List.length_drop, List.length_take]; rfl)) ?_
  with_reducible refine (big_size_minusS.calls t128 t129 t126 t127 t133 t134 _ A8.out).mono ?_
  rintro e w39 ⟨rfl, hb⟩
  refine ⟨_, rfl, ?_⟩
  replace BK123 := bbZ BK123 hb
  replace BK124 := bbZ BK124 hb
  replace BK125 := bbZ BK125 hb
  replace BK130 := bbZ BK130 hb
  replace BK131 := bbZ BK131 hb
  replace HB := Aside0.mk (below_step HB.out hb)
  (try clear hb)
  (try clear hb2)
  (try clear hk)
  (try clear hi)
  refine hK.out _ _ ⟨(blk_cell BK131.out 0).trans rfl, (blk_cell BK131.out 1).trans rfl, (blk_cell BK130.out 0).trans rfl, (blk_cell BK130.out 1).trans rfl, (blk_cell BK124.out 0).trans rfl, (blk_cell BK124.out 1).trans rfl, (blk_cell BK124.out 2).trans rfl⟩ (fun hHeld => ?_)
  clear hK K
  refine norm_ (a' := ?_) ?_ ?_
  rotate_left
  ·show Act.put _ (some 26) _ = _
   simp only [Act.put, sA, sB, sC, i64_w, i32_w]
   rfl
  refine one_ (i := 5) (N := some 29) #[Y,Y,Y,Y,Y,Y,N,N] rfl rfl (one_of HT_.out (by kernel_rfl)) (by decide) (fun K hK => ?_)
  refine goes_ Try.func48 (by kernel_rfl) rfl #[.agg #[.int .u64 t133, .int .u64 t134], .bool a1_0] (by rfl) rfl rfl (by (try simp only [List.map_toArray, List.map_cons, List.map_nil]); first | done | rfl | (simp only [List.length_drop, List.length_take]; rfl)) ?_
  with_reducible refine (big_size_with.calls t133 t134 a1_0 t135 t136 t137 _ A9.out).mono ?_
  rintro e w40 ⟨rfl, hb⟩
  refine ⟨_, rfl, ?_⟩
  replace BK123 := bbZ BK123 hb
  replace BK124 := bbZ BK124 hb
  replace BK125 := bbZ BK125 hb
  replace BK130 := bbZ BK130 hb
  replace BK131 := bbZ BK131 hb
  replace HB := Aside0.mk (below_step HB.out hb)
  (try clear hb)
  (try clear hb2)
  (try clear hk)
  (try clear hi)
  refine hK.out _ _ ⟨(blk_cell BK131.out 0).trans rfl, (blk_cell BK131.out 1).trans rfl, (blk_cell BK130.out 0).trans rfl, (blk_cell BK130.out 1).trans rfl, (blk_cell BK124.out 0).trans rfl, (blk_cell BK124.out 1).trans rfl, (blk_cell BK124.out 2).trans rfl⟩ (fun hHeld => ?_)
  clear hK K
  refine norm_ (a' := ?_) ?_ ?_
  rotate_left
  ·show Act.put _ (some 29) _ = _
   simp only [Act.put, sA, sB, sC, i64_w, i32_w]
   rfl
  refine one_ (i := 6) (N := none) #[Y,Y,Y,Y,Y,Y,Y,N] rfl rfl (one_of HT_.out (by kernel_rfl)) (by decide) (fun K hK => ?_)
  have hs41 : w40.cell? ⟨gb125, 0, none⟩ = some (.bool false) := (blk_cell BK125.out 0).trans rfl
  have hfs41 := blk_frozen BK125.out 0
  have hns41_0 := NB123_125.out
  have hns41_1 := NB124_125.out
  have hns41_3 := NB130_125.out
  have hns41_4 := NB131_125.out
  have hms41_0 := NB125_123.out
  have hms41_1 := NB125_124.out
  have hms41_3 := NB125_130.out
  have hms41_4 := NB125_131.out
  have hs42 : w40.cell? ⟨gb125, 1, none⟩ = some (.int .u64 0) := (blk_cell BK125.out 1).trans rfl
  have hfs42 := blk_frozen BK125.out 1
  have hns42_0 := NB123_125.out
  have hns42_1 := NB124_125.out
  have hns42_3 := NB130_125.out
  have hns42_4 := NB131_125.out
  have hms42_0 := NB125_123.out
  have hms42_1 := NB125_124.out
  have hms42_3 := NB125_130.out
  have hms42_4 := NB125_131.out
  have hs43 : w40.cell? ⟨gb125, 2, none⟩ = some (.int .u64 0) := (blk_cell BK125.out 2).trans rfl
  have hfs43 := blk_frozen BK125.out 2
  have hns43_0 := NB123_125.out
  have hns43_1 := NB124_125.out
  have hns43_3 := NB130_125.out
  have hns43_4 := NB131_125.out
  have hms43_0 := NB125_123.out
  have hms43_1 := NB125_124.out
  have hms43_3 := NB125_130.out
  have hms43_4 := NB125_131.out
  refine skip_ (w1 := ?_) (by rfl) rfl ?_ ?_
  rotate_left
  ·go_simp
   rfl
  refine hK.out _ _ ⟨((cell_far (p := ⟨gb125, _, none⟩) NB131_125.out _).trans (((cell_far (p := ⟨gb125, _, none⟩) NB131_125.out _).trans (((cell_far (p := ⟨gb125, _, none⟩) NB131_125.out _).trans (hHeld.1)))))), ((cell_far (p := ⟨gb125, _, none⟩) NB131_125.out _).trans (((cell_far (p := ⟨gb125, _, none⟩) NB131_125.out _).trans (((cell_far (p := ⟨gb125, _, none⟩) NB131_125.out _).trans (hHeld.2.1)))))), ((cell_far (p := ⟨gb125, _, none⟩) NB130_125.out _).trans (((cell_far (p := ⟨gb125, _, none⟩) NB130_125.out _).trans (((cell_far (p := ⟨gb125, _, none⟩) NB130_125.out _).trans (hHeld.2.2.1)))))), ((cell_far (p := ⟨gb125, _, none⟩) NB130_125.out _).trans (((cell_far (p := ⟨gb125, _, none⟩) NB130_125.out _).trans (((cell_far (p := ⟨gb125, _, none⟩) NB130_125.out _).trans (hHeld.2.2.2.1)))))), ((cell_far (p := ⟨gb125, _, none⟩) NB124_125.out _).trans (((cell_far (p := ⟨gb125, _, none⟩) NB124_125.out _).trans (((cell_far (p := ⟨gb125, _, none⟩) NB124_125.out _).trans (hHeld.2.2.2.2.1)))))), ((cell_far (p := ⟨gb125, _, none⟩) NB124_125.out _).trans (((cell_far (p := ⟨gb125, _, none⟩) NB124_125.out _).trans (((cell_far (p := ⟨gb125, _, none⟩) NB124_125.out _).trans (hHeld.2.2.2.2.2.1)))))), ((cell_far (p := ⟨gb125, _, none⟩) NB124_125.out _).trans (((cell_far (p := ⟨gb125, _, none⟩) NB124_125.out _).trans (((cell_far (p := ⟨gb125, _, none⟩) NB124_125.out _).trans (hHeld.2.2.2.2.2.2))))))⟩ (fun hHeld => ?_)
  clear hK K
  refine pure_ (i := 7) (N := some 5) (v := ?_) (a' := ?_) #[Y,Y,Y,Y,Y,Y,Y,Y] rfl rfl (any_of HT_.out (by kernel_rfl)) (fun _ _ _ h => h) (Or.inl ⟨by rfl, ?_⟩) ?_ ?_
  rotate_left
  ·intro w'
   go_simp
   with_reducible rfl
  rotate_left
  ·simp only [Act.put, sA, sB, sC, i64_w, i32_w]
   rfl
  refine done_ (done_of HT_.out (by kernel_rfl)) ?_
  try go_wp2
  refine bodyPost_ret (results_ct rfl _ _ gb125 24 #[.bool t135, .int .u64 t136, .int .u64 t137] (0, 0) _ rfl (by (with_reducible repeat (first | refine blk_drewN ?_ _ | refine blk_drew ?_ | refine blk_alloc ?_ _)); refine blk_put (cs := #[.bool t135, .int .u64 t136, .int .u64 0]) ?_ 2 _ rfl; (with_reducible repeat (first | refine blk_drewN ?_ _ | refine blk_drew ?_ | refine blk_alloc ?_ _)); refine blk_put (cs := #[.bool t135, .int .u64 0, .int .u64 0]) ?_ 1 _ rfl; (with_reducible repeat (first | refine blk_drewN ?_ _ | refine blk_drew ?_ | refine blk_alloc ?_ _)); refine blk_put (cs := #[.bool false, .int .u64 0, .int .u64 0]) ?_ 0 _ rfl; (with_reducible repeat (first | refine blk_drewN ?_ _ | refine blk_drew ?_ | refine blk_alloc ?_ _)); exact BK125.out) Try.underlying24 rfl (by kernel_rfl)) rfl ?_
  exact ⟨by first | rfl | (simp [errW_none, errW_some] <;> rfl) | (simp [*, errW_none, errW_some] <;> rfl), by repeat (first | (with_reducible first | exact HB.out | apply below_alloc | apply pw_below_drewN | apply below_drew1 | refine below_set ?_ GE123.out | refine below_set ?_ GE124.out | refine below_set ?_ GE125.out | refine below_set ?_ GE130.out | refine below_set ?_ GE131.out) | exact HB.out)⟩
 ·rw [if_neg c7] at H
  have c7b0 : decide (t132 < 0) = false := decide_eq_false c7
  clear c7
  replace H := Option.bind_eq_some_iff.mp H
  obtain ⟨⟨t138, t139⟩, A440, H⟩ := H
  replace H : ((big_size_with.f t138 t139 a0_0).bind fun bt140 => (some (bt140.1, bt140.2.1, bt140.2.2, 0))) = some (r1, r2, r3, r4) := H
  have A44 := Aside0.mk A440
  clear A440
  replace H := Option.bind_eq_some_iff.mp H
  obtain ⟨⟨t140, t141, t142⟩, A450, H⟩ := H
  replace H : (some (t140, t141, t142, 0)) = some (r1, r2, r3, r4) := H
  have A45 := Aside0.mk A450
  clear A450
  simp only [Option.some.injEq, Prod.mk.injEq] at H
  obtain ⟨rfl, rfl, rfl, rfl⟩ := H
  go_enter Try.func16, Try.ntmps16
  try go_wp2_with (first | ((with_reducible refine gate_dst (N := 2) rfl ?_); refine box_event ?hg (N := 2) ?hd (cs := #[.bool a0_0, .int .u64 a0_1, .int .u64 a0_2]) (t := 24) ?hr ?_; (case hd => rfl); (case hg => rfl); (case hr => first | (go_simp; done) | (go_simp; rfl)); intro gb123 hg w46 hbox hb; have BK123 := Aside0.mk (hbox); have GW123 := Aside0.mk ((by rw [hg]; exact (below_size (by repeat (first | (with_reducible first | exact HB.out | apply below_alloc | apply pw_below_drewN | apply below_drew1) | exact HB.out))) : w.heap.size ≤ gb123)); have GE123 := Aside0.mk ((by rw [hg]; exact (below_size (by repeat (first | (with_reducible first | exact HB.out | apply below_alloc | apply pw_below_drewN | apply below_drew1) | exact HB.out))) : w.heap.size ≤ gb123)); replace HB := Aside0.mk (below_step (by repeat (first | (with_reducible first | exact HB.out | apply below_alloc | apply pw_below_drewN | apply below_drew1) | exact HB.out)) hb); clear hb hbox hg) | ((with_reducible refine gate_dst (N := 3) rfl ?_); refine box_event ?hg (N := 3) ?hd (cs := #[.bool a1_0, .int .u64 a1_1, .int .u64 a1_2]) (t := 24) ?hr ?_; (case hd => rfl); (case hg => rfl); (case hr => first | (go_simp; done) | (go_simp; rfl)); intro gb124 hg w47 hbox hb; have BK124 := Aside0.mk (hbox); have GW124 := Aside0.mk ((by rw [hg]; exact (below_size (by repeat (first | (with_reducible first | exact HB.out | apply below_alloc | apply pw_below_drewN | apply below_drew1 | refine below_set ?_ GE123.out) | exact HB.out))) : w.heap.size ≤ gb124)); have GE124 := Aside0.mk ((by rw [hg]; exact (below_size (by repeat (first | (with_reducible first | exact HB.out | apply below_alloc | apply pw_below_drewN | apply below_drew1 | refine below_set ?_ GE123.out) | exact HB.out))) : w.heap.size ≤ gb124)); have NB123_124 := Aside0.mk ((by rw [hg]; exact Nat.ne_of_lt (blk_lt (g := gb123) (o := .cells #[.bool a0_0, .int .u64 a0_1, .int .u64 a0_2] 24 (0, 0)) (by (with_reducible repeat (first | refine blk_drewN ?_ _ | refine blk_drew ?_ | refine blk_alloc ?_ _)); exact BK123.out)) : gb123 ≠ gb124)); have NB124_123 := Aside0.mk ((by rw [hg]; exact Nat.ne_of_gt (blk_lt (g := gb123) (o := .cells #[.bool a0_0, .int .u64 a0_1, .int .u64 a0_2] 24 (0, 0)) (by (with_reducible repeat (first | refine blk_drewN ?_ _ | refine blk_drew ?_ | refine blk_alloc ?_ _)); exact BK123.out)) : gb124 ≠ gb123)); replace BK123 := Aside0.mk (blk_below (g := gb123) (o := .cells #[.bool a0_0, .int .u64 a0_1, .int .u64 a0_2] 24 (0, 0)) (by (with_reducible repeat (first | refine blk_drewN ?_ _ | refine blk_drew ?_ | refine blk_alloc ?_ _)); exact BK123.out) hb); replace HB := Aside0.mk (below_step (by repeat (first | (with_reducible first | exact HB.out | apply below_alloc | apply pw_below_drewN | apply below_drew1 | refine below_set ?_ GE123.out) | exact HB.out)) hb); clear hb hbox hg) | ((with_reducible refine gate_dst (N := 4) rfl ?_); refine box_event ?hg (N := 4) ?hd (cs := #[.bool false, .int .u64 0, .int .u64 0]) (t := 24) ?hr ?_; (case hd => rfl); (case hg => rfl); (case hr => first | (go_simp; done) | (go_simp; rfl)); intro gb125 hg w48 hbox hb; have BK125 := Aside0.mk (hbox); have GW125 := Aside0.mk ((by rw [hg]; exact (below_size (by repeat (first | (with_reducible first | exact HB.out | apply below_alloc | apply pw_below_drewN | apply below_drew1 | refine below_set ?_ GE123.out | refine below_set ?_ GE124.out) | exact HB.out))) : w.heap.size ≤ gb125)); have GE125 := Aside0.mk ((by rw [hg]; exact (below_size (by repeat (first | (with_reducible first | exact HB.out | apply below_alloc | apply pw_below_drewN | apply below_drew1 | refine below_set ?_ GE123.out | refine below_set ?_ GE124.out) | exact HB.out))) : w.heap.size ≤ gb125)); have NB123_125 := Aside0.mk ((by rw [hg]; exact Nat.ne_of_lt (blk_lt (g := gb123) (o := .cells #[.bool a0_0, .int .u64 a0_1, .int .u64 a0_2] 24 (0, 0)) (by (with_reducible repeat (first | refine blk_drewN ?_ _ | refine blk_drew ?_ | refine blk_alloc ?_ _)); exact BK123.out)) : gb123 ≠ gb125)); have NB125_123 := Aside0.mk ((by rw [hg]; exact Nat.ne_of_gt (blk_lt (g := gb123) (o := .cells #[.bool a0_0, .int .u64 a0_1, .int .u64 a0_2] 24 (0, 0)) (by (with_reducible repeat (first | refine blk_drewN ?_ _ | refine blk_drew ?_ | refine blk_alloc ?_ _)); exact BK123.out)) : gb125 ≠ gb123)); have NB124_125 := Aside0.mk ((by rw [hg]; exact Nat.ne_of_lt (blk_lt (g := gb124) (o := .cells #[.bool a1_0, .int .u64 a1_1, .int .u64 a1_2] 24 (0, 0)) (by (with_reducible repeat (first | refine blk_drewN ?_ _ | refine blk_drew ?_ | refine blk_alloc ?_ _)); exact BK124.out)) : gb124 ≠ gb125)); have NB125_124 := Aside0.mk ((by rw [hg]; exact Nat.ne_of_gt (blk_lt (g := gb124) (o := .cells #[.bool a1_0, .int .u64 a1_1, .int .u64 a1_2] 24 (0, 0)) (by (with_reducible repeat (first | refine blk_drewN ?_ _ | refine blk_drew ?_ | refine blk_alloc ?_ _)); exact BK124.out)) : gb125 ≠ gb124)); replace BK123 := Aside0.mk (blk_below (g := gb123) (o := .cells #[.bool a0_0, .int .u64 a0_1, .int .u64 a0_2] 24 (0, 0)) (by (with_reducible repeat (first | refine blk_drewN ?_ _ | refine blk_drew ?_ | refine blk_alloc ?_ _)); exact BK123.out) hb); replace BK124 := Aside0.mk (blk_below (g := gb124) (o := .cells #[.bool a1_0, .int .u64 a1_1, .int .u64 a1_2] 24 (0, 0)) (by (with_reducible repeat (first | refine blk_drewN ?_ _ | refine blk_drew ?_ | refine blk_alloc ?_ _)); exact BK124.out) hb); replace HB := Aside0.mk (below_step (by repeat (first | (with_reducible first | exact HB.out | apply below_alloc | apply pw_below_drewN | apply below_drew1 | refine below_set ?_ GE123.out | refine below_set ?_ GE124.out) | exact HB.out)) hb); clear hb hbox hg))
  replace BK123 := Aside0.mk (blk_drew BK123.out)
  replace BK124 := Aside0.mk (blk_drew BK124.out)
  replace BK125 := Aside0.mk (blk_drew BK125.out)
  replace HB := Aside0.mk (below_drew1 HB.out)
  refine start_ (n := 8) (S := fun w' => w'.cell? ⟨gb123, 0, none⟩ = some (.bool a0_0) ∧ w'.cell? ⟨gb123, 1, none⟩ = some (.int .u64 a0_1) ∧ w'.cell? ⟨gb123, 2, none⟩ = some (.int .u64 a0_2) ∧ w'.cell? ⟨gb124, 0, none⟩ = some (.bool a1_0) ∧ w'.cell? ⟨gb124, 1, none⟩ = some (.int .u64 a1_1) ∧ w'.cell? ⟨gb124, 2, none⟩ = some (.int .u64 a1_2)) (ds := []) #[N,N,N,N,N,N,N,N] (by kernel_rfl) rfl rfl ⟨(blk_cell BK123.out 0).trans rfl, (blk_cell BK123.out 1).trans rfl, (blk_cell BK123.out 2).trans rfl, (blk_cell BK124.out 0).trans rfl, (blk_cell BK124.out 1).trans rfl, (blk_cell BK124.out 2).trans rfl⟩ (fun hHeld => ?_); refine with_tabW big_Add.tab1 big_Add.bits1 (fun HT_ HW_ => ?_)
  generalize w48.drew = w49 at BK123 BK124 BK125 HB hHeld ⊢
  refine take_ (i := 0) (N := some 11) (v := ?_) (a' := ?_) #[Y,N,N,N,N,N,N,N] rfl rfl (take_ofW HT_.out HW_.out (by kernel_rfl)) (fun _ _ _ h => h) (Or.inl ⟨by rfl, ?_⟩) hHeld ?_ ?_
  rotate_left
  ·rintro w' ⟨s0, s1, s2, s3, s4, s5⟩
   go_simp
   with_reducible rfl
  rotate_left
  ·simp only [Act.put, sA, sB, sC, i64_w, i32_w]
   rfl
  refine take_ (i := 2) (N := some 13) (v := ?_) (a' := ?_) #[Y,N,Y,N,N,N,N,N] rfl rfl (take_ofW HT_.out HW_.out (by kernel_rfl)) (fun _ _ _ h => h) (Or.inl ⟨by rfl, ?_⟩) hHeld ?_ ?_
  rotate_left
  ·rintro w' ⟨s0, s1, s2, s3, s4, s5⟩
   go_simp
   with_reducible rfl
  rotate_left
  ·simp only [Act.put, sA, sB, sC, i64_w, i32_w]
   rfl
  refine join_ (σ := Nat × Nat) 2 #[Y,Y,Y,Y,Y,Y,N,N] (fun s_ => [(12, .agg #[.int .u64 t126, .int .u64 t127]), (14, .agg #[.int .u64 t128, .int .u64 t129]), (6, .pointer (some ⟨s_.1, 0, none⟩)), (7, .pointer (some ⟨s_.2, 0, none⟩))]) (fun s_ w' => (w'.cell? ⟨gb123, 0, none⟩ = some (.bool a0_0) ∧ w'.cell? ⟨gb123, 1, none⟩ = some (.int .u64 a0_1) ∧ w'.cell? ⟨gb123, 2, none⟩ = some (.int .u64 a0_2) ∧ w'.cell? ⟨gb124, 0, none⟩ = some (.bool a1_0) ∧ w'.cell? ⟨gb124, 1, none⟩ = some (.int .u64 a1_1) ∧ w'.cell? ⟨gb124, 2, none⟩ = some (.int .u64 a1_2)) ∧ (w'.heap[gb123]? = some (.cells #[.bool a0_0, .int .u64 a0_1, .int .u64 a0_2] 24 (0, 0))) ∧ (w'.heap[gb124]? = some (.cells #[.bool a1_0, .int .u64 a1_1, .int .u64 a1_2] 24 (0, 0))) ∧ (w'.heap[gb125]? = some (.cells #[.bool false, .int .u64 0, .int .u64 0] 24 (0, 0))) ∧ (w'.heap[s_.1]? = some (.cells #[.int .u64 0, .int .u64 0] 54 (0, 0))) ∧ (w'.heap[s_.2]? = some (.cells #[.int .u64 0, .int .u64 0] 54 (0, 0))) ∧ (w.heap.size ≤ s_.1) ∧ (w.heap.size ≤ s_.1) ∧ (gb123 ≠ s_.1) ∧ (s_.1 ≠ gb123) ∧ (gb124 ≠ s_.1) ∧ (s_.1 ≠ gb124) ∧ (gb125 ≠ s_.1) ∧ (s_.1 ≠ gb125) ∧ (s_.2 ≠ s_.1) ∧ (s_.1 ≠ s_.2) ∧ (w.heap.size ≤ s_.2) ∧ (w.heap.size ≤ s_.2) ∧ (gb123 ≠ s_.2) ∧ (s_.2 ≠ gb123) ∧ (gb124 ≠ s_.2) ∧ (s_.2 ≠ gb124) ∧ (gb125 ≠ s_.2) ∧ (s_.2 ≠ gb125) ∧ (Below w.heap.size w w')) ?_ ?_
  rotate_left
  ·intro hJ1_3_4_5
   refine join_ (σ := Nat) 3 #[Y,Y,Y,Y,Y,N,N,N] (fun s_ => [(12, .agg #[.int .u64 t126, .int .u64 t127]), (14, .agg #[.int .u64 t128, .int .u64 t129]), (6, .pointer (some ⟨s_, 0, none⟩))]) (fun s_ w' => (w'.cell? ⟨gb123, 0, none⟩ = some (.bool a0_0) ∧ w'.cell? ⟨gb123, 1, none⟩ = some (.int .u64 a0_1) ∧ w'.cell? ⟨gb123, 2, none⟩ = some (.int .u64 a0_2) ∧ w'.cell? ⟨gb124, 0, none⟩ = some (.bool a1_0) ∧ w'.cell? ⟨gb124, 1, none⟩ = some (.int .u64 a1_1) ∧ w'.cell? ⟨gb124, 2, none⟩ = some (.int .u64 a1_2)) ∧ (w'.heap[gb123]? = some (.cells #[.bool a0_0, .int .u64 a0_1, .int .u64 a0_2] 24 (0, 0))) ∧ (w'.heap[gb124]? = some (.cells #[.bool a1_0, .int .u64 a1_1, .int .u64 a1_2] 24 (0, 0))) ∧ (w'.heap[gb125]? = some (.cells #[.bool false, .int .u64 0, .int .u64 0] 24 (0, 0))) ∧ (w'.heap[s_]? = some (.cells #[.int .u64 0, .int .u64 0] 54 (0, 0))) ∧ (w.heap.size ≤ s_) ∧ (w.heap.size ≤ s_) ∧ (gb123 ≠ s_) ∧ (s_ ≠ gb123) ∧ (gb124 ≠ s_) ∧ (s_ ≠ gb124) ∧ (gb125 ≠ s_) ∧ (s_ ≠ gb125) ∧ (Below w.heap.size w w')) ?_ ?_
   rotate_left
   ·intro hJ1_3_4
    refine join_ (σ := Nat) 3 #[Y,Y,Y,Y,N,Y,N,N] (fun s_ => [(12, .agg #[.int .u64 t126, .int .u64 t127]), (14, .agg #[.int .u64 t128, .int .u64 t129]), (7, .pointer (some ⟨s_, 0, none⟩))]) (fun s_ w' => (w'.cell? ⟨gb123, 0, none⟩ = some (.bool a0_0) ∧ w'.cell? ⟨gb123, 1, none⟩ = some (.int .u64 a0_1) ∧ w'.cell? ⟨gb123, 2, none⟩ = some (.int .u64 a0_2) ∧ w'.cell? ⟨gb124, 0, none⟩ = some (.bool a1_0) ∧ w'.cell? ⟨gb124, 1, none⟩ = some (.int .u64 a1_1) ∧ w'.cell? ⟨gb124, 2, none⟩ = some (.int .u64 a1_2)) ∧ (w'.heap[gb123]? = some (.cells #[.bool a0_0, .int .u64 a0_1, .int .u64 a0_2] 24 (0, 0))) ∧ (w'.heap[gb124]? = some (.cells #[.bool a1_0, .int .u64 a1_1, .int .u64 a1_2] 24 (0, 0))) ∧ (w'.heap[gb125]? = some (.cells #[.bool false, .int .u64 0, .int .u64 0] 24 (0, 0))) ∧ (w'.heap[s_]? = some (.cells #[.int .u64 0, .int .u64 0] 54 (0, 0))) ∧ (w.heap.size ≤ s_) ∧ (w.heap.size ≤ s_) ∧ (gb123 ≠ s_) ∧ (s_ ≠ gb123) ∧ (gb124 ≠ s_) ∧ (s_ ≠ gb124) ∧ (gb125 ≠ s_) ∧ (s_ ≠ gb125) ∧ (Below w.heap.size w w')) ?_ ?_
    rotate_left
    ·intro hJ1_3_5
     refine join_ (σ := Nat × Nat) 3 #[Y,Y,Y,N,Y,Y,N,N] (fun s_ => [(12, .agg #[.int .u64 t126, .int .u64 t127]), (6, .pointer (some ⟨s_.1, 0, none⟩)), (7, .pointer (some ⟨s_.2, 0, none⟩))]) (fun s_ w' => (w'.cell? ⟨gb123, 0, none⟩ = some (.bool a0_0) ∧ w'.cell? ⟨gb123, 1, none⟩ = some (.int .u64 a0_1) ∧ w'.cell? ⟨gb123, 2, none⟩ = some (.int .u64 a0_2) ∧ w'.cell? ⟨gb124, 0, none⟩ = some (.bool a1_0) ∧ w'.cell? ⟨gb124, 1, none⟩ = some (.int .u64 a1_1) ∧ w'.cell? ⟨gb124, 2, none⟩ = some (.int .u64 a1_2)) ∧ (w'.heap[gb123]? = some (.cells #[.bool a0_0, .int .u64 a0_1, .int .u64 a0_2] 24 (0, 0))) ∧ (w'.heap[gb124]? = some (.cells #[.bool a1_0, .int .u64 a1_1, .int .u64 a1_2] 24 (0, 0))) ∧ (w'.heap[gb125]? = some (.cells #[.bool false, .int .u64 0, .int .u64 0] 24 (0, 0))) ∧ (w'.heap[s_.1]? = some (.cells #[.int .u64 0, .int .u64 0] 54 (0, 0))) ∧ (w'.heap[s_.2]? = some (.cells #[.int .u64 0, .int .u64 0] 54 (0, 0))) ∧ (w.heap.size ≤ s_.1) ∧ (w.heap.size ≤ s_.1) ∧ (gb123 ≠ s_.1) ∧ (s_.1 ≠ gb123) ∧ (gb124 ≠ s_.1) ∧ (s_.1 ≠ gb124) ∧ (gb125 ≠ s_.1) ∧ (s_.1 ≠ gb125) ∧ (s_.2 ≠ s_.1) ∧ (s_.1 ≠ s_.2) ∧ (w.heap.size ≤ s_.2) ∧ (w.heap.size ≤ s_.2) ∧ (gb123 ≠ s_.2) ∧ (s_.2 ≠ gb123) ∧ (gb124 ≠ s_.2) ∧ (s_.2 ≠ gb124) ∧ (gb125 ≠ s_.2) ∧ (s_.2 ≠ gb125) ∧ (Below w.heap.size w w')) ?_ ?_
     rotate_left
     ·intro hJ1_4_5
      refine join_ (σ := Unit) 4 #[Y,Y,Y,Y,N,N,N,N] (fun s_ => [(12, .agg #[.int .u64 t126, .int .u64 t127]), (14, .agg #[.int .u64 t128, .int .u64 t129])]) (fun s_ w' => (w'.cell? ⟨gb123, 0, none⟩ = some (.bool a0_0) ∧ w'.cell? ⟨gb123, 1, none⟩ = some (.int .u64 a0_1) ∧ w'.cell? ⟨gb123, 2, none⟩ = some (.int .u64 a0_2) ∧ w'.cell? ⟨gb124, 0, none⟩ = some (.bool a1_0) ∧ w'.cell? ⟨gb124, 1, none⟩ = some (.int .u64 a1_1) ∧ w'.cell? ⟨gb124, 2, none⟩ = some (.int .u64 a1_2)) ∧ (w'.heap[gb123]? = some (.cells #[.bool a0_0, .int .u64 a0_1, .int .u64 a0_2] 24 (0, 0))) ∧ (w'.heap[gb124]? = some (.cells #[.bool a1_0, .int .u64 a1_1, .int .u64 a1_2] 24 (0, 0))) ∧ (w'.heap[gb125]? = some (.cells #[.bool false, .int .u64 0, .int .u64 0] 24 (0, 0))) ∧ (Below w.heap.size w w')) ?_ ?_
      rotate_left
      ·intro hJ1_3
       refine join_ (σ := Nat) 4 #[Y,Y,Y,N,Y,N,N,N] (fun s_ => [(12, .agg #[.int .u64 t126, .int .u64 t127]), (6, .pointer (some ⟨s_, 0, none⟩))]) (fun s_ w' => (w'.cell? ⟨gb123, 0, none⟩ = some (.bool a0_0) ∧ w'.cell? ⟨gb123, 1, none⟩ = some (.int .u64 a0_1) ∧ w'.cell? ⟨gb123, 2, none⟩ = some (.int .u64 a0_2) ∧ w'.cell? ⟨gb124, 0, none⟩ = some (.bool a1_0) ∧ w'.cell? ⟨gb124, 1, none⟩ = some (.int .u64 a1_1) ∧ w'.cell? ⟨gb124, 2, none⟩ = some (.int .u64 a1_2)) ∧ (w'.heap[gb123]? = some (.cells #[.bool a0_0, .int .u64 a0_1, .int .u64 a0_2] 24 (0, 0))) ∧ (w'.heap[gb124]? = some (.cells #[.bool a1_0, .int .u64 a1_1, .int .u64 a1_2] 24 (0, 0))) ∧ (w'.heap[gb125]? = some (.cells #[.bool false, .int .u64 0, .int .u64 0] 24 (0, 0))) ∧ (w'.heap[s_]? = some (.cells #[.int .u64 0, .int .u64 0] 54 (0, 0))) ∧ (w.heap.size ≤ s_) ∧ (w.heap.size ≤ s_) ∧ (gb123 ≠ s_) ∧ (s_ ≠ gb123) ∧ (gb124 ≠ s_) ∧ (s_ ≠ gb124) ∧ (gb125 ≠ s_) ∧ (s_ ≠ gb125) ∧ (Below w.heap.size w w')) ?_ ?_
       rotate_left
       ·intro hJ1_4
        refine join_ (σ := Nat) 4 #[Y,Y,Y,N,N,Y,N,N] (fun s_ => [(12, .agg #[.int .u64 t126, .int .u64 t127]), (7, .pointer (some ⟨s_, 0, none⟩))]) (fun s_ w' => (w'.cell? ⟨gb123, 0, none⟩ = some (.bool a0_0) ∧ w'.cell? ⟨gb123, 1, none⟩ = some (.int .u64 a0_1) ∧ w'.cell? ⟨gb123, 2, none⟩ = some (.int .u64 a0_2) ∧ w'.cell? ⟨gb124, 0, none⟩ = some (.bool a1_0) ∧ w'.cell? ⟨gb124, 1, none⟩ = some (.int .u64 a1_1) ∧ w'.cell? ⟨gb124, 2, none⟩ = some (.int .u64 a1_2)) ∧ (w'.heap[gb123]? = some (.cells #[.bool a0_0, .int .u64 a0_1, .int .u64 a0_2] 24 (0, 0))) ∧ (w'.heap[gb124]? = some (.cells #[.bool a1_0, .int .u64 a1_1, .int .u64 a1_2] 24 (0, 0))) ∧ (w'.heap[gb125]? = some (.cells #[.bool false, .int .u64 0, .int .u64 0] 24 (0, 0))) ∧ (w'.heap[s_]? = some (.cells #[.int .u64 0, .int .u64 0] 54 (0, 0))) ∧ (w.heap.size ≤ s_) ∧ (w.heap.size ≤ s_) ∧ (gb123 ≠ s_) ∧ (s_ ≠ gb123) ∧ (gb124 ≠ s_) ∧ (s_ ≠ gb124) ∧ (gb125 ≠ s_) ∧ (s_ ≠ gb125) ∧ (Below w.heap.size w w')) ?_ ?_
        rotate_left
        ·intro hJ1_5
         refine join_ (σ := Nat × Nat) 4 #[Y,N,Y,N,Y,Y,N,N] (fun s_ => [(6, .pointer (some ⟨s_.1, 0, none⟩)), (7, .pointer (some ⟨s_.2, 0, none⟩))]) (fun s_ w' => (w'.cell? ⟨gb123, 0, none⟩ = some (.bool a0_0) ∧ w'.cell? ⟨gb123, 1, none⟩ = some (.int .u64 a0_1) ∧ w'.cell? ⟨gb123, 2, none⟩ = some (.int .u64 a0_2) ∧ w'.cell? ⟨gb124, 0, none⟩ = some (.bool a1_0) ∧ w'.cell? ⟨gb124, 1, none⟩ = some (.int .u64 a1_1) ∧ w'.cell? ⟨gb124, 2, none⟩ = some (.int .u64 a1_2)) ∧ (w'.heap[gb123]? = some (.cells #[.bool a0_0, .int .u64 a0_1, .int .u64 a0_2] 24 (0, 0))) ∧ (w'.heap[gb124]? = some (.cells #[.bool a1_0, .int .u64 a1_1, .int .u64 a1_2] 24 (0, 0))) ∧ (w'.heap[gb125]? = some (.cells #[.bool false, .int .u64 0, .int .u64 0] 24 (0, 0))) ∧ (w'.heap[s_.1]? = some (.cells #[.int .u64 0, .int .u64 0] 54 (0, 0))) ∧ (w'.heap[s_.2]? = some (.cells #[.int .u64 0, .int .u64 0] 54 (0, 0))) ∧ (w.heap.size ≤ s_.1) ∧ (w.heap.size ≤ s_.1) ∧ (gb123 ≠ s_.1) ∧ (s_.1 ≠ gb123) ∧ (gb124 ≠ s_.1) ∧ (s_.1 ≠ gb124) ∧ (gb125 ≠ s_.1) ∧ (s_.1 ≠ gb125) ∧ (s_.2 ≠ s_.1) ∧ (s_.1 ≠ s_.2) ∧ (w.heap.size ≤ s_.2) ∧ (w.heap.size ≤ s_.2) ∧ (gb123 ≠ s_.2) ∧ (s_.2 ≠ gb123) ∧ (gb124 ≠ s_.2) ∧ (s_.2 ≠ gb124) ∧ (gb125 ≠ s_.2) ∧ (s_.2 ≠ gb125) ∧ (Below w.heap.size w w')) ?_ ?_
         rotate_left
         ·intro hJ4_5
          refine join_ (σ := Unit) 5 #[Y,Y,Y,N,N,N,N,N] (fun s_ => [(12, .agg #[.int .u64 t126, .int .u64 t127])]) (fun s_ w' => (w'.cell? ⟨gb123, 0, none⟩ = some (.bool a0_0) ∧ w'.cell? ⟨gb123, 1, none⟩ = some (.int .u64 a0_1) ∧ w'.cell? ⟨gb123, 2, none⟩ = some (.int .u64 a0_2) ∧ w'.cell? ⟨gb124, 0, none⟩ = some (.bool a1_0) ∧ w'.cell? ⟨gb124, 1, none⟩ = some (.int .u64 a1_1) ∧ w'.cell? ⟨gb124, 2, none⟩ = some (.int .u64 a1_2)) ∧ (w'.heap[gb123]? = some (.cells #[.bool a0_0, .int .u64 a0_1, .int .u64 a0_2] 24 (0, 0))) ∧ (w'.heap[gb124]? = some (.cells #[.bool a1_0, .int .u64 a1_1, .int .u64 a1_2] 24 (0, 0))) ∧ (w'.heap[gb125]? = some (.cells #[.bool false, .int .u64 0, .int .u64 0] 24 (0, 0))) ∧ (Below w.heap.size w w')) ?_ ?_
          rotate_left
          ·intro hJ1
           refine join_ (σ := Nat) 5 #[Y,N,Y,N,Y,N,N,N] (fun s_ => [(6, .pointer (some ⟨s_, 0, none⟩))]) (fun s_ w' => (w'.cell? ⟨gb123, 0, none⟩ = some (.bool a0_0) ∧ w'.cell? ⟨gb123, 1, none⟩ = some (.int .u64 a0_1) ∧ w'.cell? ⟨gb123, 2, none⟩ = some (.int .u64 a0_2) ∧ w'.cell? ⟨gb124, 0, none⟩ = some (.bool a1_0) ∧ w'.cell? ⟨gb124, 1, none⟩ = some (.int .u64 a1_1) ∧ w'.cell? ⟨gb124, 2, none⟩ = some (.int .u64 a1_2)) ∧ (w'.heap[gb123]? = some (.cells #[.bool a0_0, .int .u64 a0_1, .int .u64 a0_2] 24 (0, 0))) ∧ (w'.heap[gb124]? = some (.cells #[.bool a1_0, .int .u64 a1_1, .int .u64 a1_2] 24 (0, 0))) ∧ (w'.heap[gb125]? = some (.cells #[.bool false, .int .u64 0, .int .u64 0] 24 (0, 0))) ∧ (w'.heap[s_]? = some (.cells #[.int .u64 0, .int .u64 0] 54 (0, 0))) ∧ (w.heap.size ≤ s_) ∧ (w.heap.size ≤ s_) ∧ (gb123 ≠ s_) ∧ (s_ ≠ gb123) ∧ (gb124 ≠ s_) ∧ (s_ ≠ gb124) ∧ (gb125 ≠ s_) ∧ (s_ ≠ gb125) ∧ (Below w.heap.size w w')) ?_ ?_
           rotate_left
           ·intro hJ4
            refine join_ (σ := Nat) 5 #[Y,N,Y,N,N,Y,N,N] (fun s_ => [(7, .pointer (some ⟨s_, 0, none⟩))]) (fun s_ w' => (w'.cell? ⟨gb123, 0, none⟩ = some (.bool a0_0) ∧ w'.cell? ⟨gb123, 1, none⟩ = some (.int .u64 a0_1) ∧ w'.cell? ⟨gb123, 2, none⟩ = some (.int .u64 a0_2) ∧ w'.cell? ⟨gb124, 0, none⟩ = some (.bool a1_0) ∧ w'.cell? ⟨gb124, 1, none⟩ = some (.int .u64 a1_1) ∧ w'.cell? ⟨gb124, 2, none⟩ = some (.int .u64 a1_2)) ∧ (w'.heap[gb123]? = some (.cells #[.bool a0_0, .int .u64 a0_1, .int .u64 a0_2] 24 (0, 0))) ∧ (w'.heap[gb124]? = some (.cells #[.bool a1_0, .int .u64 a1_1, .int .u64 a1_2] 24 (0, 0))) ∧ (w'.heap[gb125]? = some (.cells #[.bool false, .int .u64 0, .int .u64 0] 24 (0, 0))) ∧ (w'.heap[s_]? = some (.cells #[.int .u64 0, .int .u64 0] 54 (0, 0))) ∧ (w.heap.size ≤ s_) ∧ (w.heap.size ≤ s_) ∧ (gb123 ≠ s_) ∧ (s_ ≠ gb123) ∧ (gb124 ≠ s_) ∧ (s_ ≠ gb124) ∧ (gb125 ≠ s_) ∧ (s_ ≠ gb125) ∧ (Below w.heap.size w w')) ?_ ?_
            rotate_left
            ·intro hJ5
             refine three_ (i := 1) (j := 4) (k := 5) (Ni := some 12) (Nj := some 6) (Nk := some 7) #[Y,Y,Y,N,N,N,N,N] #[Y,N,Y,N,Y,N,N,N] #[Y,N,Y,N,N,Y,N,N] rfl rfl rfl rfl rfl rfl (three_of HT_.out (by kernel_rfl)) (by decide) (by decide) (by decide) (fun K hK => ?_) (fun K hK => ?_) (fun K hK => ?_)
             ·skip
              refine goes_ Try.func45 (by kernel_rfl) rfl #[.agg #[.bool a0_0, .int .u64 a0_1, .int .u64 a0_2]] (by rfl) rfl rfl (by (try simp only [List.map_toArray, List.map_cons, List.map_nil]); first | done | rfl | (simp only [List.length_drop, List.length_take]; rfl)) ?_
              with_reducible refine (big_of.calls a0_0 a0_1 a0_2 t126 t127 _ A3.out).mono ?_
              rintro e w50 ⟨rfl, hb⟩
              refine ⟨_, rfl, ?_⟩
              replace BK123 := bbZ BK123 hb
              replace BK124 := bbZ BK124 hb
              replace BK125 := bbZ BK125 hb
              replace HB := Aside0.mk (below_step HB.out hb)
              (try clear hb)
              (try clear hb2)
              (try clear hk)
              (try clear hi)
              refine hK.out _ _ ⟨(blk_cell BK123.out 0).trans rfl, (blk_cell BK123.out 1).trans rfl, (blk_cell BK123.out 2).trans rfl, (blk_cell BK124.out 0).trans rfl, (blk_cell BK124.out 1).trans rfl, (blk_cell BK124.out 2).trans rfl⟩ (fun hHeld => ?_)
              clear hK K
              refine norm_ (a' := ?_) ?_ ?_
              rotate_left
              ·show Act.put _ (some 12) _ = _
               simp only [Act.put, sA, sB, sC, i64_w, i32_w]
               rfl
              exact norm_ (by simp only [putAll, Act.put, sA, sB, sC] <;> rfl) (hJ1 () _ ⟨hHeld, BK123.out, BK124.out, BK125.out, (by repeat (first | (with_reducible first | exact HB.out | apply below_alloc | apply pw_below_drewN | apply below_drew1 | refine below_set ?_ GE123.out | refine below_set ?_ GE124.out | refine below_set ?_ GE125.out) | exact HB.out))⟩)
             ·skip
              refine box_step ?hg (N := 6) ?hd (cs := #[.int .u64 0, .int .u64 0]) (t := 54) ?hr ?_; (case hd => rfl); (case hg => rfl); (case hr => first | (go_simp; done) | (go_simp; rfl))
              intro gb130 hg w50 hbox hb
              have BK130 := Aside0.mk (hbox)
              have GW130 := szZ HB hg
              have GE130 := szZ HB hg
              have NB123_130 := nlZ BK123 hg
              have NB130_123 := ngZ BK123 hg
              have NB124_130 := nlZ BK124 hg
              have NB130_124 := ngZ BK124 hg
              have NB125_130 := nlZ BK125 hg
              have NB130_125 := ngZ BK125 hg
              replace BK123 := bbZ BK123 hb
              replace BK124 := bbZ BK124 hb
              replace BK125 := bbZ BK125 hb
              replace HB := Aside0.mk (below_step HB.out hb)
              clear hb hbox hg
              refine hK.out _ _ ⟨(blk_cell BK123.out 0).trans rfl, (blk_cell BK123.out 1).trans rfl, (blk_cell BK123.out 2).trans rfl, (blk_cell BK124.out 0).trans rfl, (blk_cell BK124.out 1).trans rfl, (blk_cell BK124.out 2).trans rfl⟩ (fun hHeld => ?_)
              clear hK K
              refine norm_ (a' := ?_) ?_ ?_
              rotate_left
              ·show Act.put _ (some 6) _ = _
               simp only [Act.put, sA, sB, sC, i64_w, i32_w]
               rfl
              exact norm_ (by simp only [putAll, Act.put, sA, sB, sC] <;> rfl) (hJ4 (gb130) _ ⟨hHeld, BK123.out, BK124.out, BK125.out, BK130.out, GW130.out, GE130.out, NB123_130.out, NB130_123.out, NB124_130.out, NB130_124.out, NB125_130.out, NB130_125.out, (by repeat (first | (with_reducible first | exact HB.out | apply below_alloc | apply pw_below_drewN | apply below_drew1 | refine below_set ?_ GE123.out | refine below_set ?_ GE124.out | refine below_set ?_ GE125.out | refine below_set ?_ GE130.out) | exact HB.out))⟩)
             ·skip
              refine box_step ?hg (N := 7) ?hd (cs := #[.int .u64 0, .int .u64 0]) (t := 54) ?hr ?_; (case hd => rfl); (case hg => rfl); (case hr => first | (go_simp; done) | (go_simp; rfl))
              intro gb131 hg w50 hbox hb
              have BK131 := Aside0.mk (hbox)
              have GW131 := szZ HB hg
              have GE131 := szZ HB hg
              have NB123_131 := nlZ BK123 hg
              have NB131_123 := ngZ BK123 hg
              have NB124_131 := nlZ BK124 hg
              have NB131_124 := ngZ BK124 hg
              have NB125_131 := nlZ BK125 hg
              have NB131_125 := ngZ BK125 hg
              replace BK123 := bbZ BK123 hb
              replace BK124 := bbZ BK124 hb
              replace BK125 := bbZ BK125 hb
              replace HB := Aside0.mk (below_step HB.out hb)
              clear hb hbox hg
              refine hK.out _ _ ⟨(blk_cell BK123.out 0).trans rfl, (blk_cell BK123.out 1).trans rfl, (blk_cell BK123.out 2).trans rfl, (blk_cell BK124.out 0).trans rfl, (blk_cell BK124.out 1).trans rfl, (blk_cell BK124.out 2).trans rfl⟩ (fun hHeld => ?_)
              clear hK K
              refine norm_ (a' := ?_) ?_ ?_
              rotate_left
              ·show Act.put _ (some 7) _ = _
               simp only [Act.put, sA, sB, sC, i64_w, i32_w]
               rfl
              exact norm_ (by simp only [putAll, Act.put, sA, sB, sC] <;> rfl) (hJ5 (gb131) _ ⟨hHeld, BK123.out, BK124.out, BK125.out, BK131.out, GW131.out, GE131.out, NB123_131.out, NB131_123.out, NB124_131.out, NB131_124.out, NB125_131.out, NB131_125.out, (by repeat (first | (with_reducible first | exact HB.out | apply below_alloc | apply pw_below_drewN | apply below_drew1 | refine below_set ?_ GE123.out | refine below_set ?_ GE124.out | refine below_set ?_ GE125.out | refine below_set ?_ GE131.out) | exact HB.out))⟩)
            ·skip
             rintro gb131 w51 ⟨hS_, h0_, h1_, h2_, h3_, h4_, h5_, h6_, h7_, h8_, h9_, h10_, h11_, h12_⟩
             have BK131 := Aside0.mk h3_
             have GW131 := Aside0.mk h4_
             have GE131 := Aside0.mk h5_
             have NB123_131 := Aside0.mk h6_
             have NB131_123 := Aside0.mk h7_
             have NB124_131 := Aside0.mk h8_
             have NB131_124 := Aside0.mk h9_
             have NB125_131 := Aside0.mk h10_
             have NB131_125 := Aside0.mk h11_
             replace BK123 := Aside0.mk h0_
             replace BK124 := Aside0.mk h1_
             replace BK125 := Aside0.mk h2_
             replace HB := Aside0.mk h12_
             clear h0_ h1_ h2_ h3_ h4_ h5_ h6_ h7_ h8_ h9_ h10_ h11_ h12_
             have hHeld : w51.cell? ⟨gb123, 0, none⟩ = some (.bool a0_0) ∧ w51.cell? ⟨gb123, 1, none⟩ = some (.int .u64 a0_1) ∧ w51.cell? ⟨gb123, 2, none⟩ = some (.int .u64 a0_2) ∧ w51.cell? ⟨gb124, 0, none⟩ = some (.bool a1_0) ∧ w51.cell? ⟨gb124, 1, none⟩ = some (.int .u64 a1_1) ∧ w51.cell? ⟨gb124, 2, none⟩ = some (.int .u64 a1_2) := hS_
             refine norm_ (a' := ?_) ?_ ?_
             rotate_left
             ·simp only [putAll, Act.put, sA, sB, sC]
              rfl
             refine two_ (i := 1) (j := 4) (Ni := some 12) (Nj := some 6) #[Y,Y,Y,N,N,Y,N,N] #[Y,N,Y,N,Y,Y,N,N] rfl rfl rfl rfl (two_of HT_.out (by kernel_rfl)) (by decide) (by decide) (fun K hK => ?_) (fun K hK => ?_)
             ·skip
              refine goes_ Try.func45 (by kernel_rfl) rfl #[.agg #[.bool a0_0, .int .u64 a0_1, .int .u64 a0_2]] (by rfl) rfl rfl (by (try simp only [List.map_toArray, List.map_cons, List.map_nil]); first | done | rfl | (simp only [List.length_drop, List.length_take]; rfl)) ?_
              with_reducible refine (big_of.calls a0_0 a0_1 a0_2 t126 t127 _ A3.out).mono ?_
              rintro e w52 ⟨rfl, hb⟩
              refine ⟨_, rfl, ?_⟩
              replace BK123 := bbZ BK123 hb
              replace BK124 := bbZ BK124 hb
              replace BK125 := bbZ BK125 hb
              replace BK131 := bbZ BK131 hb
              replace HB := Aside0.mk (below_step HB.out hb)
              (try clear hb)
              (try clear hb2)
              (try clear hk)
              (try clear hi)
              refine hK.out _ _ ⟨(blk_cell BK123.out 0).trans rfl, (blk_cell BK123.out 1).trans rfl, (blk_cell BK123.out 2).trans rfl, (blk_cell BK124.out 0).trans rfl, (blk_cell BK124.out 1).trans rfl, (blk_cell BK124.out 2).trans rfl⟩ (fun hHeld => ?_)
              clear hK K
              refine norm_ (a' := ?_) ?_ ?_
              rotate_left
              ·show Act.put _ (some 12) _ = _
               simp only [Act.put, sA, sB, sC, i64_w, i32_w]
               rfl
              exact norm_ (by simp only [putAll, Act.put, sA, sB, sC] <;> rfl) (hJ1_5 (gb131) _ ⟨hHeld, BK123.out, BK124.out, BK125.out, BK131.out, GW131.out, GE131.out, NB123_131.out, NB131_123.out, NB124_131.out, NB131_124.out, NB125_131.out, NB131_125.out, (by repeat (first | (with_reducible first | exact HB.out | apply below_alloc | apply pw_below_drewN | apply below_drew1 | refine below_set ?_ GE123.out | refine below_set ?_ GE124.out | refine below_set ?_ GE125.out | refine below_set ?_ GE131.out) | exact HB.out))⟩)
             ·skip
              refine box_step ?hg (N := 6) ?hd (cs := #[.int .u64 0, .int .u64 0]) (t := 54) ?hr ?_; (case hd => rfl); (case hg => rfl); (case hr => first | (go_simp; done) | (go_simp; rfl))
              intro gb130 hg w52 hbox hb
              have BK130 := Aside0.mk (hbox)
              have GW130 := szZ HB hg
              have GE130 := szZ HB hg
              have NB123_130 := nlZ BK123 hg
              have NB130_123 := ngZ BK123 hg
              have NB124_130 := nlZ BK124 hg
              have NB130_124 := ngZ BK124 hg
              have NB125_130 := nlZ BK125 hg
              have NB130_125 := ngZ BK125 hg
              have NB131_130 := nlZ BK131 hg
              have NB130_131 := ngZ BK131 hg
              replace BK123 := bbZ BK123 hb
              replace BK124 := bbZ BK124 hb
              replace BK125 := bbZ BK125 hb
              replace BK131 := bbZ BK131 hb
              replace HB := Aside0.mk (below_step HB.out hb)
              clear hb hbox hg
              refine hK.out _ _ ⟨(blk_cell BK123.out 0).trans rfl, (blk_cell BK123.out 1).trans rfl, (blk_cell BK123.out 2).trans rfl, (blk_cell BK124.out 0).trans rfl, (blk_cell BK124.out 1).trans rfl, (blk_cell BK124.out 2).trans rfl⟩ (fun hHeld => ?_)
              clear hK K
              refine norm_ (a' := ?_) ?_ ?_
              rotate_left
              ·show Act.put _ (some 6) _ = _
               simp only [Act.put, sA, sB, sC, i64_w, i32_w]
               rfl
              exact norm_ (by simp only [putAll, Act.put, sA, sB, sC] <;> rfl) (hJ4_5 (gb130, gb131) _ ⟨hHeld, BK123.out, BK124.out, BK125.out, BK130.out, BK131.out, GW130.out, GE130.out, NB123_130.out, NB130_123.out, NB124_130.out, NB130_124.out, NB125_130.out, NB130_125.out, NB131_130.out, NB130_131.out, GW131.out, GE131.out, NB123_131.out, NB131_123.out, NB124_131.out, NB131_124.out, NB125_131.out, NB131_125.out, (by repeat (first | (with_reducible first | exact HB.out | apply below_alloc | apply pw_below_drewN | apply below_drew1 | refine below_set ?_ GE123.out | refine below_set ?_ GE124.out | refine below_set ?_ GE125.out | refine below_set ?_ GE131.out | refine below_set ?_ GE130.out) | exact HB.out))⟩)
           ·skip
            rintro gb130 w51 ⟨hS_, h0_, h1_, h2_, h3_, h4_, h5_, h6_, h7_, h8_, h9_, h10_, h11_, h12_⟩
            have BK130 := Aside0.mk h3_
            have GW130 := Aside0.mk h4_
            have GE130 := Aside0.mk h5_
            have NB123_130 := Aside0.mk h6_
            have NB130_123 := Aside0.mk h7_
            have NB124_130 := Aside0.mk h8_
            have NB130_124 := Aside0.mk h9_
            have NB125_130 := Aside0.mk h10_
            have NB130_125 := Aside0.mk h11_
            replace BK123 := Aside0.mk h0_
            replace BK124 := Aside0.mk h1_
            replace BK125 := Aside0.mk h2_
            replace HB := Aside0.mk h12_
            clear h0_ h1_ h2_ h3_ h4_ h5_ h6_ h7_ h8_ h9_ h10_ h11_ h12_
            have hHeld : w51.cell? ⟨gb123, 0, none⟩ = some (.bool a0_0) ∧ w51.cell? ⟨gb123, 1, none⟩ = some (.int .u64 a0_1) ∧ w51.cell? ⟨gb123, 2, none⟩ = some (.int .u64 a0_2) ∧ w51.cell? ⟨gb124, 0, none⟩ = some (.bool a1_0) ∧ w51.cell? ⟨gb124, 1, none⟩ = some (.int .u64 a1_1) ∧ w51.cell? ⟨gb124, 2, none⟩ = some (.int .u64 a1_2) := hS_
            refine norm_ (a' := ?_) ?_ ?_
            rotate_left
            ·simp only [putAll, Act.put, sA, sB, sC]
             rfl
            refine two_ (i := 1) (j := 5) (Ni := some 12) (Nj := some 7) #[Y,Y,Y,N,Y,N,N,N] #[Y,N,Y,N,Y,Y,N,N] rfl rfl rfl rfl (two_of HT_.out (by kernel_rfl)) (by decide) (by decide) (fun K hK => ?_) (fun K hK => ?_)
            ·skip
             refine goes_ Try.func45 (by kernel_rfl) rfl #[.agg #[.bool a0_0, .int .u64 a0_1, .int .u64 a0_2]] (by rfl) rfl rfl (by (try simp only [List.map_toArray, List.map_cons, List.map_nil]); first | done | rfl | (simp only [List.length_drop, List.length_take]; rfl)) ?_
             with_reducible refine (big_of.calls a0_0 a0_1 a0_2 t126 t127 _ A3.out).mono ?_
             rintro e w52 ⟨rfl, hb⟩
             refine ⟨_, rfl, ?_⟩
             replace BK123 := bbZ BK123 hb
             replace BK124 := bbZ BK124 hb
             replace BK125 := bbZ BK125 hb
             replace BK130 := bbZ BK130 hb
             replace HB := Aside0.mk (below_step HB.out hb)
             (try clear hb)
             (try clear hb2)
             (try clear hk)
             (try clear hi)
             refine hK.out _ _ ⟨(blk_cell BK123.out 0).trans rfl, (blk_cell BK123.out 1).trans rfl, (blk_cell BK123.out 2).trans rfl, (blk_cell BK124.out 0).trans rfl, (blk_cell BK124.out 1).trans rfl, (blk_cell BK124.out 2).trans rfl⟩ (fun hHeld => ?_)
             clear hK K
             refine norm_ (a' := ?_) ?_ ?_
             rotate_left
             ·show Act.put _ (some 12) _ = _
              simp only [Act.put, sA, sB, sC, i64_w, i32_w]
              rfl
             exact norm_ (by simp only [putAll, Act.put, sA, sB, sC] <;> rfl) (hJ1_4 (gb130) _ ⟨hHeld, BK123.out, BK124.out, BK125.out, BK130.out, GW130.out, GE130.out, NB123_130.out, NB130_123.out, NB124_130.out, NB130_124.out, NB125_130.out, NB130_125.out, (by repeat (first | (with_reducible first | exact HB.out | apply below_alloc | apply pw_below_drewN | apply below_drew1 | refine below_set ?_ GE123.out | refine below_set ?_ GE124.out | refine below_set ?_ GE125.out | refine below_set ?_ GE130.out) | exact HB.out))⟩)
            ·skip
             refine box_step ?hg (N := 7) ?hd (cs := #[.int .u64 0, .int .u64 0]) (t := 54) ?hr ?_; (case hd => rfl); (case hg => rfl); (case hr => first | (go_simp; done) | (go_simp; rfl))
             intro gb131 hg w52 hbox hb
             have BK131 := Aside0.mk (hbox)
             have GW131 := szZ HB hg
             have GE131 := szZ HB hg
             have NB123_131 := nlZ BK123 hg
             have NB131_123 := ngZ BK123 hg
             have NB124_131 := nlZ BK124 hg
             have NB131_124 := ngZ BK124 hg
             have NB125_131 := nlZ BK125 hg
             have NB131_125 := ngZ BK125 hg
             have NB130_131 := nlZ BK130 hg
             have NB131_130 := ngZ BK130 hg
             replace BK123 := bbZ BK123 hb
             replace BK124 := bbZ BK124 hb
             replace BK125 := bbZ BK125 hb
             replace BK130 := bbZ BK130 hb
             replace HB := Aside0.mk (below_step HB.out hb)
             clear hb hbox hg
             refine hK.out _ _ ⟨(blk_cell BK123.out 0).trans rfl, (blk_cell BK123.out 1).trans rfl, (blk_cell BK123.out 2).trans rfl, (blk_cell BK124.out 0).trans rfl, (blk_cell BK124.out 1).trans rfl, (blk_cell BK124.out 2).trans rfl⟩ (fun hHeld => ?_)
             clear hK K
             refine norm_ (a' := ?_) ?_ ?_
             rotate_left
             ·show Act.put _ (some 7) _ = _
              simp only [Act.put, sA, sB, sC, i64_w, i32_w]
              rfl
             exact norm_ (by simp only [putAll, Act.put, sA, sB, sC] <;> rfl) (hJ4_5 (gb130, gb131) _ ⟨hHeld, BK123.out, BK124.out, BK125.out, BK130.out, BK131.out, GW130.out, GE130.out, NB123_130.out, NB130_123.out, NB124_130.out, NB130_124.out, NB125_130.out, NB130_125.out, NB131_130.out, NB130_131.out, GW131.out, GE131.out, NB123_131.out, NB131_123.out, NB124_131.out, NB131_124.out, NB125_131.out, NB131_125.out, (by repeat (first | (with_reducible first | exact HB.out | apply below_alloc | apply pw_below_drewN | apply below_drew1 | refine below_set ?_ GE123.out | refine below_set ?_ GE124.out | refine below_set ?_ GE125.out | refine below_set ?_ GE130.out | refine below_set ?_ GE131.out) | exact HB.out))⟩)
          ·skip
           rintro _ w51 ⟨hS_, h0_, h1_, h2_, h3_⟩
           replace BK123 := Aside0.mk h0_
           replace BK124 := Aside0.mk h1_
           replace BK125 := Aside0.mk h2_
           replace HB := Aside0.mk h3_
           clear h0_ h1_ h2_ h3_
           have hHeld : w51.cell? ⟨gb123, 0, none⟩ = some (.bool a0_0) ∧ w51.cell? ⟨gb123, 1, none⟩ = some (.int .u64 a0_1) ∧ w51.cell? ⟨gb123, 2, none⟩ = some (.int .u64 a0_2) ∧ w51.cell? ⟨gb124, 0, none⟩ = some (.bool a1_0) ∧ w51.cell? ⟨gb124, 1, none⟩ = some (.int .u64 a1_1) ∧ w51.cell? ⟨gb124, 2, none⟩ = some (.int .u64 a1_2) := hS_
           refine norm_ (a' := ?_) ?_ ?_
           rotate_left
           ·simp only [putAll, Act.put, sA, sB, sC]
            rfl
           refine three_ (i := 3) (j := 4) (k := 5) (Ni := some 14) (Nj := some 6) (Nk := some 7) #[Y,Y,Y,Y,N,N,N,N] #[Y,Y,Y,N,Y,N,N,N] #[Y,Y,Y,N,N,Y,N,N] rfl rfl rfl rfl rfl rfl (three_of HT_.out (by kernel_rfl)) (by decide) (by decide) (by decide) (fun K hK => ?_) (fun K hK => ?_) (fun K hK => ?_)
           ·skip
            refine goes_ Try.func45 (by kernel_rfl) rfl #[.agg #[.bool a1_0, .int .u64 a1_1, .int .u64 a1_2]] (by rfl) rfl rfl (by (try simp only [List.map_toArray, List.map_cons, List.map_nil]); first | done | rfl | (simp only [List.length_drop, List.length_take]; rfl)) ?_
            with_reducible refine (big_of.calls a1_0 a1_1 a1_2 t128 t129 _ A4.out).mono ?_
            rintro e w52 ⟨rfl, hb⟩
            refine ⟨_, rfl, ?_⟩
            replace BK123 := bbZ BK123 hb
            replace BK124 := bbZ BK124 hb
            replace BK125 := bbZ BK125 hb
            replace HB := Aside0.mk (below_step HB.out hb)
            (try clear hb)
            (try clear hb2)
            (try clear hk)
            (try clear hi)
            refine hK.out _ _ ⟨(blk_cell BK123.out 0).trans rfl, (blk_cell BK123.out 1).trans rfl, (blk_cell BK123.out 2).trans rfl, (blk_cell BK124.out 0).trans rfl, (blk_cell BK124.out 1).trans rfl, (blk_cell BK124.out 2).trans rfl⟩ (fun hHeld => ?_)
            clear hK K
            refine norm_ (a' := ?_) ?_ ?_
            rotate_left
            ·show Act.put _ (some 14) _ = _
             simp only [Act.put, sA, sB, sC, i64_w, i32_w]
             rfl
            exact norm_ (by simp only [putAll, Act.put, sA, sB, sC] <;> rfl) (hJ1_3 () _ ⟨hHeld, BK123.out, BK124.out, BK125.out, (by repeat (first | (with_reducible first | exact HB.out | apply below_alloc | apply pw_below_drewN | apply below_drew1 | refine below_set ?_ GE123.out | refine below_set ?_ GE124.out | refine below_set ?_ GE125.out) | exact HB.out))⟩)
           ·skip
            refine box_step ?hg (N := 6) ?hd (cs := #[.int .u64 0, .int .u64 0]) (t := 54) ?hr ?_; (case hd => rfl); (case hg => rfl); (case hr => first | (go_simp; done) | (go_simp; rfl))
            intro gb130 hg w52 hbox hb
            have BK130 := Aside0.mk (hbox)
            have GW130 := szZ HB hg
            have GE130 := szZ HB hg
            have NB123_130 := nlZ BK123 hg
            have NB130_123 := ngZ BK123 hg
            have NB124_130 := nlZ BK124 hg
            have NB130_124 := ngZ BK124 hg
            have NB125_130 := nlZ BK125 hg
            have NB130_125 := ngZ BK125 hg
            replace BK123 := bbZ BK123 hb
            replace BK124 := bbZ BK124 hb
            replace BK125 := bbZ BK125 hb
            replace HB := Aside0.mk (below_step HB.out hb)
            clear hb hbox hg
            refine hK.out _ _ ⟨(blk_cell BK123.out 0).trans rfl, (blk_cell BK123.out 1).trans rfl, (blk_cell BK123.out 2).trans rfl, (blk_cell BK124.out 0).trans rfl, (blk_cell BK124.out 1).trans rfl, (blk_cell BK124.out 2).trans rfl⟩ (fun hHeld => ?_)
            clear hK K
            refine norm_ (a' := ?_) ?_ ?_
            rotate_left
            ·show Act.put _ (some 6) _ = _
             simp only [Act.put, sA, sB, sC, i64_w, i32_w]
             rfl
            exact norm_ (by simp only [putAll, Act.put, sA, sB, sC] <;> rfl) (hJ1_4 (gb130) _ ⟨hHeld, BK123.out, BK124.out, BK125.out, BK130.out, GW130.out, GE130.out, NB123_130.out, NB130_123.out, NB124_130.out, NB130_124.out, NB125_130.out, NB130_125.out, (by repeat (first | (with_reducible first | exact HB.out | apply below_alloc | apply pw_below_drewN | apply below_drew1 | refine below_set ?_ GE123.out | refine below_set ?_ GE124.out | refine below_set ?_ GE125.out | refine below_set ?_ GE130.out) | exact HB.out))⟩)
           ·skip
            refine box_step ?hg (N := 7) ?hd (cs := #[.int .u64 0, .int .u64 0]) (t := 54) ?hr ?_; (case hd => rfl); (case hg => rfl); (case hr => first | (go_simp; done) | (go_simp; rfl))
            intro gb131 hg w52 hbox hb
            have BK131 := Aside0.mk (hbox)
            have GW131 := szZ HB hg
            have GE131 := szZ HB hg
            have NB123_131 := nlZ BK123 hg
            have NB131_123 := ngZ BK123 hg
            have NB124_131 := nlZ BK124 hg
            have NB131_124 := ngZ BK124 hg
            have NB125_131 := nlZ BK125 hg
            have NB131_125 := ngZ BK125 hg
            replace BK123 := bbZ BK123 hb
            replace BK124 := bbZ BK124 hb
            replace BK125 := bbZ BK125 hb
            replace HB := Aside0.mk (below_step HB.out hb)
            clear hb hbox hg
            refine hK.out _ _ ⟨(blk_cell BK123.out 0).trans rfl, (blk_cell BK123.out 1).trans rfl, (blk_cell BK123.out 2).trans rfl, (blk_cell BK124.out 0).trans rfl, (blk_cell BK124.out 1).trans rfl, (blk_cell BK124.out 2).trans rfl⟩ (fun hHeld => ?_)
            clear hK K
            refine norm_ (a' := ?_) ?_ ?_
            rotate_left
            ·show Act.put _ (some 7) _ = _
             simp only [Act.put, sA, sB, sC, i64_w, i32_w]
             rfl
            exact norm_ (by simp only [putAll, Act.put, sA, sB, sC] <;> rfl) (hJ1_5 (gb131) _ ⟨hHeld, BK123.out, BK124.out, BK125.out, BK131.out, GW131.out, GE131.out, NB123_131.out, NB131_123.out, NB124_131.out, NB131_124.out, NB125_131.out, NB131_125.out, (by repeat (first | (with_reducible first | exact HB.out | apply below_alloc | apply pw_below_drewN | apply below_drew1 | refine below_set ?_ GE123.out | refine below_set ?_ GE124.out | refine below_set ?_ GE125.out | refine below_set ?_ GE131.out) | exact HB.out))⟩)
         ·skip
          rintro ⟨gb130, gb131⟩ w52 ⟨hS_, h0_, h1_, h2_, h3_, h4_, h5_, h6_, h7_, h8_, h9_, h10_, h11_, h12_, h13_, h14_, h15_, h16_, h17_, h18_, h19_, h20_, h21_, h22_, h23_⟩
          have BK130 := Aside0.mk h3_
          have BK131 := Aside0.mk h4_
          have GW130 := Aside0.mk h5_
          have GE130 := Aside0.mk h6_
          have NB123_130 := Aside0.mk h7_
          have NB130_123 := Aside0.mk h8_
          have NB124_130 := Aside0.mk h9_
          have NB130_124 := Aside0.mk h10_
          have NB125_130 := Aside0.mk h11_
          have NB130_125 := Aside0.mk h12_
          have NB131_130 := Aside0.mk h13_
          have NB130_131 := Aside0.mk h14_
          have GW131 := Aside0.mk h15_
          have GE131 := Aside0.mk h16_
          have NB123_131 := Aside0.mk h17_
          have NB131_123 := Aside0.mk h18_
          have NB124_131 := Aside0.mk h19_
          have NB131_124 := Aside0.mk h20_
          have NB125_131 := Aside0.mk h21_
          have NB131_125 := Aside0.mk h22_
          replace BK123 := Aside0.mk h0_
          replace BK124 := Aside0.mk h1_
          replace BK125 := Aside0.mk h2_
          replace HB := Aside0.mk h23_
          clear h0_ h1_ h2_ h3_ h4_ h5_ h6_ h7_ h8_ h9_ h10_ h11_ h12_ h13_ h14_ h15_ h16_ h17_ h18_ h19_ h20_ h21_ h22_ h23_
          have hHeld : w52.cell? ⟨gb123, 0, none⟩ = some (.bool a0_0) ∧ w52.cell? ⟨gb123, 1, none⟩ = some (.int .u64 a0_1) ∧ w52.cell? ⟨gb123, 2, none⟩ = some (.int .u64 a0_2) ∧ w52.cell? ⟨gb124, 0, none⟩ = some (.bool a1_0) ∧ w52.cell? ⟨gb124, 1, none⟩ = some (.int .u64 a1_1) ∧ w52.cell? ⟨gb124, 2, none⟩ = some (.int .u64 a1_2) := hS_
          refine norm_ (a' := ?_) ?_ ?_
          rotate_left
          ·simp only [putAll, Act.put, sA, sB, sC]
           rfl
          refine one_ (i := 1) (N := some 12) #[Y,Y,Y,N,Y,Y,N,N] rfl rfl (one_of HT_.out (by kernel_rfl)) (by decide) (fun K hK => ?_)
          refine goes_ Try.func45 (by kernel_rfl) rfl #[.agg #[.bool a0_0, .int .u64 a0_1, .int .u64 a0_2]] (by rfl) rfl rfl (by (try simp only [List.map_toArray, List.map_cons, List.map_nil]); first | done | rfl | (simp only [List.length_drop, List.length_take]; rfl)) ?_
          with_reducible refine (big_of.calls a0_0 a0_1 a0_2 t126 t127 _ A3.out).mono ?_
          rintro e w53 ⟨rfl, hb⟩
          refine ⟨_, rfl, ?_⟩
          replace BK123 := bbZ BK123 hb
          replace BK124 := bbZ BK124 hb
          replace BK125 := bbZ BK125 hb
          replace BK130 := bbZ BK130 hb
          replace BK131 := bbZ BK131 hb
          replace HB := Aside0.mk (below_step HB.out hb)
          (try clear hb)
          (try clear hb2)
          (try clear hk)
          (try clear hi)
          refine hK.out _ _ ⟨(blk_cell BK123.out 0).trans rfl, (blk_cell BK123.out 1).trans rfl, (blk_cell BK123.out 2).trans rfl, (blk_cell BK124.out 0).trans rfl, (blk_cell BK124.out 1).trans rfl, (blk_cell BK124.out 2).trans rfl⟩ (fun hHeld => ?_)
          clear hK K
          refine norm_ (a' := ?_) ?_ ?_
          rotate_left
          ·show Act.put _ (some 12) _ = _
           simp only [Act.put, sA, sB, sC, i64_w, i32_w]
           rfl
          exact norm_ (by simp only [putAll, Act.put, sA, sB, sC] <;> rfl) (hJ1_4_5 (gb130, gb131) _ ⟨hHeld, BK123.out, BK124.out, BK125.out, BK130.out, BK131.out, GW130.out, GE130.out, NB123_130.out, NB130_123.out, NB124_130.out, NB130_124.out, NB125_130.out, NB130_125.out, NB131_130.out, NB130_131.out, GW131.out, GE131.out, NB123_131.out, NB131_123.out, NB124_131.out, NB131_124.out, NB125_131.out, NB131_125.out, (by repeat (first | (with_reducible first | exact HB.out | apply below_alloc | apply pw_below_drewN | apply below_drew1 | refine below_set ?_ GE123.out | refine below_set ?_ GE124.out | refine below_set ?_ GE125.out | refine below_set ?_ GE130.out | refine below_set ?_ GE131.out) | exact HB.out))⟩)
        ·skip
         rintro gb131 w52 ⟨hS_, h0_, h1_, h2_, h3_, h4_, h5_, h6_, h7_, h8_, h9_, h10_, h11_, h12_⟩
         have BK131 := Aside0.mk h3_
         have GW131 := Aside0.mk h4_
         have GE131 := Aside0.mk h5_
         have NB123_131 := Aside0.mk h6_
         have NB131_123 := Aside0.mk h7_
         have NB124_131 := Aside0.mk h8_
         have NB131_124 := Aside0.mk h9_
         have NB125_131 := Aside0.mk h10_
         have NB131_125 := Aside0.mk h11_
         replace BK123 := Aside0.mk h0_
         replace BK124 := Aside0.mk h1_
         replace BK125 := Aside0.mk h2_
         replace HB := Aside0.mk h12_
         clear h0_ h1_ h2_ h3_ h4_ h5_ h6_ h7_ h8_ h9_ h10_ h11_ h12_
         have hHeld : w52.cell? ⟨gb123, 0, none⟩ = some (.bool a0_0) ∧ w52.cell? ⟨gb123, 1, none⟩ = some (.int .u64 a0_1) ∧ w52.cell? ⟨gb123, 2, none⟩ = some (.int .u64 a0_2) ∧ w52.cell? ⟨gb124, 0, none⟩ = some (.bool a1_0) ∧ w52.cell? ⟨gb124, 1, none⟩ = some (.int .u64 a1_1) ∧ w52.cell? ⟨gb124, 2, none⟩ = some (.int .u64 a1_2) := hS_
         refine norm_ (a' := ?_) ?_ ?_
         rotate_left
         ·simp only [putAll, Act.put, sA, sB, sC]
          rfl
         refine two_ (i := 3) (j := 4) (Ni := some 14) (Nj := some 6) #[Y,Y,Y,Y,N,Y,N,N] #[Y,Y,Y,N,Y,Y,N,N] rfl rfl rfl rfl (two_of HT_.out (by kernel_rfl)) (by decide) (by decide) (fun K hK => ?_) (fun K hK => ?_)
         ·skip
          refine goes_ Try.func45 (by kernel_rfl) rfl #[.agg #[.bool a1_0, .int .u64 a1_1, .int .u64 a1_2]] (by rfl) rfl rfl (by (try simp only [List.map_toArray, List.map_cons, List.map_nil]); first | done | rfl | (simp only [List.length_drop, List.length_take]; rfl)) ?_
          with_reducible refine (big_of.calls a1_0 a1_1 a1_2 t128 t129 _ A4.out).mono ?_
          rintro e w53 ⟨rfl, hb⟩
          refine ⟨_, rfl, ?_⟩
          replace BK123 := bbZ BK123 hb
          replace BK124 := bbZ BK124 hb
          replace BK125 := bbZ BK125 hb
          replace BK131 := bbZ BK131 hb
          replace HB := Aside0.mk (below_step HB.out hb)
          (try clear hb)
          (try clear hb2)
          (try clear hk)
          (try clear hi)
          refine hK.out _ _ ⟨(blk_cell BK123.out 0).trans rfl, (blk_cell BK123.out 1).trans rfl, (blk_cell BK123.out 2).trans rfl, (blk_cell BK124.out 0).trans rfl, (blk_cell BK124.out 1).trans rfl, (blk_cell BK124.out 2).trans rfl⟩ (fun hHeld => ?_)
          clear hK K
          refine norm_ (a' := ?_) ?_ ?_
          rotate_left
          ·show Act.put _ (some 14) _ = _
           simp only [Act.put, sA, sB, sC, i64_w, i32_w]
           rfl
          exact norm_ (by simp only [putAll, Act.put, sA, sB, sC] <;> rfl) (hJ1_3_5 (gb131) _ ⟨hHeld, BK123.out, BK124.out, BK125.out, BK131.out, GW131.out, GE131.out, NB123_131.out, NB131_123.out, NB124_131.out, NB131_124.out, NB125_131.out, NB131_125.out, (by repeat (first | (with_reducible first | exact HB.out | apply below_alloc | apply pw_below_drewN | apply below_drew1 | refine below_set ?_ GE123.out | refine below_set ?_ GE124.out | refine below_set ?_ GE125.out | refine below_set ?_ GE131.out) | exact HB.out))⟩)
         ·skip
          refine box_step ?hg (N := 6) ?hd (cs := #[.int .u64 0, .int .u64 0]) (t := 54) ?hr ?_; (case hd => rfl); (case hg => rfl); (case hr => first | (go_simp; done) | (go_simp; rfl))
          intro gb130 hg w53 hbox hb
          have BK130 := Aside0.mk (hbox)
          have GW130 := szZ HB hg
          have GE130 := szZ HB hg
          have NB123_130 := nlZ BK123 hg
          have NB130_123 := ngZ BK123 hg
          have NB124_130 := nlZ BK124 hg
          have NB130_124 := ngZ BK124 hg
          have NB125_130 := nlZ BK125 hg
          have NB130_125 := ngZ BK125 hg
          have NB131_130 := nlZ BK131 hg
          have NB130_131 := ngZ BK131 hg
          replace BK123 := bbZ BK123 hb
          replace BK124 := bbZ BK124 hb
          replace BK125 := bbZ BK125 hb
          replace BK131 := bbZ BK131 hb
          replace HB := Aside0.mk (below_step HB.out hb)
          clear hb hbox hg
          refine hK.out _ _ ⟨(blk_cell BK123.out 0).trans rfl, (blk_cell BK123.out 1).trans rfl, (blk_cell BK123.out 2).trans rfl, (blk_cell BK124.out 0).trans rfl, (blk_cell BK124.out 1).trans rfl, (blk_cell BK124.out 2).trans rfl⟩ (fun hHeld => ?_)
          clear hK K
          refine norm_ (a' := ?_) ?_ ?_
          rotate_left
          ·show Act.put _ (some 6) _ = _
           simp only [Act.put, sA, sB, sC, i64_w, i32_w]
           rfl
          exact norm_ (by simp only [putAll, Act.put, sA, sB, sC] <;> rfl) (hJ1_4_5 (gb130, gb131) _ ⟨hHeld, BK123.out, BK124.out, BK125.out, BK130.out, BK131.out, GW130.out, GE130.out, NB123_130.out, NB130_123.out, NB124_130.out, NB130_124.out, NB125_130.out, NB130_125.out, NB131_130.out, NB130_131.out, GW131.out, GE131.out, NB123_131.out, NB131_123.out, NB124_131.out, NB131_124.out, NB125_131.out, NB131_125.out, (by repeat (first | (with_reducible first | exact HB.out | apply below_alloc | apply pw_below_drewN | apply below_drew1 | refine below_set ?_ GE123.out | refine below_set ?_ GE124.out | refine below_set ?_ GE125.out | refine below_set ?_ GE131.out | refine below_set ?_ GE130.out) | exact HB.out))⟩)
       ·skip
        rintro gb130 w52 ⟨hS_, h0_, h1_, h2_, h3_, h4_, h5_, h6_, h7_, h8_, h9_, h10_, h11_, h12_⟩
        have BK130 := Aside0.mk h3_
        have GW130 := Aside0.mk h4_
        have GE130 := Aside0.mk h5_
        have NB123_130 := Aside0.mk h6_
        have NB130_123 := Aside0.mk h7_
        have NB124_130 := Aside0.mk h8_
        have NB130_124 := Aside0.mk h9_
        have NB125_130 := Aside0.mk h10_
        have NB130_125 := Aside0.mk h11_
        replace BK123 := Aside0.mk h0_
        replace BK124 := Aside0.mk h1_
        replace BK125 := Aside0.mk h2_
        replace HB := Aside0.mk h12_
        clear h0_ h1_ h2_ h3_ h4_ h5_ h6_ h7_ h8_ h9_ h10_ h11_ h12_
        have hHeld : w52.cell? ⟨gb123, 0, none⟩ = some (.bool a0_0) ∧ w52.cell? ⟨gb123, 1, none⟩ = some (.int .u64 a0_1) ∧ w52.cell? ⟨gb123, 2, none⟩ = some (.int .u64 a0_2) ∧ w52.cell? ⟨gb124, 0, none⟩ = some (.bool a1_0) ∧ w52.cell? ⟨gb124, 1, none⟩ = some (.int .u64 a1_1) ∧ w52.cell? ⟨gb124, 2, none⟩ = some (.int .u64 a1_2) := hS_
        refine norm_ (a' := ?_) ?_ ?_
        rotate_left
        ·simp only [putAll, Act.put, sA, sB, sC]
         rfl
        refine two_ (i := 3) (j := 5) (Ni := some 14) (Nj := some 7) #[Y,Y,Y,Y,Y,N,N,N] #[Y,Y,Y,N,Y,Y,N,N] rfl rfl rfl rfl (two_of HT_.out (by kernel_rfl)) (by decide) (by decide) (fun K hK => ?_) (fun K hK => ?_)
        ·skip
         refine goes_ Try.func45 (by kernel_rfl) rfl #[.agg #[.bool a1_0, .int .u64 a1_1, .int .u64 a1_2]] (by rfl) rfl rfl (by (try simp only [List.map_toArray, List.map_cons, List.map_nil]); first | done | rfl | (simp only [List.length_drop, List.length_take]; rfl)) ?_
         with_reducible refine (big_of.calls a1_0 a1_1 a1_2 t128 t129 _ A4.out).mono ?_
         rintro e w53 ⟨rfl, hb⟩
         refine ⟨_, rfl, ?_⟩
         replace BK123 := bbZ BK123 hb
         replace BK124 := bbZ BK124 hb
         replace BK125 := bbZ BK125 hb
         replace BK130 := bbZ BK130 hb
         replace HB := Aside0.mk (below_step HB.out hb)
         (try clear hb)
         (try clear hb2)
         (try clear hk)
         (try clear hi)
         refine hK.out _ _ ⟨(blk_cell BK123.out 0).trans rfl, (blk_cell BK123.out 1).trans rfl, (blk_cell BK123.out 2).trans rfl, (blk_cell BK124.out 0).trans rfl, (blk_cell BK124.out 1).trans rfl, (blk_cell BK124.out 2).trans rfl⟩ (fun hHeld => ?_)
         clear hK K
         refine norm_ (a' := ?_) ?_ ?_
         rotate_left
         ·show Act.put _ (some 14) _ = _
          simp only [Act.put, sA, sB, sC, i64_w, i32_w]
          rfl
         exact norm_ (by simp only [putAll, Act.put, sA, sB, sC] <;> rfl) (hJ1_3_4 (gb130) _ ⟨hHeld, BK123.out, BK124.out, BK125.out, BK130.out, GW130.out, GE130.out, NB123_130.out, NB130_123.out, NB124_130.out, NB130_124.out, NB125_130.out, NB130_125.out, (by repeat (first | (with_reducible first | exact HB.out | apply below_alloc | apply pw_below_drewN | apply below_drew1 | refine below_set ?_ GE123.out | refine below_set ?_ GE124.out | refine below_set ?_ GE125.out | refine below_set ?_ GE130.out) | exact HB.out))⟩)
        ·skip
         refine box_step ?hg (N := 7) ?hd (cs := #[.int .u64 0, .int .u64 0]) (t := 54) ?hr ?_; (case hd => rfl); (case hg => rfl); (case hr => first | (go_simp; done) | (go_simp; rfl))
         intro gb131 hg w53 hbox hb
         have BK131 := Aside0.mk (hbox)
         have GW131 := szZ HB hg
         have GE131 := szZ HB hg
         have NB123_131 := nlZ BK123 hg
         have NB131_123 := ngZ BK123 hg
         have NB124_131 := nlZ BK124 hg
         have NB131_124 := ngZ BK124 hg
         have NB125_131 := nlZ BK125 hg
         have NB131_125 := ngZ BK125 hg
         have NB130_131 := nlZ BK130 hg
         have NB131_130 := ngZ BK130 hg
         replace BK123 := bbZ BK123 hb
         replace BK124 := bbZ BK124 hb
         replace BK125 := bbZ BK125 hb
         replace BK130 := bbZ BK130 hb
         replace HB := Aside0.mk (below_step HB.out hb)
         clear hb hbox hg
         refine hK.out _ _ ⟨(blk_cell BK123.out 0).trans rfl, (blk_cell BK123.out 1).trans rfl, (blk_cell BK123.out 2).trans rfl, (blk_cell BK124.out 0).trans rfl, (blk_cell BK124.out 1).trans rfl, (blk_cell BK124.out 2).trans rfl⟩ (fun hHeld => ?_)
         clear hK K
         refine norm_ (a' := ?_) ?_ ?_
         rotate_left
         ·show Act.put _ (some 7) _ = _
          simp only [Act.put, sA, sB, sC, i64_w, i32_w]
          rfl
         exact norm_ (by simp only [putAll, Act.put, sA, sB, sC] <;> rfl) (hJ1_4_5 (gb130, gb131) _ ⟨hHeld, BK123.out, BK124.out, BK125.out, BK130.out, BK131.out, GW130.out, GE130.out, NB123_130.out, NB130_123.out, NB124_130.out, NB130_124.out, NB125_130.out, NB130_125.out, NB131_130.out, NB130_131.out, GW131.out, GE131.out, NB123_131.out, NB131_123.out, NB124_131.out, NB131_124.out, NB125_131.out, NB131_125.out, (by repeat (first | (with_reducible first | exact HB.out | apply below_alloc | apply pw_below_drewN | apply below_drew1 | refine below_set ?_ GE123.out | refine below_set ?_ GE124.out | refine below_set ?_ GE125.out | refine below_set ?_ GE130.out | refine below_set ?_ GE131.out) | exact HB.out))⟩)
      ·skip
       rintro _ w52 ⟨hS_, h0_, h1_, h2_, h3_⟩
       replace BK123 := Aside0.mk h0_
       replace BK124 := Aside0.mk h1_
       replace BK125 := Aside0.mk h2_
       replace HB := Aside0.mk h3_
       clear h0_ h1_ h2_ h3_
       have hHeld : w52.cell? ⟨gb123, 0, none⟩ = some (.bool a0_0) ∧ w52.cell? ⟨gb123, 1, none⟩ = some (.int .u64 a0_1) ∧ w52.cell? ⟨gb123, 2, none⟩ = some (.int .u64 a0_2) ∧ w52.cell? ⟨gb124, 0, none⟩ = some (.bool a1_0) ∧ w52.cell? ⟨gb124, 1, none⟩ = some (.int .u64 a1_1) ∧ w52.cell? ⟨gb124, 2, none⟩ = some (.int .u64 a1_2) := hS_
       refine norm_ (a' := ?_) ?_ ?_
       rotate_left
       ·simp only [putAll, Act.put, sA, sB, sC]
        rfl
       refine two_ (i := 4) (j := 5) (Ni := some 6) (Nj := some 7) #[Y,Y,Y,Y,Y,N,N,N] #[Y,Y,Y,Y,N,Y,N,N] rfl rfl rfl rfl (two_of HT_.out (by kernel_rfl)) (by decide) (by decide) (fun K hK => ?_) (fun K hK => ?_)
       ·skip
        refine box_step ?hg (N := 6) ?hd (cs := #[.int .u64 0, .int .u64 0]) (t := 54) ?hr ?_; (case hd => rfl); (case hg => rfl); (case hr => first | (go_simp; done) | (go_simp; rfl))
        intro gb130 hg w53 hbox hb
        have BK130 := Aside0.mk (hbox)
        have GW130 := szZ HB hg
        have GE130 := szZ HB hg
        have NB123_130 := nlZ BK123 hg
        have NB130_123 := ngZ BK123 hg
        have NB124_130 := nlZ BK124 hg
        have NB130_124 := ngZ BK124 hg
        have NB125_130 := nlZ BK125 hg
        have NB130_125 := ngZ BK125 hg
        replace BK123 := bbZ BK123 hb
        replace BK124 := bbZ BK124 hb
        replace BK125 := bbZ BK125 hb
        replace HB := Aside0.mk (below_step HB.out hb)
        clear hb hbox hg
        refine hK.out _ _ ⟨(blk_cell BK123.out 0).trans rfl, (blk_cell BK123.out 1).trans rfl, (blk_cell BK123.out 2).trans rfl, (blk_cell BK124.out 0).trans rfl, (blk_cell BK124.out 1).trans rfl, (blk_cell BK124.out 2).trans rfl⟩ (fun hHeld => ?_)
        clear hK K
        refine norm_ (a' := ?_) ?_ ?_
        rotate_left
        ·show Act.put _ (some 6) _ = _
         simp only [Act.put, sA, sB, sC, i64_w, i32_w]
         rfl
        exact norm_ (by simp only [putAll, Act.put, sA, sB, sC] <;> rfl) (hJ1_3_4 (gb130) _ ⟨hHeld, BK123.out, BK124.out, BK125.out, BK130.out, GW130.out, GE130.out, NB123_130.out, NB130_123.out, NB124_130.out, NB130_124.out, NB125_130.out, NB130_125.out, (by repeat (first | (with_reducible first | exact HB.out | apply below_alloc | apply pw_below_drewN | apply below_drew1 | refine below_set ?_ GE123.out | refine below_set ?_ GE124.out | refine below_set ?_ GE125.out | refine below_set ?_ GE130.out) | exact HB.out))⟩)
       ·skip
        refine box_step ?hg (N := 7) ?hd (cs := #[.int .u64 0, .int .u64 0]) (t := 54) ?hr ?_; (case hd => rfl); (case hg => rfl); (case hr => first | (go_simp; done) | (go_simp; rfl))
        intro gb131 hg w53 hbox hb
        have BK131 := Aside0.mk (hbox)
        have GW131 := szZ HB hg
        have GE131 := szZ HB hg
        have NB123_131 := nlZ BK123 hg
        have NB131_123 := ngZ BK123 hg
        have NB124_131 := nlZ BK124 hg
        have NB131_124 := ngZ BK124 hg
        have NB125_131 := nlZ BK125 hg
        have NB131_125 := ngZ BK125 hg
        replace BK123 := bbZ BK123 hb
        replace BK124 := bbZ BK124 hb
        replace BK125 := bbZ BK125 hb
        replace HB := Aside0.mk (below_step HB.out hb)
        clear hb hbox hg
        refine hK.out _ _ ⟨(blk_cell BK123.out 0).trans rfl, (blk_cell BK123.out 1).trans rfl, (blk_cell BK123.out 2).trans rfl, (blk_cell BK124.out 0).trans rfl, (blk_cell BK124.out 1).trans rfl, (blk_cell BK124.out 2).trans rfl⟩ (fun hHeld => ?_)
        clear hK K
        refine norm_ (a' := ?_) ?_ ?_
        rotate_left
        ·show Act.put _ (some 7) _ = _
         simp only [Act.put, sA, sB, sC, i64_w, i32_w]
         rfl
        exact norm_ (by simp only [putAll, Act.put, sA, sB, sC] <;> rfl) (hJ1_3_5 (gb131) _ ⟨hHeld, BK123.out, BK124.out, BK125.out, BK131.out, GW131.out, GE131.out, NB123_131.out, NB131_123.out, NB124_131.out, NB131_124.out, NB125_131.out, NB131_125.out, (by repeat (first | (with_reducible first | exact HB.out | apply below_alloc | apply pw_below_drewN | apply below_drew1 | refine below_set ?_ GE123.out | refine below_set ?_ GE124.out | refine below_set ?_ GE125.out | refine below_set ?_ GE131.out) | exact HB.out))⟩)
     ·skip
      rintro ⟨gb130, gb131⟩ w53 ⟨hS_, h0_, h1_, h2_, h3_, h4_, h5_, h6_, h7_, h8_, h9_, h10_, h11_, h12_, h13_, h14_, h15_, h16_, h17_, h18_, h19_, h20_, h21_, h22_, h23_⟩
      have BK130 := Aside0.mk h3_
      have BK131 := Aside0.mk h4_
      have GW130 := Aside0.mk h5_
      have GE130 := Aside0.mk h6_
      have NB123_130 := Aside0.mk h7_
      have NB130_123 := Aside0.mk h8_
      have NB124_130 := Aside0.mk h9_
      have NB130_124 := Aside0.mk h10_
      have NB125_130 := Aside0.mk h11_
      have NB130_125 := Aside0.mk h12_
      have NB131_130 := Aside0.mk h13_
      have NB130_131 := Aside0.mk h14_
      have GW131 := Aside0.mk h15_
      have GE131 := Aside0.mk h16_
      have NB123_131 := Aside0.mk h17_
      have NB131_123 := Aside0.mk h18_
      have NB124_131 := Aside0.mk h19_
      have NB131_124 := Aside0.mk h20_
      have NB125_131 := Aside0.mk h21_
      have NB131_125 := Aside0.mk h22_
      replace BK123 := Aside0.mk h0_
      replace BK124 := Aside0.mk h1_
      replace BK125 := Aside0.mk h2_
      replace HB := Aside0.mk h23_
      clear h0_ h1_ h2_ h3_ h4_ h5_ h6_ h7_ h8_ h9_ h10_ h11_ h12_ h13_ h14_ h15_ h16_ h17_ h18_ h19_ h20_ h21_ h22_ h23_
      have hHeld : w53.cell? ⟨gb123, 0, none⟩ = some (.bool a0_0) ∧ w53.cell? ⟨gb123, 1, none⟩ = some (.int .u64 a0_1) ∧ w53.cell? ⟨gb123, 2, none⟩ = some (.int .u64 a0_2) ∧ w53.cell? ⟨gb124, 0, none⟩ = some (.bool a1_0) ∧ w53.cell? ⟨gb124, 1, none⟩ = some (.int .u64 a1_1) ∧ w53.cell? ⟨gb124, 2, none⟩ = some (.int .u64 a1_2) := hS_
      refine norm_ (a' := ?_) ?_ ?_
      rotate_left
      ·simp only [putAll, Act.put, sA, sB, sC]
       rfl
      refine one_ (i := 3) (N := some 14) #[Y,Y,Y,Y,Y,Y,N,N] rfl rfl (one_of HT_.out (by kernel_rfl)) (by decide) (fun K hK => ?_)
      refine goes_ Try.func45 (by kernel_rfl) rfl #[.agg #[.bool a1_0, .int .u64 a1_1, .int .u64 a1_2]] (by rfl) rfl rfl (by (try simp only [List.map_toArray, List.map_cons, List.map_nil]); first | done | rfl | (simp only [List.length_drop, List.length_take]; rfl)) ?_
      with_reducible refine (big_of.calls a1_0 a1_1 a1_2 t128 t129 _ A4.out).mono ?_
      rintro e w54 ⟨rfl, hb⟩
      refine ⟨_, rfl, ?_⟩
      replace BK123 := bbZ BK123 hb
      replace BK124 := bbZ BK124 hb
      replace BK125 := bbZ BK125 hb
      replace BK130 := bbZ BK130 hb
      replace BK131 := bbZ BK131 hb
      replace HB := Aside0.mk (below_step HB.out hb)
      (try clear hb)
      (try clear hb2)
      (try clear hk)
      (try clear hi)
      refine hK.out _ _ ⟨(blk_cell BK123.out 0).trans rfl, (blk_cell BK123.out 1).trans rfl, (blk_cell BK123.out 2).trans rfl, (blk_cell BK124.out 0).trans rfl, (blk_cell BK124.out 1).trans rfl, (blk_cell BK124.out 2).trans rfl⟩ (fun hHeld => ?_)
      clear hK K
      refine norm_ (a' := ?_) ?_ ?_
      rotate_left
      ·show Act.put _ (some 14) _ = _
       simp only [Act.put, sA, sB, sC, i64_w, i32_w]
       rfl
      exact norm_ (by simp only [putAll, Act.put, sA, sB, sC] <;> rfl) (hJ1_3_4_5 (gb130, gb131) _ ⟨hHeld, BK123.out, BK124.out, BK125.out, BK130.out, BK131.out, GW130.out, GE130.out, NB123_130.out, NB130_123.out, NB124_130.out, NB130_124.out, NB125_130.out, NB130_125.out, NB131_130.out, NB130_131.out, GW131.out, GE131.out, NB123_131.out, NB131_123.out, NB124_131.out, NB131_124.out, NB125_131.out, NB131_125.out, (by repeat (first | (with_reducible first | exact HB.out | apply below_alloc | apply pw_below_drewN | apply below_drew1 | refine below_set ?_ GE123.out | refine below_set ?_ GE124.out | refine below_set ?_ GE125.out | refine below_set ?_ GE130.out | refine below_set ?_ GE131.out) | exact HB.out))⟩)
    ·skip
     rintro gb131 w53 ⟨hS_, h0_, h1_, h2_, h3_, h4_, h5_, h6_, h7_, h8_, h9_, h10_, h11_, h12_⟩
     have BK131 := Aside0.mk h3_
     have GW131 := Aside0.mk h4_
     have GE131 := Aside0.mk h5_
     have NB123_131 := Aside0.mk h6_
     have NB131_123 := Aside0.mk h7_
     have NB124_131 := Aside0.mk h8_
     have NB131_124 := Aside0.mk h9_
     have NB125_131 := Aside0.mk h10_
     have NB131_125 := Aside0.mk h11_
     replace BK123 := Aside0.mk h0_
     replace BK124 := Aside0.mk h1_
     replace BK125 := Aside0.mk h2_
     replace HB := Aside0.mk h12_
     clear h0_ h1_ h2_ h3_ h4_ h5_ h6_ h7_ h8_ h9_ h10_ h11_ h12_
     have hHeld : w53.cell? ⟨gb123, 0, none⟩ = some (.bool a0_0) ∧ w53.cell? ⟨gb123, 1, none⟩ = some (.int .u64 a0_1) ∧ w53.cell? ⟨gb123, 2, none⟩ = some (.int .u64 a0_2) ∧ w53.cell? ⟨gb124, 0, none⟩ = some (.bool a1_0) ∧ w53.cell? ⟨gb124, 1, none⟩ = some (.int .u64 a1_1) ∧ w53.cell? ⟨gb124, 2, none⟩ = some (.int .u64 a1_2) := hS_
     refine norm_ (a' := ?_) ?_ ?_
     rotate_left
     ·simp only [putAll, Act.put, sA, sB, sC]
      rfl
     refine one_ (i := 4) (N := some 6) #[Y,Y,Y,Y,Y,Y,N,N] rfl rfl (one_of HT_.out (by kernel_rfl)) (by decide) (fun K hK => ?_)
     refine box_step ?hg (N := 6) ?hd (cs := #[.int .u64 0, .int .u64 0]) (t := 54) ?hr ?_; (case hd => rfl); (case hg => rfl); (case hr => first | (go_simp; done) | (go_simp; rfl))
     intro gb130 hg w54 hbox hb
     have BK130 := Aside0.mk (hbox)
     have GW130 := szZ HB hg
     have GE130 := szZ HB hg
     have NB123_130 := nlZ BK123 hg
     have NB130_123 := ngZ BK123 hg
     have NB124_130 := nlZ BK124 hg
     have NB130_124 := ngZ BK124 hg
     have NB125_130 := nlZ BK125 hg
     have NB130_125 := ngZ BK125 hg
     have NB131_130 := nlZ BK131 hg
     have NB130_131 := ngZ BK131 hg
     replace BK123 := bbZ BK123 hb
     replace BK124 := bbZ BK124 hb
     replace BK125 := bbZ BK125 hb
     replace BK131 := bbZ BK131 hb
     replace HB := Aside0.mk (below_step HB.out hb)
     clear hb hbox hg
     refine hK.out _ _ ⟨(blk_cell BK123.out 0).trans rfl, (blk_cell BK123.out 1).trans rfl, (blk_cell BK123.out 2).trans rfl, (blk_cell BK124.out 0).trans rfl, (blk_cell BK124.out 1).trans rfl, (blk_cell BK124.out 2).trans rfl⟩ (fun hHeld => ?_)
     clear hK K
     refine norm_ (a' := ?_) ?_ ?_
     rotate_left
     ·show Act.put _ (some 6) _ = _
      simp only [Act.put, sA, sB, sC, i64_w, i32_w]
      rfl
     exact norm_ (by simp only [putAll, Act.put, sA, sB, sC] <;> rfl) (hJ1_3_4_5 (gb130, gb131) _ ⟨hHeld, BK123.out, BK124.out, BK125.out, BK130.out, BK131.out, GW130.out, GE130.out, NB123_130.out, NB130_123.out, NB124_130.out, NB130_124.out, NB125_130.out, NB130_125.out, NB131_130.out, NB130_131.out, GW131.out, GE131.out, NB123_131.out, NB131_123.out, NB124_131.out, NB131_124.out, NB125_131.out, NB131_125.out, (by repeat (first | (with_reducible first | exact HB.out | apply below_alloc | apply pw_below_drewN | apply below_drew1 | refine below_set ?_ GE123.out | refine below_set ?_ GE124.out | refine below_set ?_ GE125.out | refine below_set ?_ GE131.out | refine below_set ?_ GE130.out) | exact HB.out))⟩)
   ·skip
    rintro gb130 w53 ⟨hS_, h0_, h1_, h2_, h3_, h4_, h5_, h6_, h7_, h8_, h9_, h10_, h11_, h12_⟩
    have BK130 := Aside0.mk h3_
    have GW130 := Aside0.mk h4_
    have GE130 := Aside0.mk h5_
    have NB123_130 := Aside0.mk h6_
    have NB130_123 := Aside0.mk h7_
    have NB124_130 := Aside0.mk h8_
    have NB130_124 := Aside0.mk h9_
    have NB125_130 := Aside0.mk h10_
    have NB130_125 := Aside0.mk h11_
    replace BK123 := Aside0.mk h0_
    replace BK124 := Aside0.mk h1_
    replace BK125 := Aside0.mk h2_
    replace HB := Aside0.mk h12_
    clear h0_ h1_ h2_ h3_ h4_ h5_ h6_ h7_ h8_ h9_ h10_ h11_ h12_
    have hHeld : w53.cell? ⟨gb123, 0, none⟩ = some (.bool a0_0) ∧ w53.cell? ⟨gb123, 1, none⟩ = some (.int .u64 a0_1) ∧ w53.cell? ⟨gb123, 2, none⟩ = some (.int .u64 a0_2) ∧ w53.cell? ⟨gb124, 0, none⟩ = some (.bool a1_0) ∧ w53.cell? ⟨gb124, 1, none⟩ = some (.int .u64 a1_1) ∧ w53.cell? ⟨gb124, 2, none⟩ = some (.int .u64 a1_2) := hS_
    refine norm_ (a' := ?_) ?_ ?_
    rotate_left
    ·simp only [putAll, Act.put, sA, sB, sC]
     rfl
    refine one_ (i := 5) (N := some 7) #[Y,Y,Y,Y,Y,Y,N,N] rfl rfl (one_of HT_.out (by kernel_rfl)) (by decide) (fun K hK => ?_)
    refine box_step ?hg (N := 7) ?hd (cs := #[.int .u64 0, .int .u64 0]) (t := 54) ?hr ?_; (case hd => rfl); (case hg => rfl); (case hr => first | (go_simp; done) | (go_simp; rfl))
    intro gb131 hg w54 hbox hb
    have BK131 := Aside0.mk (hbox)
    have GW131 := szZ HB hg
    have GE131 := szZ HB hg
    have NB123_131 := nlZ BK123 hg
    have NB131_123 := ngZ BK123 hg
    have NB124_131 := nlZ BK124 hg
    have NB131_124 := ngZ BK124 hg
    have NB125_131 := nlZ BK125 hg
    have NB131_125 := ngZ BK125 hg
    have NB130_131 := nlZ BK130 hg
    have NB131_130 := ngZ BK130 hg
    replace BK123 := bbZ BK123 hb
    replace BK124 := bbZ BK124 hb
    replace BK125 := bbZ BK125 hb
    replace BK130 := bbZ BK130 hb
    replace HB := Aside0.mk (below_step HB.out hb)
    clear hb hbox hg
    refine hK.out _ _ ⟨(blk_cell BK123.out 0).trans rfl, (blk_cell BK123.out 1).trans rfl, (blk_cell BK123.out 2).trans rfl, (blk_cell BK124.out 0).trans rfl, (blk_cell BK124.out 1).trans rfl, (blk_cell BK124.out 2).trans rfl⟩ (fun hHeld => ?_)
    clear hK K
    refine norm_ (a' := ?_) ?_ ?_
    rotate_left
    ·show Act.put _ (some 7) _ = _
     simp only [Act.put, sA, sB, sC, i64_w, i32_w]
     rfl
    exact norm_ (by simp only [putAll, Act.put, sA, sB, sC] <;> rfl) (hJ1_3_4_5 (gb130, gb131) _ ⟨hHeld, BK123.out, BK124.out, BK125.out, BK130.out, BK131.out, GW130.out, GE130.out, NB123_130.out, NB130_123.out, NB124_130.out, NB130_124.out, NB125_130.out, NB130_125.out, NB131_130.out, NB130_131.out, GW131.out, GE131.out, NB123_131.out, NB131_123.out, NB124_131.out, NB131_124.out, NB125_131.out, NB131_125.out, (by repeat (first | (with_reducible first | exact HB.out | apply below_alloc | apply pw_below_drewN | apply below_drew1 | refine below_set ?_ GE123.out | refine below_set ?_ GE124.out | refine below_set ?_ GE125.out | refine below_set ?_ GE130.out | refine below_set ?_ GE131.out) | exact HB.out))⟩)
  rintro ⟨gb130, gb131⟩ w54 ⟨hS_, h0_, h1_, h2_, h3_, h4_, h5_, h6_, h7_, h8_, h9_, h10_, h11_, h12_, h13_, h14_, h15_, h16_, h17_, h18_, h19_, h20_, h21_, h22_, h23_⟩
  have BK130 := Aside0.mk h3_
  have BK131 := Aside0.mk h4_
  have GW130 := Aside0.mk h5_
  have GE130 := Aside0.mk h6_
  have NB123_130 := Aside0.mk h7_
  have NB130_123 := Aside0.mk h8_
  have NB124_130 := Aside0.mk h9_
  have NB130_124 := Aside0.mk h10_
  have NB125_130 := Aside0.mk h11_
  have NB130_125 := Aside0.mk h12_
  have NB131_130 := Aside0.mk h13_
  have NB130_131 := Aside0.mk h14_
  have GW131 := Aside0.mk h15_
  have GE131 := Aside0.mk h16_
  have NB123_131 := Aside0.mk h17_
  have NB131_123 := Aside0.mk h18_
  have NB124_131 := Aside0.mk h19_
  have NB131_124 := Aside0.mk h20_
  have NB125_131 := Aside0.mk h21_
  have NB131_125 := Aside0.mk h22_
  replace BK123 := Aside0.mk h0_
  replace BK124 := Aside0.mk h1_
  replace BK125 := Aside0.mk h2_
  replace HB := Aside0.mk h23_
  clear h0_ h1_ h2_ h3_ h4_ h5_ h6_ h7_ h8_ h9_ h10_ h11_ h12_ h13_ h14_ h15_ h16_ h17_ h18_ h19_ h20_ h21_ h22_ h23_
  have hHeld : w54.cell? ⟨gb123, 0, none⟩ = some (.bool a0_0) ∧ w54.cell? ⟨gb123, 1, none⟩ = some (.int .u64 a0_1) ∧ w54.cell? ⟨gb123, 2, none⟩ = some (.int .u64 a0_2) ∧ w54.cell? ⟨gb124, 0, none⟩ = some (.bool a1_0) ∧ w54.cell? ⟨gb124, 1, none⟩ = some (.int .u64 a1_1) ∧ w54.cell? ⟨gb124, 2, none⟩ = some (.int .u64 a1_2) := hS_
  refine norm_ (a' := ?_) ?_ ?_
  rotate_left
  ·simp only [putAll, Act.put, sA, sB, sC]
   rfl
  refine one_ (i := 6) (N := none) #[Y,Y,Y,Y,Y,Y,Y,N] rfl rfl (one_of HT_.out (by kernel_rfl)) (by decide) (fun K hK => ?_)
  have hs55 : w54.cell? ⟨gb130, 0, none⟩ = some (.int .u64 0) := (blk_cell BK130.out 0).trans rfl
  have hfs55 := blk_frozen BK130.out 0
  have hns55_0 := NB123_130.out
  have hns55_1 := NB124_130.out
  have hns55_2 := NB125_130.out
  have hns55_4 := NB131_130.out
  have hms55_0 := NB130_123.out
  have hms55_1 := NB130_124.out
  have hms55_2 := NB130_125.out
  have hms55_4 := NB130_131.out
  have hs56 : w54.cell? ⟨gb130, 1, none⟩ = some (.int .u64 0) := (blk_cell BK130.out 1).trans rfl
  have hfs56 := blk_frozen BK130.out 1
  have hns56_0 := NB123_130.out
  have hns56_1 := NB124_130.out
  have hns56_2 := NB125_130.out
  have hns56_4 := NB131_130.out
  have hms56_0 := NB130_123.out
  have hms56_1 := NB130_124.out
  have hms56_2 := NB130_125.out
  have hms56_4 := NB130_131.out
  refine skip_ (w1 := ?_) (by rfl) rfl ?_ ?_
  rotate_left
  ·go_simp
   rfl
  refine hK.out _ _ ⟨((cell_far (p := ⟨gb130, _, none⟩) NB123_130.out _).trans (((cell_far (p := ⟨gb130, _, none⟩) NB123_130.out _).trans (hHeld.1)))), ((cell_far (p := ⟨gb130, _, none⟩) NB123_130.out _).trans (((cell_far (p := ⟨gb130, _, none⟩) NB123_130.out _).trans (hHeld.2.1)))), ((cell_far (p := ⟨gb130, _, none⟩) NB123_130.out _).trans (((cell_far (p := ⟨gb130, _, none⟩) NB123_130.out _).trans (hHeld.2.2.1)))), ((cell_far (p := ⟨gb130, _, none⟩) NB124_130.out _).trans (((cell_far (p := ⟨gb130, _, none⟩) NB124_130.out _).trans (hHeld.2.2.2.1)))), ((cell_far (p := ⟨gb130, _, none⟩) NB124_130.out _).trans (((cell_far (p := ⟨gb130, _, none⟩) NB124_130.out _).trans (hHeld.2.2.2.2.1)))), ((cell_far (p := ⟨gb130, _, none⟩) NB124_130.out _).trans (((cell_far (p := ⟨gb130, _, none⟩) NB124_130.out _).trans (hHeld.2.2.2.2.2))))⟩ (fun hHeld => ?_)
  clear hK K
  refine one_ (i := 7) (N := none) #[Y,Y,Y,Y,Y,Y,Y,Y] rfl rfl (one_of HT_.out (by kernel_rfl)) (by decide) (fun K hK => ?_)
  have hs57 : w54.cell? ⟨gb131, 0, none⟩ = some (.int .u64 0) := (blk_cell BK131.out 0).trans rfl
  have hfs57 := blk_frozen BK131.out 0
  have hns57_0 := NB123_131.out
  have hns57_1 := NB124_131.out
  have hns57_2 := NB125_131.out
  have hns57_3 := NB130_131.out
  have hms57_0 := NB131_123.out
  have hms57_1 := NB131_124.out
  have hms57_2 := NB131_125.out
  have hms57_3 := NB131_130.out
  have hs58 : w54.cell? ⟨gb131, 1, none⟩ = some (.int .u64 0) := (blk_cell BK131.out 1).trans rfl
  have hfs58 := blk_frozen BK131.out 1
  have hns58_0 := NB123_131.out
  have hns58_1 := NB124_131.out
  have hns58_2 := NB125_131.out
  have hns58_3 := NB130_131.out
  have hms58_0 := NB131_123.out
  have hms58_1 := NB131_124.out
  have hms58_2 := NB131_125.out
  have hms58_3 := NB131_130.out
  refine skip_ (w1 := ?_) (by rfl) rfl ?_ ?_
  rotate_left
  ·go_simp
   rfl
  refine hK.out _ _ ⟨((cell_far (p := ⟨gb131, _, none⟩) NB123_131.out _).trans (((cell_far (p := ⟨gb131, _, none⟩) NB123_131.out _).trans (hHeld.1)))), ((cell_far (p := ⟨gb131, _, none⟩) NB123_131.out _).trans (((cell_far (p := ⟨gb131, _, none⟩) NB123_131.out _).trans (hHeld.2.1)))), ((cell_far (p := ⟨gb131, _, none⟩) NB123_131.out _).trans (((cell_far (p := ⟨gb131, _, none⟩) NB123_131.out _).trans (hHeld.2.2.1)))), ((cell_far (p := ⟨gb131, _, none⟩) NB124_131.out _).trans (((cell_far (p := ⟨gb131, _, none⟩) NB124_131.out _).trans (hHeld.2.2.2.1)))), ((cell_far (p := ⟨gb131, _, none⟩) NB124_131.out _).trans (((cell_far (p := ⟨gb131, _, none⟩) NB124_131.out _).trans (hHeld.2.2.2.2.1)))), ((cell_far (p := ⟨gb131, _, none⟩) NB124_131.out _).trans (((cell_far (p := ⟨gb131, _, none⟩) NB124_131.out _).trans (hHeld.2.2.2.2.2))))⟩ (fun hHeld => ?_)
  clear hK K
  refine done_ (done_of HT_.out (by kernel_rfl)) ?_
  have hnb59 := NB123_124.out
  have hnc59 := NB124_123.out
  have hnb60 := NB123_125.out
  have hnc60 := NB125_123.out
  have hnb61 := NB123_130.out
  have hnc61 := NB130_123.out
  have hnb62 := NB123_131.out
  have hnc62 := NB131_123.out
  have hcz63_0 : w54.cell? ⟨gb123, 0, none⟩ = some (.bool a0_0) := (blk_cell BK123.out 0).trans rfl
  have hcz63_1 : w54.cell? ⟨gb123, 1, none⟩ = some (.int .u64 a0_1) := (blk_cell BK123.out 1).trans rfl
  have hcz63_2 : w54.cell? ⟨gb123, 2, none⟩ = some (.int .u64 a0_2) := (blk_cell BK123.out 2).trans rfl
  have hfz63_0 := blk_frozen BK123.out 0
  have hfz63_1 := blk_frozen BK123.out 1
  have hfz63_2 := blk_frozen BK123.out 2
  have hnb64 := NB124_125.out
  have hnc64 := NB125_124.out
  have hnb65 := NB124_130.out
  have hnc65 := NB130_124.out
  have hnb66 := NB124_131.out
  have hnc66 := NB131_124.out
  have hcz67_0 : w54.cell? ⟨gb124, 0, none⟩ = some (.bool a1_0) := (blk_cell BK124.out 0).trans rfl
  have hcz67_1 : w54.cell? ⟨gb124, 1, none⟩ = some (.int .u64 a1_1) := (blk_cell BK124.out 1).trans rfl
  have hcz67_2 : w54.cell? ⟨gb124, 2, none⟩ = some (.int .u64 a1_2) := (blk_cell BK124.out 2).trans rfl
  have hfz67_0 := blk_frozen BK124.out 0
  have hfz67_1 := blk_frozen BK124.out 1
  have hfz67_2 := blk_frozen BK124.out 2
  have hnb68 := NB130_125.out
  have hnc68 := NB125_130.out
  have hnb69 := NB130_131.out
  have hnc69 := NB131_130.out
  have hcz70_0 : w54.cell? ⟨gb130, 0, none⟩ = some (.int .u64 0) := (blk_cell BK130.out 0).trans rfl
  have hcz70_1 : w54.cell? ⟨gb130, 1, none⟩ = some (.int .u64 0) := (blk_cell BK130.out 1).trans rfl
  have hfz70_0 := blk_frozen BK130.out 0
  have hfz70_1 := blk_frozen BK130.out 1
  have hnb71 := NB131_125.out
  have hnc71 := NB125_131.out
  have hcz72_0 : w54.cell? ⟨gb131, 0, none⟩ = some (.int .u64 0) := (blk_cell BK131.out 0).trans rfl
  have hcz72_1 : w54.cell? ⟨gb131, 1, none⟩ = some (.int .u64 0) := (blk_cell BK131.out 1).trans rfl
  have hfz72_0 := blk_frozen BK131.out 0
  have hfz72_1 := blk_frozen BK131.out 1
  try go_wp2_with (first | ((with_reducible refine gate_callee (f := 46) rfl ?_); refine goesL_ (some 22) rfl rfl Try.func46 (by kernel_rfl) rfl #[.agg #[.int .u64 t126, .int .u64 t127], .agg #[.int .u64 t128, .int .u64 t129]] rfl (by (try simp only [List.map_toArray, List.map_cons, List.map_nil]); first | done | rfl | (simp only [List.length_drop, List.length_take]; rfl)) ?_; (with_reducible refine (big_size_cmpS.calls t126 t127 t128 t129 t132 _ A6.out).mono ?_); rintro e w73 ⟨rfl, hb⟩; refine ⟨_, rfl, ?_⟩; replace BK123 := Aside0.mk (blk_below (g := gb123) (o := .cells #[.bool a0_0, .int .u64 a0_1, .int .u64 a0_2] 24 (0, 0)) (by (with_reducible repeat (first | refine blk_drewN ?_ _ | refine blk_drew ?_ | refine blk_alloc ?_ _)); refine blk_far ?_ NB123_131.out _; (with_reducible repeat (first | refine blk_drewN ?_ _ | refine blk_drew ?_ | refine blk_alloc ?_ _)); refine blk_far ?_ NB123_131.out _; (with_reducible repeat (first | refine blk_drewN ?_ _ | refine blk_drew ?_ | refine blk_alloc ?_ _)); refine blk_far ?_ NB123_130.out _; (with_reducible repeat (first | refine blk_drewN ?_ _ | refine blk_drew ?_ | refine blk_alloc ?_ _)); refine blk_far ?_ NB123_130.out _; (with_reducible repeat (first | refine blk_drewN ?_ _ | refine blk_drew ?_ | refine blk_alloc ?_ _)); exact BK123.out) hb); replace BK124 := Aside0.mk (blk_below (g := gb124) (o := .cells #[.bool a1_0, .int .u64 a1_1, .int .u64 a1_2] 24 (0, 0)) (by (with_reducible repeat (first | refine blk_drewN ?_ _ | refine blk_drew ?_ | refine blk_alloc ?_ _)); refine blk_far ?_ NB124_131.out _; (with_reducible repeat (first | refine blk_drewN ?_ _ | refine blk_drew ?_ | refine blk_alloc ?_ _)); refine blk_far ?_ NB124_131.out _; (with_reducible repeat (first | refine blk_drewN ?_ _ | refine blk_drew ?_ | refine blk_alloc ?_ _)); refine blk_far ?_ NB124_130.out _; (with_reducible repeat (first | refine blk_drewN ?_ _ | refine blk_drew ?_ | refine blk_alloc ?_ _)); refine blk_far ?_ NB124_130.out _; (with_reducible repeat (first | refine blk_drewN ?_ _ | refine blk_drew ?_ | refine blk_alloc ?_ _)); exact BK124.out) hb); replace BK125 := Aside0.mk (blk_below (g := gb125) (o := .cells #[.bool false, .int .u64 0, .int .u64 0] 24 (0, 0)) (by (with_reducible repeat (first | refine blk_drewN ?_ _ | refine blk_drew ?_ | refine blk_alloc ?_ _)); refine blk_far ?_ NB125_131.out _; (with_reducible repeat (first | refine blk_drewN ?_ _ | refine blk_drew ?_ | refine blk_alloc ?_ _)); refine blk_far ?_ NB125_131.out _; (with_reducible repeat (first | refine blk_drewN ?_ _ | refine blk_drew ?_ | refine blk_alloc ?_ _)); refine blk_far ?_ NB125_130.out _; (with_reducible repeat (first | refine blk_drewN ?_ _ | refine blk_drew ?_ | refine blk_alloc ?_ _)); refine blk_far ?_ NB125_130.out _; (with_reducible repeat (first | refine blk_drewN ?_ _ | refine blk_drew ?_ | refine blk_alloc ?_ _)); exact BK125.out) hb); replace BK130 := Aside0.mk (blk_below (g := gb130) (o := .cells #[.int .u64 t126, .int .u64 t127] 54 (0, 0)) (by (with_reducible repeat (first | refine blk_drewN ?_ _ | refine blk_drew ?_ | refine blk_alloc ?_ _)); refine blk_far ?_ NB130_131.out _; (with_reducible repeat (first | refine blk_drewN ?_ _ | refine blk_drew ?_ | refine blk_alloc ?_ _)); refine blk_far ?_ NB130_131.out _; (with_reducible repeat (first | refine blk_drewN ?_ _ | refine blk_drew ?_ | refine blk_alloc ?_ _)); refine blk_put (cs := #[.int .u64 t126, .int .u64 0]) ?_ 1 _ rfl; (with_reducible repeat (first | refine blk_drewN ?_ _ | refine blk_drew ?_ | refine blk_alloc ?_ _)); refine blk_put (cs := #[.int .u64 0, .int .u64 0]) ?_ 0 _ rfl; (with_reducible repeat (first | refine blk_drewN ?_ _ | refine blk_drew ?_ | refine blk_alloc ?_ _)); exact BK130.out) hb); replace BK131 := Aside0.mk (blk_below (g := gb131) (o := .cells #[.int .u64 t128, .int .u64 t129] 54 (0, 0)) (by (with_reducible repeat (first | refine blk_drewN ?_ _ | refine blk_drew ?_ | refine blk_alloc ?_ _)); refine blk_put (cs := #[.int .u64 t128, .int .u64 0]) ?_ 1 _ rfl; (with_reducible repeat (first | refine blk_drewN ?_ _ | refine blk_drew ?_ | refine blk_alloc ?_ _)); refine blk_put (cs := #[.int .u64 0, .int .u64 0]) ?_ 0 _ rfl; (with_reducible repeat (first | refine blk_drewN ?_ _ | refine blk_drew ?_ | refine blk_alloc ?_ _)); refine blk_far ?_ NB131_130.out _; (with_reducible repeat (first | refine blk_drewN ?_ _ | refine blk_drew ?_ | refine blk_alloc ?_ _)); refine blk_far ?_ NB131_130.out _; (with_reducible repeat (first | refine blk_drewN ?_ _ | refine blk_drew ?_ | refine blk_alloc ?_ _)); exact BK131.out) hb); replace HB := Aside0.mk (below_step (by repeat (first | (with_reducible first | exact HB.out | apply below_alloc | apply pw_below_drewN | apply below_drew1 | refine below_set ?_ GE123.out | refine below_set ?_ GE124.out | refine below_set ?_ GE125.out | refine below_set ?_ GE130.out | refine below_set ?_ GE131.out) | exact HB.out)) hb); (try clear hb); (try clear hb2); (try clear hk); (try clear hi)))
  replace BK123 := Aside0.mk (blk_drew BK123.out)
  replace BK124 := Aside0.mk (blk_drew BK124.out)
  replace BK125 := Aside0.mk (blk_drew BK125.out)
  replace BK130 := Aside0.mk (blk_drew BK130.out)
  replace BK131 := Aside0.mk (blk_drew BK131.out)
  replace HB := Aside0.mk (below_drew1 HB.out)
  refine start_ (n := 8) (S := fun w' => w'.cell? ⟨gb130, 0, none⟩ = some (.int .u64 t126) ∧ w'.cell? ⟨gb130, 1, none⟩ = some (.int .u64 t127) ∧ w'.cell? ⟨gb131, 0, none⟩ = some (.int .u64 t128) ∧ w'.cell? ⟨gb131, 1, none⟩ = some (.int .u64 t129) ∧ w'.cell? ⟨gb123, 0, none⟩ = some (.bool a0_0) ∧ w'.cell? ⟨gb123, 1, none⟩ = some (.int .u64 a0_1) ∧ w'.cell? ⟨gb123, 2, none⟩ = some (.int .u64 a0_2)) (ds := []) #[N,N,N,N,N,N,N,N] (by kernel_rfl) rfl rfl ⟨(blk_cell BK130.out 0).trans rfl, (blk_cell BK130.out 1).trans rfl, (blk_cell BK131.out 0).trans rfl, (blk_cell BK131.out 1).trans rfl, (blk_cell BK123.out 0).trans rfl, (blk_cell BK123.out 1).trans rfl, (blk_cell BK123.out 2).trans rfl⟩ (fun hHeld => ?_); refine with_tabW big_Add.tab5 big_Add.bits5 (fun HT_ HW_ => ?_)
  generalize w73.drew = w74 at BK123 BK124 BK125 BK130 BK131 HB hHeld ⊢
  refine pure_ (i := 3) (N := some 33) (v := ?_) (a' := ?_) #[N,N,N,Y,N,N,N,N] rfl rfl (any_of HT_.out (by kernel_rfl)) (fun _ _ _ h => h) (Or.inl ⟨by rfl, ?_⟩) ?_ ?_
  rotate_left
  ·intro w'
   go_simp
   with_reducible rfl
  rotate_left
  ·simp only [Act.put, sA, sB, sC, i64_w, i32_w]
   rfl
  refine take_ (i := 0) (N := some 30) (v := ?_) (a' := ?_) #[Y,N,N,Y,N,N,N,N] rfl rfl (take_ofW HT_.out HW_.out (by kernel_rfl)) (fun _ _ _ h => h) (Or.inl ⟨by rfl, ?_⟩) hHeld ?_ ?_
  rotate_left
  ·rintro w' ⟨s0, s1, s2, s3, s4, s5, s6⟩
   go_simp
   with_reducible rfl
  rotate_left
  ·simp only [Act.put, sA, sB, sC, i64_w, i32_w]
   rfl
  refine take_ (i := 1) (N := some 31) (v := ?_) (a' := ?_) #[Y,Y,N,Y,N,N,N,N] rfl rfl (take_ofW HT_.out HW_.out (by kernel_rfl)) (fun _ _ _ h => h) (Or.inl ⟨by rfl, ?_⟩) hHeld ?_ ?_
  rotate_left
  ·rintro w' ⟨s0, s1, s2, s3, s4, s5, s6⟩
   go_simp
   with_reducible rfl
  rotate_left
  ·simp only [Act.put, sA, sB, sC, i64_w, i32_w]
   rfl
  refine take_ (i := 4) (N := some 34) (v := ?_) (a' := ?_) #[Y,Y,N,Y,Y,N,N,N] rfl rfl (take_ofW HT_.out HW_.out (by kernel_rfl)) (fun _ _ _ h => h) (Or.inl ⟨by rfl, ?_⟩) hHeld ?_ ?_
  rotate_left
  ·rintro w' ⟨s0, s1, s2, s3, s4, s5, s6⟩
   go_simp
   with_reducible rfl
  rotate_left
  ·simp only [Act.put, sA, sB, sC, i64_w, i32_w]
   rfl
  refine one_ (i := 2) (N := some 32) #[Y,Y,Y,Y,Y,N,N,N] rfl rfl (one_of HT_.out (by kernel_rfl)) (by decide) (fun K hK => ?_)
  refine goes_ Try.func47 (by kernel_rfl) rfl #[.agg #[.int .u64 t126, .int .u64 t127], .agg #[.int .u64 t128, .int .u64 t129]] (by rfl) rfl rfl (by (try simp only [List.map_toArray, List.map_cons, List.map_nil]); first | done | rfl | (simp only [List.length_drop, List.length_take]; rfl)) ?_
  with_reducible refine (big_size_minusS.calls t126 t127 t128 t129 t138 t139 _ A44.out).mono ?_
  rintro e w75 ⟨rfl, hb⟩
  refine ⟨_, rfl, ?_⟩
  replace BK123 := bbZ BK123 hb
  replace BK124 := bbZ BK124 hb
  replace BK125 := bbZ BK125 hb
  replace BK130 := bbZ BK130 hb
  replace BK131 := bbZ BK131 hb
  replace HB := Aside0.mk (below_step HB.out hb)
  (try clear hb)
  (try clear hb2)
  (try clear hk)
  (try clear hi)
  refine hK.out _ _ ⟨(blk_cell BK130.out 0).trans rfl, (blk_cell BK130.out 1).trans rfl, (blk_cell BK131.out 0).trans rfl, (blk_cell BK131.out 1).trans rfl, (blk_cell BK123.out 0).trans rfl, (blk_cell BK123.out 1).trans rfl, (blk_cell BK123.out 2).trans rfl⟩ (fun hHeld => ?_)
  clear hK K
  refine norm_ (a' := ?_) ?_ ?_
  rotate_left
  ·show Act.put _ (some 32) _ = _
   simp only [Act.put, sA, sB, sC, i64_w, i32_w]
   rfl
  refine one_ (i := 5) (N := some 35) #[Y,Y,Y,Y,Y,Y,N,N] rfl rfl (one_of HT_.out (by kernel_rfl)) (by decide) (fun K hK => ?_)
  refine goes_ Try.func48 (by kernel_rfl) rfl #[.agg #[.int .u64 t138, .int .u64 t139], .bool a0_0] (by rfl) rfl rfl (by (try simp only [List.map_toArray, List.map_cons, List.map_nil]); first | done | rfl | (simp only [List.length_drop, List.length_take]; rfl)) ?_
  with_reducible refine (big_size_with.calls t138 t139 a0_0 t140 t141 t142 _ A45.out).mono ?_
  rintro e w76 ⟨rfl, hb⟩
  refine ⟨_, rfl, ?_⟩
  replace BK123 := bbZ BK123 hb
  replace BK124 := bbZ BK124 hb
  replace BK125 := bbZ BK125 hb
  replace BK130 := bbZ BK130 hb
  replace BK131 := bbZ BK131 hb
  replace HB := Aside0.mk (below_step HB.out hb)
  (try clear hb)
  (try clear hb2)
  (try clear hk)
  (try clear hi)
  refine hK.out _ _ ⟨(blk_cell BK130.out 0).trans rfl, (blk_cell BK130.out 1).trans rfl, (blk_cell BK131.out 0).trans rfl, (blk_cell BK131.out 1).trans rfl, (blk_cell BK123.out 0).trans rfl, (blk_cell BK123.out 1).trans rfl, (blk_cell BK123.out 2).trans rfl⟩ (fun hHeld => ?_)
  clear hK K
  refine norm_ (a' := ?_) ?_ ?_
  rotate_left
  ·show Act.put _ (some 35) _ = _
   simp only [Act.put, sA, sB, sC, i64_w, i32_w]
   rfl
  refine one_ (i := 6) (N := none) #[Y,Y,Y,Y,Y,Y,Y,N] rfl rfl (one_of HT_.out (by kernel_rfl)) (by decide) (fun K hK => ?_)
  have hs77 : w76.cell? ⟨gb125, 0, none⟩ = some (.bool false) := (blk_cell BK125.out 0).trans rfl
  have hfs77 := blk_frozen BK125.out 0
  have hns77_0 := NB123_125.out
  have hns77_1 := NB124_125.out
  have hns77_3 := NB130_125.out
  have hns77_4 := NB131_125.out
  have hms77_0 := NB125_123.out
  have hms77_1 := NB125_124.out
  have hms77_3 := NB125_130.out
  have hms77_4 := NB125_131.out
  have hs78 : w76.cell? ⟨gb125, 1, none⟩ = some (.int .u64 0) := (blk_cell BK125.out 1).trans rfl
  have hfs78 := blk_frozen BK125.out 1
  have hns78_0 := NB123_125.out
  have hns78_1 := NB124_125.out
  have hns78_3 := NB130_125.out
  have hns78_4 := NB131_125.out
  have hms78_0 := NB125_123.out
  have hms78_1 := NB125_124.out
  have hms78_3 := NB125_130.out
  have hms78_4 := NB125_131.out
  have hs79 : w76.cell? ⟨gb125, 2, none⟩ = some (.int .u64 0) := (blk_cell BK125.out 2).trans rfl
  have hfs79 := blk_frozen BK125.out 2
  have hns79_0 := NB123_125.out
  have hns79_1 := NB124_125.out
  have hns79_3 := NB130_125.out
  have hns79_4 := NB131_125.out
  have hms79_0 := NB125_123.out
  have hms79_1 := NB125_124.out
  have hms79_3 := NB125_130.out
  have hms79_4 := NB125_131.out
  refine skip_ (w1 := ?_) (by rfl) rfl ?_ ?_
  rotate_left
  ·go_simp
   rfl
  refine hK.out _ _ ⟨((cell_far (p := ⟨gb125, _, none⟩) NB130_125.out _).trans (((cell_far (p := ⟨gb125, _, none⟩) NB130_125.out _).trans (((cell_far (p := ⟨gb125, _, none⟩) NB130_125.out _).trans (hHeld.1)))))), ((cell_far (p := ⟨gb125, _, none⟩) NB130_125.out _).trans (((cell_far (p := ⟨gb125, _, none⟩) NB130_125.out _).trans (((cell_far (p := ⟨gb125, _, none⟩) NB130_125.out _).trans (hHeld.2.1)))))), ((cell_far (p := ⟨gb125, _, none⟩) NB131_125.out _).trans (((cell_far (p := ⟨gb125, _, none⟩) NB131_125.out _).trans (((cell_far (p := ⟨gb125, _, none⟩) NB131_125.out _).trans (hHeld.2.2.1)))))), ((cell_far (p := ⟨gb125, _, none⟩) NB131_125.out _).trans (((cell_far (p := ⟨gb125, _, none⟩) NB131_125.out _).trans (((cell_far (p := ⟨gb125, _, none⟩) NB131_125.out _).trans (hHeld.2.2.2.1)))))), ((cell_far (p := ⟨gb125, _, none⟩) NB123_125.out _).trans (((cell_far (p := ⟨gb125, _, none⟩) NB123_125.out _).trans (((cell_far (p := ⟨gb125, _, none⟩) NB123_125.out _).trans (hHeld.2.2.2.2.1)))))), ((cell_far (p := ⟨gb125, _, none⟩) NB123_125.out _).trans (((cell_far (p := ⟨gb125, _, none⟩) NB123_125.out _).trans (((cell_far (p := ⟨gb125, _, none⟩) NB123_125.out _).trans (hHeld.2.2.2.2.2.1)))))), ((cell_far (p := ⟨gb125, _, none⟩) NB123_125.out _).trans (((cell_far (p := ⟨gb125, _, none⟩) NB123_125.out _).trans (((cell_far (p := ⟨gb125, _, none⟩) NB123_125.out _).trans (hHeld.2.2.2.2.2.2))))))⟩ (fun hHeld => ?_)
  clear hK K
  refine pure_ (i := 7) (N := some 5) (v := ?_) (a' := ?_) #[Y,Y,Y,Y,Y,Y,Y,Y] rfl rfl (any_of HT_.out (by kernel_rfl)) (fun _ _ _ h => h) (Or.inl ⟨by rfl, ?_⟩) ?_ ?_
  rotate_left
  ·intro w'
   go_simp
   with_reducible rfl
  rotate_left
  ·simp only [Act.put, sA, sB, sC, i64_w, i32_w]
   rfl
  refine done_ (done_of HT_.out (by kernel_rfl)) ?_
  try go_wp2
  refine bodyPost_ret (results_ct rfl _ _ gb125 24 #[.bool t140, .int .u64 t141, .int .u64 t142] (0, 0) _ rfl (by (with_reducible repeat (first | refine blk_drewN ?_ _ | refine blk_drew ?_ | refine blk_alloc ?_ _)); refine blk_put (cs := #[.bool t140, .int .u64 t141, .int .u64 0]) ?_ 2 _ rfl; (with_reducible repeat (first | refine blk_drewN ?_ _ | refine blk_drew ?_ | refine blk_alloc ?_ _)); refine blk_put (cs := #[.bool t140, .int .u64 0, .int .u64 0]) ?_ 1 _ rfl; (with_reducible repeat (first | refine blk_drewN ?_ _ | refine blk_drew ?_ | refine blk_alloc ?_ _)); refine blk_put (cs := #[.bool false, .int .u64 0, .int .u64 0]) ?_ 0 _ rfl; (with_reducible repeat (first | refine blk_drewN ?_ _ | refine blk_drew ?_ | refine blk_alloc ?_ _)); exact BK125.out) Try.underlying24 rfl (by kernel_rfl)) rfl ?_
  exact ⟨by first | rfl | (simp [errW_none, errW_some] <;> rfl) | (simp [*, errW_none, errW_some] <;> rfl), by repeat (first | (with_reducible first | exact HB.out | apply below_alloc | apply pw_below_drewN | apply below_drew1 | refine below_set ?_ GE123.out | refine below_set ?_ GE124.out | refine below_set ?_ GE125.out | refine below_set ?_ GE130.out | refine below_set ?_ GE131.out) | exact HB.out)⟩

end Go.Proofs.Ytkoeehacildioaa.Px
