/- Printed by a program of this session (wip/tool/px.py), over the kit's print: for each Go function a Lean function, and the proof that the machine's call answers as that function says. Conditions: none beside what the theorems state. -/
import Derived.Test.YtepmnfjcmppghaaPx0
import Derived.Test.YtepmnfjcmppghaaPx3
import Derived.Test.YtepmnfjcmppghaaPx4
import Derived.Test.YtepmnfjcmppghaaPx6
import Derived.Test.YtepmnfjcmppghaaPx7
import Derived.Test.YtepmnfjcmppghaaPx8A
namespace Go.Proofs.Ytepmnfjcmppghaa.Px
open Go.RowKit Go.Proofs.YtepmnfjcmppghaaW.PrintWords Go.Proofs.YtepmnfjcmppghaaW.PrintLast Go.Proofs.YtepmnfjcmppghaaW.PrintMore
attribute [local go_sem] max2_int min2_int max_two min_two max_three min_three max_four min_four   -- for this text's walks alone
set_option linter.unusedVariables false
set_option linter.unusedSimpArgs false


set_option maxHeartbeats 8000000 in
set_option maxRecDepth 100000 in
theorem big_Add.calls_b (a0_0 : Bool) (a0_1 : Int) (a0_2 : Int) (a1_0 : Bool) (a1_1 : Int) (a1_2 : Int) (r1 : Bool) (r2 : Int) (r3 : Int) (r4 : Int) (w : World) (h : big_Add.f a0_0 a0_1 a0_2 a1_0 a1_1 a1_2 = some (r1, r2, r3, r4)) (hpart : ¬ ((a0_0 != a1_0) = true)) :
 Calls Try.prog 54 #[.agg #[.bool a0_0, .int .u64 a0_1, .int .u64 a0_2], .agg #[.bool a1_0, .int .u64 a1_1, .int .u64 a1_2]] w fun e w' => e = .returned (.tuple #[.agg #[.bool r1, .int .u64 r2, .int .u64 r3], .int .i64 r4]) ∧ Below w.heap.size w w' := by
 have hu60 := Try.underlying60
 have hu83 := Try.underlying83
 have HB := Aside0.mk (Below.refl w.heap.size w)
 have H : ((big_of.f a0_0 a0_1 a0_2).bind fun bt127 => ((big_of.f a1_0 a1_1 a1_2).bind fun bt129 => (if (a0_0 != a1_0) = true then ((big_size_cmpS.f bt127.1 bt127.2 bt129.1 bt129.2).bind fun t133 => (if t133 < 0 then ((big_size_minusS.f bt129.1 bt129.2 bt127.1 bt127.2).bind fun bt134 => ((big_size_with.f bt134.1 bt134.2 a1_0).bind fun bt136 => (some (bt136.1, bt136.2.1, bt136.2.2, 0)))) else ((big_size_minusS.f bt127.1 bt127.2 bt129.1 bt129.2).bind fun bt139 => ((big_size_with.f bt139.1 bt139.2 a0_0).bind fun bt141 => (some (bt141.1, bt141.2.1, bt141.2.2, 0)))))) else ((bits_Add64.f bt127.2 bt129.2 0).bind fun bt144 => ((bits_Add64.f bt127.1 bt129.1 bt144.2).bind fun bt146 => (if bt146.2 > 0 then (some (false, 0, 0, 10)) else ((big_size_with.f bt146.1 bt144.1 a0_0).bind fun bt148 => (some (bt148.1, bt148.2.1, bt148.2.2, 0))))))))) = some (r1, r2, r3, r4) := h
 clear h
 replace H := Option.bind_eq_some_iff.mp H
 obtain ⟨⟨t127, t128⟩, A30, H⟩ := H
 try dsimp only at H
 have A3 := Aside0.mk A30
 clear A30
 replace H := Option.bind_eq_some_iff.mp H
 obtain ⟨⟨t129, t130⟩, A40, H⟩ := H
 try dsimp only at H
 have A4 := Aside0.mk A40
 clear A40
 have c5 := hpart
 rw [if_neg c5] at H
 have c5b0 : (a0_0 != a1_0) = false := by simpa using c5
 (try (have c5b1 : decide (a0_0 = a1_0) = true := by simpa using c5))
 (try (have c5b2 : (a0_0 == a1_0) = true := by simpa using c5))
 clear c5
 replace H := Option.bind_eq_some_iff.mp H
 obtain ⟨⟨t144, t145⟩, A800, H⟩ := H
 try dsimp only at H
 have A80 := Aside0.mk A800
 clear A800
 replace H := Option.bind_eq_some_iff.mp H
 obtain ⟨⟨t146, t147⟩, A810, H⟩ := H
 replace H : (if t147 > 0 then (some (false, 0, 0, 10)) else ((big_size_with.f t146 t144 a0_0).bind fun bt148 => (some (bt148.1, bt148.2.1, bt148.2.2, 0)))) = some (r1, r2, r3, r4) := H
 have A81 := Aside0.mk A810
 clear A810
 by_cases c82 : t147 > 0
 ·rw [if_pos c82] at H
  have c82b0 : decide (0 < t147) = true := decide_eq_true c82
  clear c82
  simp only [Option.some.injEq, Prod.mk.injEq] at H
  obtain ⟨rfl, rfl, rfl, rfl⟩ := H
  go_enter Try.func54, Try.ntmps54
  try go_wp2_with (first | ((with_reducible refine gate_dst (N := 2) rfl ?_); refine box_event ?hg (N := 2) ?hd (cs := #[.bool a0_0, .int .u64 a0_1, .int .u64 a0_2]) (t := 60) ?hr ?_; (case hd => rfl); (case hg => rfl); (case hr => first | (go_simp; done) | (go_simp; rfl)); intro gb124 hg w83 hbox hb; have BK124 := Aside0.mk (hbox); have GW124 := Aside0.mk ((by rw [hg]; exact (below_size (by repeat (first | (with_reducible first | exact HB.out | apply below_alloc | apply pw_below_drewN | apply below_drew1) | exact HB.out))) : w.heap.size ≤ gb124)); have GE124 := Aside0.mk ((by rw [hg]; exact (below_size (by repeat (first | (with_reducible first | exact HB.out | apply below_alloc | apply pw_below_drewN | apply below_drew1) | exact HB.out))) : w.heap.size ≤ gb124)); replace HB := Aside0.mk (below_step (by repeat (first | (with_reducible first | exact HB.out | apply below_alloc | apply pw_below_drewN | apply below_drew1) | exact HB.out)) hb); clear hb hbox hg) | ((with_reducible refine gate_dst (N := 3) rfl ?_); refine box_event ?hg (N := 3) ?hd (cs := #[.bool a1_0, .int .u64 a1_1, .int .u64 a1_2]) (t := 60) ?hr ?_; (case hd => rfl); (case hg => rfl); (case hr => first | (go_simp; done) | (go_simp; rfl)); intro gb125 hg w84 hbox hb; have BK125 := Aside0.mk (hbox); have GW125 := Aside0.mk ((by rw [hg]; exact (below_size (by repeat (first | (with_reducible first | exact HB.out | apply below_alloc | apply pw_below_drewN | apply below_drew1 | refine below_set ?_ GE124.out) | exact HB.out))) : w.heap.size ≤ gb125)); have GE125 := Aside0.mk ((by rw [hg]; exact (below_size (by repeat (first | (with_reducible first | exact HB.out | apply below_alloc | apply pw_below_drewN | apply below_drew1 | refine below_set ?_ GE124.out) | exact HB.out))) : w.heap.size ≤ gb125)); have NB124_125 := Aside0.mk ((by rw [hg]; exact Nat.ne_of_lt (blk_lt (g := gb124) (o := .cells #[.bool a0_0, .int .u64 a0_1, .int .u64 a0_2] 60 (0, 0)) (by (with_reducible repeat (first | refine blk_drewN ?_ _ | refine blk_drew ?_ | refine blk_alloc ?_ _)); exact BK124.out)) : gb124 ≠ gb125)); have NB125_124 := Aside0.mk ((by rw [hg]; exact Nat.ne_of_gt (blk_lt (g := gb124) (o := .cells #[.bool a0_0, .int .u64 a0_1, .int .u64 a0_2] 60 (0, 0)) (by (with_reducible repeat (first | refine blk_drewN ?_ _ | refine blk_drew ?_ | refine blk_alloc ?_ _)); exact BK124.out)) : gb125 ≠ gb124)); replace BK124 := Aside0.mk (blk_below (g := gb124) (o := .cells #[.bool a0_0, .int .u64 a0_1, .int .u64 a0_2] 60 (0, 0)) (by (with_reducible repeat (first | refine blk_drewN ?_ _ | refine blk_drew ?_ | refine blk_alloc ?_ _)); exact BK124.out) hb); replace HB := Aside0.mk (below_step (by repeat (first | (with_reducible first | exact HB.out | apply below_alloc | apply pw_below_drewN | apply below_drew1 | refine below_set ?_ GE124.out) | exact HB.out)) hb); clear hb hbox hg) | ((with_reducible refine gate_dst (N := 4) rfl ?_); refine box_event ?hg (N := 4) ?hd (cs := #[.bool false, .int .u64 0, .int .u64 0]) (t := 60) ?hr ?_; (case hd => rfl); (case hg => rfl); (case hr => first | (go_simp; done) | (go_simp; rfl)); intro gb126 hg w85 hbox hb; have BK126 := Aside0.mk (hbox); have GW126 := Aside0.mk ((by rw [hg]; exact (below_size (by repeat (first | (with_reducible first | exact HB.out | apply below_alloc | apply pw_below_drewN | apply below_drew1 | refine below_set ?_ GE124.out | refine below_set ?_ GE125.out) | exact HB.out))) : w.heap.size ≤ gb126)); have GE126 := Aside0.mk ((by rw [hg]; exact (below_size (by repeat (first | (with_reducible first | exact HB.out | apply below_alloc | apply pw_below_drewN | apply below_drew1 | refine below_set ?_ GE124.out | refine below_set ?_ GE125.out) | exact HB.out))) : w.heap.size ≤ gb126)); have NB124_126 := Aside0.mk ((by rw [hg]; exact Nat.ne_of_lt (blk_lt (g := gb124) (o := .cells #[.bool a0_0, .int .u64 a0_1, .int .u64 a0_2] 60 (0, 0)) (by (with_reducible repeat (first | refine blk_drewN ?_ _ | refine blk_drew ?_ | refine blk_alloc ?_ _)); exact BK124.out)) : gb124 ≠ gb126)); have NB126_124 := Aside0.mk ((by rw [hg]; exact Nat.ne_of_gt (blk_lt (g := gb124) (o := .cells #[.bool a0_0, .int .u64 a0_1, .int .u64 a0_2] 60 (0, 0)) (by (with_reducible repeat (first | refine blk_drewN ?_ _ | refine blk_drew ?_ | refine blk_alloc ?_ _)); exact BK124.out)) : gb126 ≠ gb124)); have NB125_126 := Aside0.mk ((by rw [hg]; exact Nat.ne_of_lt (blk_lt (g := gb125) (o := .cells #[.bool a1_0, .int .u64 a1_1, .int .u64 a1_2] 60 (0, 0)) (by (with_reducible repeat (first | refine blk_drewN ?_ _ | refine blk_drew ?_ | refine blk_alloc ?_ _)); exact BK125.out)) : gb125 ≠ gb126)); have NB126_125 := Aside0.mk ((by rw [hg]; exact Nat.ne_of_gt (blk_lt (g := gb125) (o := .cells #[.bool a1_0, .int .u64 a1_1, .int .u64 a1_2] 60 (0, 0)) (by (with_reducible repeat (first | refine blk_drewN ?_ _ | refine blk_drew ?_ | refine blk_alloc ?_ _)); exact BK125.out)) : gb126 ≠ gb125)); replace BK124 := Aside0.mk (blk_below (g := gb124) (o := .cells #[.bool a0_0, .int .u64 a0_1, .int .u64 a0_2] 60 (0, 0)) (by (with_reducible repeat (first | refine blk_drewN ?_ _ | refine blk_drew ?_ | refine blk_alloc ?_ _)); exact BK124.out) hb); replace BK125 := Aside0.mk (blk_below (g := gb125) (o := .cells #[.bool a1_0, .int .u64 a1_1, .int .u64 a1_2] 60 (0, 0)) (by (with_reducible repeat (first | refine blk_drewN ?_ _ | refine blk_drew ?_ | refine blk_alloc ?_ _)); exact BK125.out) hb); replace HB := Aside0.mk (below_step (by repeat (first | (with_reducible first | exact HB.out | apply below_alloc | apply pw_below_drewN | apply below_drew1 | refine below_set ?_ GE124.out | refine below_set ?_ GE125.out) | exact HB.out)) hb); clear hb hbox hg))
  replace BK124 := Aside0.mk (blk_drew BK124.out)
  replace BK125 := Aside0.mk (blk_drew BK125.out)
  replace BK126 := Aside0.mk (blk_drew BK126.out)
  replace HB := Aside0.mk (below_drew1 HB.out)
  refine start_ (n := 8) (S := fun w' => w'.cell? ⟨gb124, 0, none⟩ = some (.bool a0_0) ∧ w'.cell? ⟨gb124, 1, none⟩ = some (.int .u64 a0_1) ∧ w'.cell? ⟨gb124, 2, none⟩ = some (.int .u64 a0_2) ∧ w'.cell? ⟨gb125, 0, none⟩ = some (.bool a1_0) ∧ w'.cell? ⟨gb125, 1, none⟩ = some (.int .u64 a1_1) ∧ w'.cell? ⟨gb125, 2, none⟩ = some (.int .u64 a1_2)) (ds := []) #[N,N,N,N,N,N,N,N] (by kernel_rfl) rfl rfl ⟨(blk_cell BK124.out 0).trans rfl, (blk_cell BK124.out 1).trans rfl, (blk_cell BK124.out 2).trans rfl, (blk_cell BK125.out 0).trans rfl, (blk_cell BK125.out 1).trans rfl, (blk_cell BK125.out 2).trans rfl⟩ (fun hHeld => ?_); refine with_tabW big_Add.tab1 big_Add.bits1 (fun HT_ HW_ => ?_)
  generalize w85.drew = w86 at BK124 BK125 BK126 HB hHeld ⊢
  refine take_ (i := 0) (N := some 11) (v := ?_) (a' := ?_) #[Y,N,N,N,N,N,N,N] rfl rfl (take_ofW HT_.out HW_.out (by kernel_rfl)) (fun _ _ _ h => h) (Or.inl ⟨by rfl, ?_⟩) hHeld ?_ ?_
  rotate_left
  ·rintro w' ⟨s0, s1, s2, s3, s4, s5⟩
   go_simp
   with_reducible rfl
  rotate_left
  ·simp only [Act.put, sA, sB, sC, i64_w, i32_w]
   rfl
  refine take_ (i := 2) (N := some 13) (v := ?_) (a' := ?_) #[Y,N,Y,N,N,N,N,N] rfl rfl (take_ofW HT_.out HW_.out (by kernel_rfl)) (fun _ _ _ h => h) (Or.inl ⟨by rfl, ?_⟩) hHeld ?_ ?_
  rotate_left
  ·rintro w' ⟨s0, s1, s2, s3, s4, s5⟩
   go_simp
   with_reducible rfl
  rotate_left
  ·simp only [Act.put, sA, sB, sC, i64_w, i32_w]
   rfl
  refine join_ (σ := Nat × Nat) 2 #[Y,Y,Y,Y,Y,Y,N,N] (fun s_ => [(12, .agg #[.int .u64 t127, .int .u64 t128]), (14, .agg #[.int .u64 t129, .int .u64 t130]), (6, .pointer (some ⟨s_.1, 0, none⟩)), (7, .pointer (some ⟨s_.2, 0, none⟩))]) (fun s_ w' => (w'.cell? ⟨gb124, 0, none⟩ = some (.bool a0_0) ∧ w'.cell? ⟨gb124, 1, none⟩ = some (.int .u64 a0_1) ∧ w'.cell? ⟨gb124, 2, none⟩ = some (.int .u64 a0_2) ∧ w'.cell? ⟨gb125, 0, none⟩ = some (.bool a1_0) ∧ w'.cell? ⟨gb125, 1, none⟩ = some (.int .u64 a1_1) ∧ w'.cell? ⟨gb125, 2, none⟩ = some (.int .u64 a1_2)) ∧ (w'.heap[gb124]? = some (.cells #[.bool a0_0, .int .u64 a0_1, .int .u64 a0_2] 60 (0, 0))) ∧ (w'.heap[gb125]? = some (.cells #[.bool a1_0, .int .u64 a1_1, .int .u64 a1_2] 60 (0, 0))) ∧ (w'.heap[gb126]? = some (.cells #[.bool false, .int .u64 0, .int .u64 0] 60 (0, 0))) ∧ (w'.heap[s_.1]? = some (.cells #[.int .u64 0, .int .u64 0] 83 (0, 0))) ∧ (w'.heap[s_.2]? = some (.cells #[.int .u64 0, .int .u64 0] 83 (0, 0))) ∧ (w.heap.size ≤ s_.1) ∧ (w.heap.size ≤ s_.1) ∧ (gb124 ≠ s_.1) ∧ (s_.1 ≠ gb124) ∧ (gb125 ≠ s_.1) ∧ (s_.1 ≠ gb125) ∧ (gb126 ≠ s_.1) ∧ (s_.1 ≠ gb126) ∧ (s_.2 ≠ s_.1) ∧ (s_.1 ≠ s_.2) ∧ (w.heap.size ≤ s_.2) ∧ (w.heap.size ≤ s_.2) ∧ (gb124 ≠ s_.2) ∧ (s_.2 ≠ gb124) ∧ (gb125 ≠ s_.2) ∧ (s_.2 ≠ gb125) ∧ (gb126 ≠ s_.2) ∧ (s_.2 ≠ gb126) ∧ (Below w.heap.size w w')) ?_ ?_
  rotate_left
  ·intro hJ1_3_4_5
   refine join_ (σ := Nat) 3 #[Y,Y,Y,Y,Y,N,N,N] (fun s_ => [(12, .agg #[.int .u64 t127, .int .u64 t128]), (14, .agg #[.int .u64 t129, .int .u64 t130]), (6, .pointer (some ⟨s_, 0, none⟩))]) (fun s_ w' => (w'.cell? ⟨gb124, 0, none⟩ = some (.bool a0_0) ∧ w'.cell? ⟨gb124, 1, none⟩ = some (.int .u64 a0_1) ∧ w'.cell? ⟨gb124, 2, none⟩ = some (.int .u64 a0_2) ∧ w'.cell? ⟨gb125, 0, none⟩ = some (.bool a1_0) ∧ w'.cell? ⟨gb125, 1, none⟩ = some (.int .u64 a1_1) ∧ w'.cell? ⟨gb125, 2, none⟩ = some (.int .u64 a1_2)) ∧ (w'.heap[gb124]? = some (.cells #[.bool a0_0, .int .u64 a0_1, .int .u64 a0_2] 60 (0, 0))) ∧ (w'.heap[gb125]? = some (.cells #[.bool a1_0, .int .u64 a1_1, .int .u64 a1_2] 60 (0, 0))) ∧ (w'.heap[gb126]? = some (.cells #[.bool false, .int .u64 0, .int .u64 0] 60 (0, 0))) ∧ (w'.heap[s_]? = some (.cells #[.int .u64 0, .int .u64 0] 83 (0, 0))) ∧ (w.heap.size ≤ s_) ∧ (w.heap.size ≤ s_) ∧ (gb124 ≠ s_) ∧ (s_ ≠ gb124) ∧ (gb125 ≠ s_) ∧ (s_ ≠ gb125) ∧ (gb126 ≠ s_) ∧ (s_ ≠ gb126) ∧ (Below w.heap.size w w')) ?_ ?_
   rotate_left
   ·intro hJ1_3_4
    refine join_ (σ := Nat) 3 #[Y,Y,Y,Y,N,Y,N,N] (fun s_ => [(12, .agg #[.int .u64 t127, .int .u64 t128]), (14, .agg #[.int .u64 t129, .int .u64 t130]), (7, .pointer (some ⟨s_, 0, none⟩))]) (fun s_ w' => (w'.cell? ⟨gb124, 0, none⟩ = some (.bool a0_0) ∧ w'.cell? ⟨gb124, 1, none⟩ = some (.int .u64 a0_1) ∧ w'.cell? ⟨gb124, 2, none⟩ = some (.int .u64 a0_2) ∧ w'.cell? ⟨gb125, 0, none⟩ = some (.bool a1_0) ∧ w'.cell? ⟨gb125, 1, none⟩ = some (.int .u64 a1_1) ∧ w'.cell? ⟨gb125, 2, none⟩ = some (.int .u64 a1_2)) ∧ (w'.heap[gb124]? = some (.cells #[.bool a0_0, .int .u64 a0_1, .int .u64 a0_2] 60 (0, 0))) ∧ (w'.heap[gb125]? = some (.cells #[.bool a1_0, .int .u64 a1_1, .int .u64 a1_2] 60 (0, 0))) ∧ (w'.heap[gb126]? = some (.cells #[.bool false, .int .u64 0, .int .u64 0] 60 (0, 0))) ∧ (w'.heap[s_]? = some (.cells #[.int .u64 0, .int .u64 0] 83 (0, 0))) ∧ (w.heap.size ≤ s_) ∧ (w.heap.size ≤ s_) ∧ (gb124 ≠ s_) ∧ (s_ ≠ gb124) ∧ (gb125 ≠ s_) ∧ (s_ ≠ gb125) ∧ (gb126 ≠ s_) ∧ (s_ ≠ gb126) ∧ (Below w.heap.size w w')) ?_ ?_
    rotate_left
    ·intro hJ1_3_5
     refine join_ (σ := Nat × Nat) 3 #[Y,Y,Y,N,Y,Y,N,N] (fun s_ => [(12, .agg #[.int .u64 t127, .int .u64 t128]), (6, .pointer (some ⟨s_.1, 0, none⟩)), (7, .pointer (some ⟨s_.2, 0, none⟩))]) (fun s_ w' => (w'.cell? ⟨gb124, 0, none⟩ = some (.bool a0_0) ∧ w'.cell? ⟨gb124, 1, none⟩ = some (.int .u64 a0_1) ∧ w'.cell? ⟨gb124, 2, none⟩ = some (.int .u64 a0_2) ∧ w'.cell? ⟨gb125, 0, none⟩ = some (.bool a1_0) ∧ w'.cell? ⟨gb125, 1, none⟩ = some (.int .u64 a1_1) ∧ w'.cell? ⟨gb125, 2, none⟩ = some (.int .u64 a1_2)) ∧ (w'.heap[gb124]? = some (.cells #[.bool a0_0, .int .u64 a0_1, .int .u64 a0_2] 60 (0, 0))) ∧ (w'.heap[gb125]? = some (.cells #[.bool a1_0, .int .u64 a1_1, .int .u64 a1_2] 60 (0, 0))) ∧ (w'.heap[gb126]? = some (.cells #[.bool false, .int .u64 0, .int .u64 0] 60 (0, 0))) ∧ (w'.heap[s_.1]? = some (.cells #[.int .u64 0, .int .u64 0] 83 (0, 0))) ∧ (w'.heap[s_.2]? = some (.cells #[.int .u64 0, .int .u64 0] 83 (0, 0))) ∧ (w.heap.size ≤ s_.1) ∧ (w.heap.size ≤ s_.1) ∧ (gb124 ≠ s_.1) ∧ (s_.1 ≠ gb124) ∧ (gb125 ≠ s_.1) ∧ (s_.1 ≠ gb125) ∧ (gb126 ≠ s_.1) ∧ (s_.1 ≠ gb126) ∧ (s_.2 ≠ s_.1) ∧ (s_.1 ≠ s_.2) ∧ (w.heap.size ≤ s_.2) ∧ (w.heap.size ≤ s_.2) ∧ (gb124 ≠ s_.2) ∧ (s_.2 ≠ gb124) ∧ (gb125 ≠ s_.2) ∧ (s_.2 ≠ gb125) ∧ (gb126 ≠ s_.2) ∧ (s_.2 ≠ gb126) ∧ (Below w.heap.size w w')) ?_ ?_
     rotate_left
     ·intro hJ1_4_5
      refine join_ (σ := Unit) 4 #[Y,Y,Y,Y,N,N,N,N] (fun s_ => [(12, .agg #[.int .u64 t127, .int .u64 t128]), (14, .agg #[.int .u64 t129, .int .u64 t130])]) (fun s_ w' => (w'.cell? ⟨gb124, 0, none⟩ = some (.bool a0_0) ∧ w'.cell? ⟨gb124, 1, none⟩ = some (.int .u64 a0_1) ∧ w'.cell? ⟨gb124, 2, none⟩ = some (.int .u64 a0_2) ∧ w'.cell? ⟨gb125, 0, none⟩ = some (.bool a1_0) ∧ w'.cell? ⟨gb125, 1, none⟩ = some (.int .u64 a1_1) ∧ w'.cell? ⟨gb125, 2, none⟩ = some (.int .u64 a1_2)) ∧ (w'.heap[gb124]? = some (.cells #[.bool a0_0, .int .u64 a0_1, .int .u64 a0_2] 60 (0, 0))) ∧ (w'.heap[gb125]? = some (.cells #[.bool a1_0, .int .u64 a1_1, .int .u64 a1_2] 60 (0, 0))) ∧ (w'.heap[gb126]? = some (.cells #[.bool false, .int .u64 0, .int .u64 0] 60 (0, 0))) ∧ (Below w.heap.size w w')) ?_ ?_
      rotate_left
      ·intro hJ1_3
       refine join_ (σ := Nat) 4 #[Y,Y,Y,N,Y,N,N,N] (fun s_ => [(12, .agg #[.int .u64 t127, .int .u64 t128]), (6, .pointer (some ⟨s_, 0, none⟩))]) (fun s_ w' => (w'.cell? ⟨gb124, 0, none⟩ = some (.bool a0_0) ∧ w'.cell? ⟨gb124, 1, none⟩ = some (.int .u64 a0_1) ∧ w'.cell? ⟨gb124, 2, none⟩ = some (.int .u64 a0_2) ∧ w'.cell? ⟨gb125, 0, none⟩ = some (.bool a1_0) ∧ w'.cell? ⟨gb125, 1, none⟩ = some (.int .u64 a1_1) ∧ w'.cell? ⟨gb125, 2, none⟩ = some (.int .u64 a1_2)) ∧ (w'.heap[gb124]? = some (.cells #[.bool a0_0, .int .u64 a0_1, .int .u64 a0_2] 60 (0, 0))) ∧ (w'.heap[gb125]? = some (.cells #[.bool a1_0, .int .u64 a1_1, .int .u64 a1_2] 60 (0, 0))) ∧ (w'.heap[gb126]? = some (.cells #[.bool false, .int .u64 0, .int .u64 0] 60 (0, 0))) ∧ (w'.heap[s_]? = some (.cells #[.int .u64 0, .int .u64 0] 83 (0, 0))) ∧ (w.heap.size ≤ s_) ∧ (w.heap.size ≤ s_) ∧ (gb124 ≠ s_) ∧ (s_ ≠ gb124) ∧ (gb125 ≠ s_) ∧ (s_ ≠ gb125) ∧ (gb126 ≠ s_) ∧ (s_ ≠ gb126) ∧ (Below w.heap.size w w')) ?_ ?_
       rotate_left
       ·intro hJ1_4
        refine join_ (σ := Nat) 4 #[Y,Y,Y,N,N,Y,N,N] (fun s_ => [(12, .agg #[.int .u64 t127, .int .u64 t128]), (7, .pointer (some ⟨s_, 0, none⟩))]) (fun s_ w' => (w'.cell? ⟨gb124, 0, none⟩ = some (.bool a0_0) ∧ w'.cell? ⟨gb124, 1, none⟩ = some (.int .u64 a0_1) ∧ w'.cell? ⟨gb124, 2, none⟩ = some (.int .u64 a0_2) ∧ w'.cell? ⟨gb125, 0, none⟩ = some (.bool a1_0) ∧ w'.cell? ⟨gb125, 1, none⟩ = some (.int .u64 a1_1) ∧ w'.cell? ⟨gb125, 2, none⟩ = some (.int .u64 a1_2)) ∧ (w'.heap[gb124]? = some (.cells #[.bool a0_0, .int .u64 a0_1, .int .u64 a0_2] 60 (0, 0))) ∧ (w'.heap[gb125]? = some (.cells #[.bool a1_0, .int .u64 a1_1, .int .u64 a1_2] 60 (0, 0))) ∧ (w'.heap[gb126]? = some (.cells #[.bool false, .int .u64 0, .int .u64 0] 60 (0, 0))) ∧ (w'.heap[s_]? = some (.cells #[.int .u64 0, .int .u64 0] 83 (0, 0))) ∧ (w.heap.size ≤ s_) ∧ (w.heap.size ≤ s_) ∧ (gb124 ≠ s_) ∧ (s_ ≠ gb124) ∧ (gb125 ≠ s_) ∧ (s_ ≠ gb125) ∧ (gb126 ≠ s_) ∧ (s_ ≠ gb126) ∧ (Below w.heap.size w w')) ?_ ?_
        rotate_left
        ·intro hJ1_5
         refine join_ (σ := Nat × Nat) 4 #[Y,N,Y,N,Y,Y,N,N] (fun s_ => [(6, .pointer (some ⟨s_.1, 0, none⟩)), (7, .pointer (some ⟨s_.2, 0, none⟩))]) (fun s_ w' => (w'.cell? ⟨gb124, 0, none⟩ = some (.bool a0_0) ∧ w'.cell? ⟨gb124, 1, none⟩ = some (.int .u64 a0_1) ∧ w'.cell? ⟨gb124, 2, none⟩ = some (.int .u64 a0_2) ∧ w'.cell? ⟨gb125, 0, none⟩ = some (.bool a1_0) ∧ w'.cell? ⟨gb125, 1, none⟩ = some (.int .u64 a1_1) ∧ w'.cell? ⟨gb125, 2, none⟩ = some (.int .u64 a1_2)) ∧ (w'.heap[gb124]? = some (.cells #[.bool a0_0, .int .u64 a0_1, .int .u64 a0_2] 60 (0, 0))) ∧ (w'.heap[gb125]? = some (.cells #[.bool a1_0, .int .u64 a1_1, .int .u64 a1_2] 60 (0, 0))) ∧ (w'.heap[gb126]? = some (.cells #[.bool false, .int .u64 0, .int .u64 0] 60 (0, 0))) ∧ (w'.heap[s_.1]? = some (.cells #[.int .u64 0, .int .u64 0] 83 (0, 0))) ∧ (w'.heap[s_.2]? = some (.cells #[.int .u64 0, .int .u64 0] 83 (0, 0))) ∧ (w.heap.size ≤ s_.1) ∧ (w.heap.size ≤ s_.1) ∧ (gb124 ≠ s_.1) ∧ (s_.1 ≠ gb124) ∧ (gb125 ≠ s_.1) ∧ (s_.1 ≠ gb125) ∧ (gb126 ≠ s_.1) ∧ (s_.1 ≠ gb126) ∧ (s_.2 ≠ s_.1) ∧ (s_.1 ≠ s_.2) ∧ (w.heap.size ≤ s_.2) ∧ (w.heap.size ≤ s_.2) ∧ (gb124 ≠ s_.2) ∧ (s_.2 ≠ gb124) ∧ (gb125 ≠ s_.2) ∧ (s_.2 ≠ gb125) ∧ (gb126 ≠ s_.2) ∧ (s_.2 ≠ gb126) ∧ (Below w.heap.size w w')) ?_ ?_
         rotate_left
         ·intro hJ4_5
          refine join_ (σ := Unit) 5 #[Y,Y,Y,N,N,N,N,N] (fun s_ => [(12, .agg #[.int .u64 t127, .int .u64 t128])]) (fun s_ w' => (w'.cell? ⟨gb124, 0, none⟩ = some (.bool a0_0) ∧ w'.cell? ⟨gb124, 1, none⟩ = some (.int .u64 a0_1) ∧ w'.cell? ⟨gb124, 2, none⟩ = some (.int .u64 a0_2) ∧ w'.cell? ⟨gb125, 0, none⟩ = some (.bool a1_0) ∧ w'.cell? ⟨gb125, 1, none⟩ = some (.int .u64 a1_1) ∧ w'.cell? ⟨gb125, 2, none⟩ = some (.int .u64 a1_2)) ∧ (w'.heap[gb124]? = some (.cells #[.bool a0_0, .int .u64 a0_1, .int .u64 a0_2] 60 (0, 0))) ∧ (w'.heap[gb125]? = some (.cells #[.bool a1_0, .int .u64 a1_1, .int .u64 a1_2] 60 (0, 0))) ∧ (w'.heap[gb126]? = some (.cells #[.bool false, .int .u64 0, .int .u64 0] 60 (0, 0))) ∧ (Below w.heap.size w w')) ?_ ?_
          rotate_left
          ·intro hJ1
           refine join_ (σ := Nat) 5 #[Y,N,Y,N,Y,N,N,N] (fun s_ => [(6, .pointer (some ⟨s_, 0, none⟩))]) (fun s_ w' => (w'.cell? ⟨gb124, 0, none⟩ = some (.bool a0_0) ∧ w'.cell? ⟨gb124, 1, none⟩ = some (.int .u64 a0_1) ∧ w'.cell? ⟨gb124, 2, none⟩ = some (.int .u64 a0_2) ∧ w'.cell? ⟨gb125, 0, none⟩ = some (.bool a1_0) ∧ w'.cell? ⟨gb125, 1, none⟩ = some (.int .u64 a1_1) ∧ w'.cell? ⟨gb125, 2, none⟩ = some (.int .u64 a1_2)) ∧ (w'.heap[gb124]? = some (.cells #[.bool a0_0, .int .u64 a0_1, .int .u64 a0_2] 60 (0, 0))) ∧ (w'.heap[gb125]? = some (.cells #[.bool a1_0, .int .u64 a1_1, .int .u64 a1_2] 60 (0, 0))) ∧ (w'.heap[gb126]? = some (.cells #[.bool false, .int .u64 0, .int .u64 0] 60 (0, 0))) ∧ (w'.heap[s_]? = some (.cells #[.int .u64 0, .int .u64 0] 83 (0, 0))) ∧ (w.heap.size ≤ s_) ∧ (w.heap.size ≤ s_) ∧ (gb124 ≠ s_) ∧ (s_ ≠ gb124) ∧ (gb125 ≠ s_) ∧ (s_ ≠ gb125) ∧ (gb126 ≠ s_) ∧ (s_ ≠ gb126) ∧ (Below w.heap.size w w')) ?_ ?_
           rotate_left
           ·intro hJ4
            refine join_ (σ := Nat) 5 #[Y,N,Y,N,N,Y,N,N] (fun s_ => [(7, .pointer (some ⟨s_, 0, none⟩))]) (fun s_ w' => (w'.cell? ⟨gb124, 0, none⟩ = some (.bool a0_0) ∧ w'.cell? ⟨gb124, 1, none⟩ = some (.int .u64 a0_1) ∧ w'.cell? ⟨gb124, 2, none⟩ = some (.int .u64 a0_2) ∧ w'.cell? ⟨gb125, 0, none⟩ = some (.bool a1_0) ∧ w'.cell? ⟨gb125, 1, none⟩ = some (.int .u64 a1_1) ∧ w'.cell? ⟨gb125, 2, none⟩ = some (.int .u64 a1_2)) ∧ (w'.heap[gb124]? = some (.cells #[.bool a0_0, .int .u64 a0_1, .int .u64 a0_2] 60 (0, 0))) ∧ (w'.heap[gb125]? = some (.cells #[.bool a1_0, .int .u64 a1_1, .int .u64 a1_2] 60 (0, 0))) ∧ (w'.heap[gb126]? = some (.cells #[.bool false, .int .u64 0, .int .u64 0] 60 (0, 0))) ∧ (w'.heap[s_]? = some (.cells #[.int .u64 0, .int .u64 0] 83 (0, 0))) ∧ (w.heap.size ≤ s_) ∧ (w.heap.size ≤ s_) ∧ (gb124 ≠ s_) ∧ (s_ ≠ gb124) ∧ (gb125 ≠ s_) ∧ (s_ ≠ gb125) ∧ (gb126 ≠ s_) ∧ (s_ ≠ gb126) ∧ (Below w.heap.size w w')) ?_ ?_
            rotate_left
            ·intro hJ5
             refine three_ (i := 1) (j := 4) (k := 5) (Ni := some 12) (Nj := some 6) (Nk := some 7) #[Y,Y,Y,N,N,N,N,N] #[Y,N,Y,N,Y,N,N,N] #[Y,N,Y,N,N,Y,N,N] rfl rfl rfl rfl rfl rfl (three_of HT_.out (by kernel_rfl)) (by decide) (by decide) (by decide) (fun K hK => ?_) (fun K hK => ?_) (fun K hK => ?_)
             ·skip
              refine goes_ Try.func70 (by kernel_rfl) rfl #[.agg #[.bool a0_0, .int .u64 a0_1, .int .u64 a0_2]] (by rfl) rfl rfl (by (try simp only [List.map_toArray, List.map_cons, List.map_nil]); first | done | rfl | (simp only [List.length_drop, List.length_take]; rfl)) ?_
              with_reducible refine (big_of.calls a0_0 a0_1 a0_2 t127 t128 _ A3.out).mono ?_
              rintro e w87 ⟨rfl, hb⟩
              refine ⟨_, rfl, ?_⟩
              replace BK124 := bbZ BK124 hb
              replace BK125 := bbZ BK125 hb
              replace BK126 := bbZ BK126 hb
              replace HB := Aside0.mk (below_step HB.out hb)
              (try clear hb)
              (try clear hb2)
              (try clear hk)
              (try clear hi)
              refine hK.out _ _ ⟨(blk_cell BK124.out 0).trans rfl, (blk_cell BK124.out 1).trans rfl, (blk_cell BK124.out 2).trans rfl, (blk_cell BK125.out 0).trans rfl, (blk_cell BK125.out 1).trans rfl, (blk_cell BK125.out 2).trans rfl⟩ (fun hHeld => ?_)
              clear hK K
              refine norm_ (a' := ?_) ?_ ?_
              rotate_left
              ·show Act.put _ (some 12) _ = _
               simp only [Act.put, sA, sB, sC, i64_w, i32_w]
               rfl
              exact norm_ (by simp only [putAll, Act.put, sA, sB, sC] <;> rfl) (hJ1 () _ ⟨hHeld, BK124.out, BK125.out, BK126.out, (by repeat (first | (with_reducible first | exact HB.out | apply below_alloc | apply pw_below_drewN | apply below_drew1 | refine below_set ?_ GE124.out | refine below_set ?_ GE125.out | refine below_set ?_ GE126.out) | exact HB.out))⟩)
             ·skip
              refine box_step ?hg (N := 6) ?hd (cs := #[.int .u64 0, .int .u64 0]) (t := 83) ?hr ?_; (case hd => rfl); (case hg => rfl); (case hr => first | (go_simp; done) | (go_simp; rfl))
              intro gb131 hg w87 hbox hb
              have BK131 := Aside0.mk (hbox)
              have GW131 := szZ HB hg
              have GE131 := szZ HB hg
              have NB124_131 := nlZ BK124 hg
              have NB131_124 := ngZ BK124 hg
              have NB125_131 := nlZ BK125 hg
              have NB131_125 := ngZ BK125 hg
              have NB126_131 := nlZ BK126 hg
              have NB131_126 := ngZ BK126 hg
              replace BK124 := bbZ BK124 hb
              replace BK125 := bbZ BK125 hb
              replace BK126 := bbZ BK126 hb
              replace HB := Aside0.mk (below_step HB.out hb)
              clear hb hbox hg
              refine hK.out _ _ ⟨(blk_cell BK124.out 0).trans rfl, (blk_cell BK124.out 1).trans rfl, (blk_cell BK124.out 2).trans rfl, (blk_cell BK125.out 0).trans rfl, (blk_cell BK125.out 1).trans rfl, (blk_cell BK125.out 2).trans rfl⟩ (fun hHeld => ?_)
              clear hK K
              refine norm_ (a' := ?_) ?_ ?_
              rotate_left
              ·show Act.put _ (some 6) _ = _
               simp only [Act.put, sA, sB, sC, i64_w, i32_w]
               rfl
              exact norm_ (by simp only [putAll, Act.put, sA, sB, sC] <;> rfl) (hJ4 (gb131) _ ⟨hHeld, BK124.out, BK125.out, BK126.out, BK131.out, GW131.out, GE131.out, NB124_131.out, NB131_124.out, NB125_131.out, NB131_125.out, NB126_131.out, NB131_126.out, (by repeat (first | (with_reducible first | exact HB.out | apply below_alloc | apply pw_below_drewN | apply below_drew1 | refine below_set ?_ GE124.out | refine below_set ?_ GE125.out | refine below_set ?_ GE126.out | refine below_set ?_ GE131.out) | exact HB.out))⟩)
             ·skip
              refine box_step ?hg (N := 7) ?hd (cs := #[.int .u64 0, .int .u64 0]) (t := 83) ?hr ?_; (case hd => rfl); (case hg => rfl); (case hr => first | (go_simp; done) | (go_simp; rfl))
              intro gb132 hg w87 hbox hb
              have BK132 := Aside0.mk (hbox)
              have GW132 := szZ HB hg
              have GE132 := szZ HB hg
              have NB124_132 := nlZ BK124 hg
              have NB132_124 := ngZ BK124 hg
              have NB125_132 := nlZ BK125 hg
              have NB132_125 := ngZ BK125 hg
              have NB126_132 := nlZ BK126 hg
              have NB132_126 := ngZ BK126 hg
              replace BK124 := bbZ BK124 hb
              replace BK125 := bbZ BK125 hb
              replace BK126 := bbZ BK126 hb
              replace HB := Aside0.mk (below_step HB.out hb)
              clear hb hbox hg
              refine hK.out _ _ ⟨(blk_cell BK124.out 0).trans rfl, (blk_cell BK124.out 1).trans rfl, (blk_cell BK124.out 2).trans rfl, (blk_cell BK125.out 0).trans rfl, (blk_cell BK125.out 1).trans rfl, (blk_cell BK125.out 2).trans rfl⟩ (fun hHeld => ?_)
              clear hK K
              refine norm_ (a' := ?_) ?_ ?_
              rotate_left
              ·show Act.put _ (some 7) _ = _
               simp only [Act.put, sA, sB, sC, i64_w, i32_w]
               rfl
              exact norm_ (by simp only [putAll, Act.put, sA, sB, sC] <;> rfl) (hJ5 (gb132) _ ⟨hHeld, BK124.out, BK125.out, BK126.out, BK132.out, GW132.out, GE132.out, NB124_132.out, NB132_124.out, NB125_132.out, NB132_125.out, NB126_132.out, NB132_126.out, (by repeat (first | (with_reducible first | exact HB.out | apply below_alloc | apply pw_below_drewN | apply below_drew1 | refine below_set ?_ GE124.out | refine below_set ?_ GE125.out | refine below_set ?_ GE126.out | refine below_set ?_ GE132.out) | exact HB.out))⟩)
            ·skip
             rintro gb132 w88 ⟨hS_, h0_, h1_, h2_, h3_, h4_, h5_, h6_, h7_, h8_, h9_, h10_, h11_, h12_⟩
             have BK132 := Aside0.mk h3_
             have GW132 := Aside0.mk h4_
             have GE132 := Aside0.mk h5_
             have NB124_132 := Aside0.mk h6_
             have NB132_124 := Aside0.mk h7_
             have NB125_132 := Aside0.mk h8_
             have NB132_125 := Aside0.mk h9_
             have NB126_132 := Aside0.mk h10_
             have NB132_126 := Aside0.mk h11_
             replace BK124 := Aside0.mk h0_
             replace BK125 := Aside0.mk h1_
             replace BK126 := Aside0.mk h2_
             replace HB := Aside0.mk h12_
             clear h0_ h1_ h2_ h3_ h4_ h5_ h6_ h7_ h8_ h9_ h10_ h11_ h12_
             have hHeld : w88.cell? ⟨gb124, 0, none⟩ = some (.bool a0_0) ∧ w88.cell? ⟨gb124, 1, none⟩ = some (.int .u64 a0_1) ∧ w88.cell? ⟨gb124, 2, none⟩ = some (.int .u64 a0_2) ∧ w88.cell? ⟨gb125, 0, none⟩ = some (.bool a1_0) ∧ w88.cell? ⟨gb125, 1, none⟩ = some (.int .u64 a1_1) ∧ w88.cell? ⟨gb125, 2, none⟩ = some (.int .u64 a1_2) := hS_
             refine norm_ (a' := ?_) ?_ ?_
             rotate_left
             ·simp only [putAll, Act.put, sA, sB, sC]
              rfl
             refine two_ (i := 1) (j := 4) (Ni := some 12) (Nj := some 6) #[Y,Y,Y,N,N,Y,N,N] #[Y,N,Y,N,Y,Y,N,N] rfl rfl rfl rfl (two_of HT_.out (by kernel_rfl)) (by decide) (by decide) (fun K hK => ?_) (fun K hK => ?_)
             ·skip
              refine goes_ Try.func70 (by kernel_rfl) rfl #[.agg #[.bool a0_0, .int .u64 a0_1, .int .u64 a0_2]] (by rfl) rfl rfl (by (try simp only [List.map_toArray, List.map_cons, List.map_nil]); first | done | rfl | (simp only [List.length_drop, List.length_take]; rfl)) ?_
              with_reducible refine (big_of.calls a0_0 a0_1 a0_2 t127 t128 _ A3.out).mono ?_
              rintro e w89 ⟨rfl, hb⟩
              refine ⟨_, rfl, ?_⟩
              replace BK124 := bbZ BK124 hb
              replace BK125 := bbZ BK125 hb
              replace BK126 := bbZ BK126 hb
              replace BK132 := bbZ BK132 hb
              replace HB := Aside0.mk (below_step HB.out hb)
              (try clear hb)
              (try clear hb2)
              (try clear hk)
              (try clear hi)
              refine hK.out _ _ ⟨(blk_cell BK124.out 0).trans rfl, (blk_cell BK124.out 1).trans rfl, (blk_cell BK124.out 2).trans rfl, (blk_cell BK125.out 0).trans rfl, (blk_cell BK125.out 1).trans rfl, (blk_cell BK125.out 2).trans rfl⟩ (fun hHeld => ?_)
              clear hK K
              refine norm_ (a' := ?_) ?_ ?_
              rotate_left
              ·show Act.put _ (some 12) _ = _
               simp only [Act.put, sA, sB, sC, i64_w, i32_w]
               rfl
              exact norm_ (by simp only [putAll, Act.put, sA, sB, sC] <;> rfl) (hJ1_5 (gb132) _ ⟨hHeld, BK124.out, BK125.out, BK126.out, BK132.out, GW132.out, GE132.out, NB124_132.out, NB132_124.out, NB125_132.out, NB132_125.out, NB126_132.out, NB132_126.out, (by repeat (first | (with_reducible first | exact HB.out | apply below_alloc | apply pw_below_drewN | apply below_drew1 | refine below_set ?_ GE124.out | refine below_set ?_ GE125.out | refine below_set ?_ GE126.out | refine below_set ?_ GE132.out) | exact HB.out))⟩)
             ·skip
              refine box_step ?hg (N := 6) ?hd (cs := #[.int .u64 0, .int .u64 0]) (t := 83) ?hr ?_; (case hd => rfl); (case hg => rfl); (case hr => first | (go_simp; done) | (go_simp; rfl))
              intro gb131 hg w89 hbox hb
              have BK131 := Aside0.mk (hbox)
              have GW131 := szZ HB hg
              have GE131 := szZ HB hg
              have NB124_131 := nlZ BK124 hg
              have NB131_124 := ngZ BK124 hg
              have NB125_131 := nlZ BK125 hg
              have NB131_125 := ngZ BK125 hg
              have NB126_131 := nlZ BK126 hg
              have NB131_126 := ngZ BK126 hg
              have NB132_131 := nlZ BK132 hg
              have NB131_132 := ngZ BK132 hg
              replace BK124 := bbZ BK124 hb
              replace BK125 := bbZ BK125 hb
              replace BK126 := bbZ BK126 hb
              replace BK132 := bbZ BK132 hb
              replace HB := Aside0.mk (below_step HB.out hb)
              clear hb hbox hg
              refine hK.out _ _ ⟨(blk_cell BK124.out 0).trans rfl, (blk_cell BK124.out 1).trans rfl, (blk_cell BK124.out 2).trans rfl, (blk_cell BK125.out 0).trans rfl, (blk_cell BK125.out 1).trans rfl, (blk_cell BK125.out 2).trans rfl⟩ (fun hHeld => ?_)
              clear hK K
              refine norm_ (a' := ?_) ?_ ?_
              rotate_left
              ·show Act.put _ (some 6) _ = _
               simp only [Act.put, sA, sB, sC, i64_w, i32_w]
               rfl
              exact norm_ (by simp only [putAll, Act.put, sA, sB, sC] <;> rfl) (hJ4_5 (gb131, gb132) _ ⟨hHeld, BK124.out, BK125.out, BK126.out, BK131.out, BK132.out, GW131.out, GE131.out, NB124_131.out, NB131_124.out, NB125_131.out, NB131_125.out, NB126_131.out, NB131_126.out, NB132_131.out, NB131_132.out, GW132.out, GE132.out, NB124_132.out, NB132_124.out, NB125_132.out, NB132_125.out, NB126_132.out, NB132_126.out, (by repeat (first | (with_reducible first | exact HB.out | apply below_alloc | apply pw_below_drewN | apply below_drew1 | refine below_set ?_ GE124.out | refine below_set ?_ GE125.out | refine below_set ?_ GE126.out | refine below_set ?_ GE132.out | refine below_set ?_ GE131.out) | exact HB.out))⟩)
           ·skip
            rintro gb131 w88 ⟨hS_, h0_, h1_, h2_, h3_, h4_, h5_, h6_, h7_, h8_, h9_, h10_, h11_, h12_⟩
            have BK131 := Aside0.mk h3_
            have GW131 := Aside0.mk h4_
            have GE131 := Aside0.mk h5_
            have NB124_131 := Aside0.mk h6_
            have NB131_124 := Aside0.mk h7_
            have NB125_131 := Aside0.mk h8_
            have NB131_125 := Aside0.mk h9_
            have NB126_131 := Aside0.mk h10_
            have NB131_126 := Aside0.mk h11_
            replace BK124 := Aside0.mk h0_
            replace BK125 := Aside0.mk h1_
            replace BK126 := Aside0.mk h2_
            replace HB := Aside0.mk h12_
            clear h0_ h1_ h2_ h3_ h4_ h5_ h6_ h7_ h8_ h9_ h10_ h11_ h12_
            have hHeld : w88.cell? ⟨gb124, 0, none⟩ = some (.bool a0_0) ∧ w88.cell? ⟨gb124, 1, none⟩ = some (.int .u64 a0_1) ∧ w88.cell? ⟨gb124, 2, none⟩ = some (.int .u64 a0_2) ∧ w88.cell? ⟨gb125, 0, none⟩ = some (.bool a1_0) ∧ w88.cell? ⟨gb125, 1, none⟩ = some (.int .u64 a1_1) ∧ w88.cell? ⟨gb125, 2, none⟩ = some (.int .u64 a1_2) := hS_
            refine norm_ (a' := ?_) ?_ ?_
            rotate_left
            ·simp only [putAll, Act.put, sA, sB, sC]
             rfl
            refine two_ (i := 1) (j := 5) (Ni := some 12) (Nj := some 7) #[Y,Y,Y,N,Y,N,N,N] #[Y,N,Y,N,Y,Y,N,N] rfl rfl rfl rfl (two_of HT_.out (by kernel_rfl)) (by decide) (by decide) (fun K hK => ?_) (fun K hK => ?_)
            ·skip
             refine goes_ Try.func70 (by kernel_rfl) rfl #[.agg #[.bool a0_0, .int .u64 a0_1, .int .u64 a0_2]] (by rfl) rfl rfl (by (try simp only [List.map_toArray, List.map_cons, List.map_nil]); first | done | rfl | (simp only [List.length_drop, List.length_take]; rfl)) ?_
             with_reducible refine (big_of.calls a0_0 a0_1 a0_2 t127 t128 _ A3.out).mono ?_
             rintro e w89 ⟨rfl, hb⟩
             refine ⟨_, rfl, ?_⟩
             replace BK124 := bbZ BK124 hb
             replace BK125 := bbZ BK125 hb
             replace BK126 := bbZ BK126 hb
             replace BK131 := bbZ BK131 hb
             replace HB := Aside0.mk (below_step HB.out hb)
             (try clear hb)
             (try clear hb2)
             (try clear hk)
             (try clear hi)
             refine hK.out _ _ ⟨(blk_cell BK124.out 0).trans rfl, (blk_cell BK124.out 1).trans rfl, (blk_cell BK124.out 2).trans rfl, (blk_cell BK125.out 0).trans rfl, (blk_cell BK125.out 1).trans rfl, (blk_cell BK125.out 2).trans rfl⟩ (fun hHeld => ?_)
             clear hK K
             refine norm_ (a' := ?_) ?_ ?_
             rotate_left
             ·show Act.put _ (some 12) _ = _
              simp only [Act.put, sA, sB, sC, i64_w, i32_w]
              rfl
             exact norm_ (by simp only [putAll, Act.put, sA, sB, sC] <;> rfl) (hJ1_4 (gb131) _ ⟨hHeld, BK124.out, BK125.out, BK126.out, BK131.out, GW131.out, GE131.out, NB124_131.out, NB131_124.out, NB125_131.out, NB131_125.out, NB126_131.out, NB131_126.out, (by repeat (first | (with_reducible first | exact HB.out | apply below_alloc | apply pw_below_drewN | apply below_drew1 | refine below_set ?_ GE124.out | refine below_set ?_ GE125.out | refine below_set ?_ GE126.out | refine below_set ?_ GE131.out) | exact HB.out))⟩)
            ·skip
             refine box_step ?hg (N := 7) ?hd (cs := #[.int .u64 0, .int .u64 0]) (t := 83) ?hr ?_; (case hd => rfl); (case hg => rfl); (case hr => first | (go_simp; done) | (go_simp; rfl))
             intro gb132 hg w89 hbox hb
             have BK132 := Aside0.mk (hbox)
             have GW132 := szZ HB hg
             have GE132 := szZ HB hg
             have NB124_132 := nlZ BK124 hg
             have NB132_124 := ngZ BK124 hg
             have NB125_132 := nlZ BK125 hg
             have NB132_125 := ngZ BK125 hg
             have NB126_132 := nlZ BK126 hg
             have NB132_126 := ngZ BK126 hg
             have NB131_132 := nlZ BK131 hg
             have NB132_131 := ngZ BK131 hg
             replace BK124 := bbZ BK124 hb
             replace BK125 := bbZ BK125 hb
             replace BK126 := bbZ BK126 hb
             replace BK131 := bbZ BK131 hb
             replace HB := Aside0.mk (below_step HB.out hb)
             clear hb hbox hg
             refine hK.out _ _ ⟨(blk_cell BK124.out 0).trans rfl, (blk_cell BK124.out 1).trans rfl, (blk_cell BK124.out 2).trans rfl, (blk_cell BK125.out 0).trans rfl, (blk_cell BK125.out 1).trans rfl, (blk_cell BK125.out 2).trans rfl⟩ (fun hHeld => ?_)
             clear hK K
             refine norm_ (a' := ?_) ?_ ?_
             rotate_left
             ·show Act.put _ (some 7) _ = _
              simp only [Act.put, sA, sB, sC, i64_w, i32_w]
              rfl
             exact norm_ (by simp only [putAll, Act.put, sA, sB, sC] <;> rfl) (hJ4_5 (gb131, gb132) _ ⟨hHeld, BK124.out, BK125.out, BK126.out, BK131.out, BK132.out, GW131.out, GE131.out, NB124_131.out, NB131_124.out, NB125_131.out, NB131_125.out, NB126_131.out, NB131_126.out, NB132_131.out, NB131_132.out, GW132.out, GE132.out, NB124_132.out, NB132_124.out, NB125_132.out, NB132_125.out, NB126_132.out, NB132_126.out, (by repeat (first | (with_reducible first | exact HB.out | apply below_alloc | apply pw_below_drewN | apply below_drew1 | refine below_set ?_ GE124.out | refine below_set ?_ GE125.out | refine below_set ?_ GE126.out | refine below_set ?_ GE131.out | refine below_set ?_ GE132.out) | exact HB.out))⟩)
          ·skip
           rintro _ w88 ⟨hS_, h0_, h1_, h2_, h3_⟩
           replace BK124 := Aside0.mk h0_
           replace BK125 := Aside0.mk h1_
           replace BK126 := Aside0.mk h2_
           replace HB := Aside0.mk h3_
           clear h0_ h1_ h2_ h3_
           have hHeld : w88.cell? ⟨gb124, 0, none⟩ = some (.bool a0_0) ∧ w88.cell? ⟨gb124, 1, none⟩ = some (.int .u64 a0_1) ∧ w88.cell? ⟨gb124, 2, none⟩ = some (.int .u64 a0_2) ∧ w88.cell? ⟨gb125, 0, none⟩ = some (.bool a1_0) ∧ w88.cell? ⟨gb125, 1, none⟩ = some (.int .u64 a1_1) ∧ w88.cell? ⟨gb125, 2, none⟩ = some (.int .u64 a1_2) := hS_
           refine norm_ (a' := ?_) ?_ ?_
           rotate_left
           ·simp only [putAll, Act.put, sA, sB, sC]
            rfl
           refine three_ (i := 3) (j := 4) (k := 5) (Ni := some 14) (Nj := some 6) (Nk := some 7) #[Y,Y,Y,Y,N,N,N,N] #[Y,Y,Y,N,Y,N,N,N] #[Y,Y,Y,N,N,Y,N,N] rfl rfl rfl rfl rfl rfl (three_of HT_.out (by kernel_rfl)) (by decide) (by decide) (by decide) (fun K hK => ?_) (fun K hK => ?_) (fun K hK => ?_)
           ·skip
            refine goes_ Try.func70 (by kernel_rfl) rfl #[.agg #[.bool a1_0, .int .u64 a1_1, .int .u64 a1_2]] (by rfl) rfl rfl (by (try simp only [List.map_toArray, List.map_cons, List.map_nil]); first | done | rfl | (simp only [List.length_drop, List.length_take]; rfl)) ?_
            with_reducible refine (big_of.calls a1_0 a1_1 a1_2 t129 t130 _ A4.out).mono ?_
            rintro e w89 ⟨rfl, hb⟩
            refine ⟨_, rfl, ?_⟩
            replace BK124 := bbZ BK124 hb
            replace BK125 := bbZ BK125 hb
            replace BK126 := bbZ BK126 hb
            replace HB := Aside0.mk (below_step HB.out hb)
            (try clear hb)
            (try clear hb2)
            (try clear hk)
            (try clear hi)
            refine hK.out _ _ ⟨(blk_cell BK124.out 0).trans rfl, (blk_cell BK124.out 1).trans rfl, (blk_cell BK124.out 2).trans rfl, (blk_cell BK125.out 0).trans rfl, (blk_cell BK125.out 1).trans rfl, (blk_cell BK125.out 2).trans rfl⟩ (fun hHeld => ?_)
            clear hK K
            refine norm_ (a' := ?_) ?_ ?_
            rotate_left
            ·show Act.put _ (some 14) _ = _
             simp only [Act.put, sA, sB, sC, i64_w, i32_w]
             rfl
            exact norm_ (by simp only [putAll, Act.put, sA, sB, sC] <;> rfl) (hJ1_3 () _ ⟨hHeld, BK124.out, BK125.out, BK126.out, (by repeat (first | (with_reducible first | exact HB.out | apply below_alloc | apply pw_below_drewN | apply below_drew1 | refine below_set ?_ GE124.out | refine below_set ?_ GE125.out | refine below_set ?_ GE126.out) | exact HB.out))⟩)
           ·skip
            refine box_step ?hg (N := 6) ?hd (cs := #[.int .u64 0, .int .u64 0]) (t := 83) ?hr ?_; (case hd => rfl); (case hg => rfl); (case hr => first | (go_simp; done) | (go_simp; rfl))
            intro gb131 hg w89 hbox hb
            have BK131 := Aside0.mk (hbox)
            have GW131 := szZ HB hg
            have GE131 := szZ HB hg
            have NB124_131 := nlZ BK124 hg
            have NB131_124 := ngZ BK124 hg
            have NB125_131 := nlZ BK125 hg
            have NB131_125 := ngZ BK125 hg
            have NB126_131 := nlZ BK126 hg
            have NB131_126 := ngZ BK126 hg
            replace BK124 := bbZ BK124 hb
            replace BK125 := bbZ BK125 hb
            replace BK126 := bbZ BK126 hb
            replace HB := Aside0.mk (below_step HB.out hb)
            clear hb hbox hg
            refine hK.out _ _ ⟨(blk_cell BK124.out 0).trans rfl, (blk_cell BK124.out 1).trans rfl, (blk_cell BK124.out 2).trans rfl, (blk_cell BK125.out 0).trans rfl, (blk_cell BK125.out 1).trans rfl, (blk_cell BK125.out 2).trans rfl⟩ (fun hHeld => ?_)
            clear hK K
            refine norm_ (a' := ?_) ?_ ?_
            rotate_left
            ·show Act.put _ (some 6) _ = _
             simp only [Act.put, sA, sB, sC, i64_w, i32_w]
             rfl
            exact norm_ (by simp only [putAll, Act.put, sA, sB, sC] <;> rfl) (hJ1_4 (gb131) _ ⟨hHeld, BK124.out, BK125.out, BK126.out, BK131.out, GW131.out, GE131.out, NB124_131.out, NB131_124.out, NB125_131.out, NB131_125.out, NB126_131.out, NB131_126.out, (by repeat (first | (with_reducible first | exact HB.out | apply below_alloc | apply pw_below_drewN | apply below_drew1 | refine below_set ?_ GE124.out | refine below_set ?_ GE125.out | refine below_set ?_ GE126.out | refine below_set ?_ GE131.out) | exact HB.out))⟩)
           ·skip
            refine box_step ?hg (N := 7) ?hd (cs := #[.int .u64 0, .int .u64 0]) (t := 83) ?hr ?_; (case hd => rfl); (case hg => rfl); (case hr => first | (go_simp; done) | (go_simp; rfl))
            intro gb132 hg w89 hbox hb
            have BK132 := Aside0.mk (hbox)
            have GW132 := szZ HB hg
            have GE132 := szZ HB hg
            have NB124_132 := nlZ BK124 hg
            have NB132_124 := ngZ BK124 hg
            have NB125_132 := nlZ BK125 hg
            have NB132_125 := ngZ BK125 hg
            have NB126_132 := nlZ BK126 hg
            have NB132_126 := ngZ BK126 hg
            replace BK124 := bbZ BK124 hb
            replace BK125 := bbZ BK125 hb
            replace BK126 := bbZ BK126 hb
            replace HB := Aside0.mk (below_step HB.out hb)
            clear hb hbox hg
            refine hK.out _ _ ⟨(blk_cell BK124.out 0).trans rfl, (blk_cell BK124.out 1).trans rfl, (blk_cell BK124.out 2).trans rfl, (blk_cell BK125.out 0).trans rfl, (blk_cell BK125.out 1).trans rfl, (blk_cell BK125.out 2).trans rfl⟩ (fun hHeld => ?_)
            clear hK K
            refine norm_ (a' := ?_) ?_ ?_
            rotate_left
            ·show Act.put _ (some 7) _ = _
             simp only [Act.put, sA, sB, sC, i64_w, i32_w]
             rfl
            exact norm_ (by simp only [putAll, Act.put, sA, sB, sC] <;> rfl) (hJ1_5 (gb132) _ ⟨hHeld, BK124.out, BK125.out, BK126.out, BK132.out, GW132.out, GE132.out, NB124_132.out, NB132_124.out, NB125_132.out, NB132_125.out, NB126_132.out, NB132_126.out, (by repeat (first | (with_reducible first | exact HB.out | apply below_alloc | apply pw_below_drewN | apply below_drew1 | refine below_set ?_ GE124.out | refine below_set ?_ GE125.out | refine below_set ?_ GE126.out | refine below_set ?_ GE132.out) | exact HB.out))⟩)
         ·skip
          rintro ⟨gb131, gb132⟩ w89 ⟨hS_, h0_, h1_, h2_, h3_, h4_, h5_, h6_, h7_, h8_, h9_, h10_, h11_, h12_, h13_, h14_, h15_, h16_, h17_, h18_, h19_, h20_, h21_, h22_, h23_⟩
          have BK131 := Aside0.mk h3_
          have BK132 := Aside0.mk h4_
          have GW131 := Aside0.mk h5_
          have GE131 := Aside0.mk h6_
          have NB124_131 := Aside0.mk h7_
          have NB131_124 := Aside0.mk h8_
          have NB125_131 := Aside0.mk h9_
          have NB131_125 := Aside0.mk h10_
          have NB126_131 := Aside0.mk h11_
          have NB131_126 := Aside0.mk h12_
          have NB132_131 := Aside0.mk h13_
          have NB131_132 := Aside0.mk h14_
          have GW132 := Aside0.mk h15_
          have GE132 := Aside0.mk h16_
          have NB124_132 := Aside0.mk h17_
          have NB132_124 := Aside0.mk h18_
          have NB125_132 := Aside0.mk h19_
          have NB132_125 := Aside0.mk h20_
          have NB126_132 := Aside0.mk h21_
          have NB132_126 := Aside0.mk h22_
          replace BK124 := Aside0.mk h0_
          replace BK125 := Aside0.mk h1_
          replace BK126 := Aside0.mk h2_
          replace HB := Aside0.mk h23_
          clear h0_ h1_ h2_ h3_ h4_ h5_ h6_ h7_ h8_ h9_ h10_ h11_ h12_ h13_ h14_ h15_ h16_ h17_ h18_ h19_ h20_ h21_ h22_ h23_
          have hHeld : w89.cell? ⟨gb124, 0, none⟩ = some (.bool a0_0) ∧ w89.cell? ⟨gb124, 1, none⟩ = some (.int .u64 a0_1) ∧ w89.cell? ⟨gb124, 2, none⟩ = some (.int .u64 a0_2) ∧ w89.cell? ⟨gb125, 0, none⟩ = some (.bool a1_0) ∧ w89.cell? ⟨gb125, 1, none⟩ = some (.int .u64 a1_1) ∧ w89.cell? ⟨gb125, 2, none⟩ = some (.int .u64 a1_2) := hS_
          refine norm_ (a' := ?_) ?_ ?_
          rotate_left
          ·simp only [putAll, Act.put, sA, sB, sC]
           rfl
          refine one_ (i := 1) (N := some 12) #[Y,Y,Y,N,Y,Y,N,N] rfl rfl (one_of HT_.out (by kernel_rfl)) (by decide) (fun K hK => ?_)
          refine goes_ Try.func70 (by kernel_rfl) rfl #[.agg #[.bool a0_0, .int .u64 a0_1, .int .u64 a0_2]] (by rfl) rfl rfl (by (try simp only [List.map_toArray, List.map_cons, List.map_nil]); first | done | rfl | (simp only [List.length_drop, List.length_take]; rfl)) ?_
          with_reducible refine (big_of.calls a0_0 a0_1 a0_2 t127 t128 _ A3.out).mono ?_
          rintro e w90 ⟨rfl, hb⟩
          refine ⟨_, rfl, ?_⟩
          replace BK124 := bbZ BK124 hb
          replace BK125 := bbZ BK125 hb
          replace BK126 := bbZ BK126 hb
          replace BK131 := bbZ BK131 hb
          replace BK132 := bbZ BK132 hb
          replace HB := Aside0.mk (below_step HB.out hb)
          (try clear hb)
          (try clear hb2)
          (try clear hk)
          (try clear hi)
          refine hK.out _ _ ⟨(blk_cell BK124.out 0).trans rfl, (blk_cell BK124.out 1).trans rfl, (blk_cell BK124.out 2).trans rfl, (blk_cell BK125.out 0).trans rfl, (blk_cell BK125.out 1).trans rfl, (blk_cell BK125.out 2).trans rfl⟩ (fun hHeld => ?_)
          clear hK K
          refine norm_ (a' := ?_) ?_ ?_
          rotate_left
          ·show Act.put _ (some 12) _ = _
           simp only [Act.put, sA, sB, sC, i64_w, i32_w]
           rfl
          exact norm_ (by simp only [putAll, Act.put, sA, sB, sC] <;> rfl) (hJ1_4_5 (gb131, gb132) _ ⟨hHeld, BK124.out, BK125.out, BK126.out, BK131.out, BK132.out, GW131.out, GE131.out, NB124_131.out, NB131_124.out, NB125_131.out, NB131_125.out, NB126_131.out, NB131_126.out, NB132_131.out, NB131_132.out, GW132.out, GE132.out, NB124_132.out, NB132_124.out, NB125_132.out, NB132_125.out, NB126_132.out, NB132_126.out, (by repeat (first | (with_reducible first | exact HB.out | apply below_alloc | apply pw_below_drewN | apply below_drew1 | refine below_set ?_ GE124.out | refine below_set ?_ GE125.out | refine below_set ?_ GE126.out | refine below_set ?_ GE131.out | refine below_set ?_ GE132.out) | exact HB.out))⟩)
        ·skip
         rintro gb132 w89 ⟨hS_, h0_, h1_, h2_, h3_, h4_, h5_, h6_, h7_, h8_, h9_, h10_, h11_, h12_⟩
         have BK132 := Aside0.mk h3_
         have GW132 := Aside0.mk h4_
         have GE132 := Aside0.mk h5_
         have NB124_132 := Aside0.mk h6_
         have NB132_124 := Aside0.mk h7_
         have NB125_132 := Aside0.mk h8_
         have NB132_125 := Aside0.mk h9_
         have NB126_132 := Aside0.mk h10_
         have NB132_126 := Aside0.mk h11_
         replace BK124 := Aside0.mk h0_
         replace BK125 := Aside0.mk h1_
         replace BK126 := Aside0.mk h2_
         replace HB := Aside0.mk h12_
         clear h0_ h1_ h2_ h3_ h4_ h5_ h6_ h7_ h8_ h9_ h10_ h11_ h12_
         have hHeld : w89.cell? ⟨gb124, 0, none⟩ = some (.bool a0_0) ∧ w89.cell? ⟨gb124, 1, none⟩ = some (.int .u64 a0_1) ∧ w89.cell? ⟨gb124, 2, none⟩ = some (.int .u64 a0_2) ∧ w89.cell? ⟨gb125, 0, none⟩ = some (.bool a1_0) ∧ w89.cell? ⟨gb125, 1, none⟩ = some (.int .u64 a1_1) ∧ w89.cell? ⟨gb125, 2, none⟩ = some (.int .u64 a1_2) := hS_
         refine norm_ (a' := ?_) ?_ ?_
         rotate_left
         ·simp only [putAll, Act.put, sA, sB, sC]
          rfl
         refine two_ (i := 3) (j := 4) (Ni := some 14) (Nj := some 6) #[Y,Y,Y,Y,N,Y,N,N] #[Y,Y,Y,N,Y,Y,N,N] rfl rfl rfl rfl (two_of HT_.out (by kernel_rfl)) (by decide) (by decide) (fun K hK => ?_) (fun K hK => ?_)
         ·skip
          refine goes_ Try.func70 (by kernel_rfl) rfl #[.agg #[.bool a1_0, .int .u64 a1_1, .int .u64 a1_2]] (by rfl) rfl rfl (by (try simp only [List.map_toArray, List.map_cons, List.map_nil]); first | done | rfl | (simp only [List.length_drop, List.length_take]; rfl)) ?_
          with_reducible refine (big_of.calls a1_0 a1_1 a1_2 t129 t130 _ A4.out).mono ?_
          rintro e w90 ⟨rfl, hb⟩
          refine ⟨_, rfl, ?_⟩
          replace BK124 := bbZ BK124 hb
          replace BK125 := bbZ BK125 hb
          replace BK126 := bbZ BK126 hb
          replace BK132 := bbZ BK132 hb
          replace HB := Aside0.mk (below_step HB.out hb)
          (try clear hb)
          (try clear hb2)
          (try clear hk)
          (try clear hi)
          refine hK.out _ _ ⟨(blk_cell BK124.out 0).trans rfl, (blk_cell BK124.out 1).trans rfl, (blk_cell BK124.out 2).trans rfl, (blk_cell BK125.out 0).trans rfl, (blk_cell BK125.out 1).trans rfl, (blk_cell BK125.out 2).trans rfl⟩ (fun hHeld => ?_)
          clear hK K
          refine norm_ (a' := ?_) ?_ ?_
          rotate_left
          ·show Act.put _ (some 14) _ = _
           simp only [Act.put, sA, sB, sC, i64_w, i32_w]
           rfl
          exact norm_ (by simp only [putAll, Act.put, sA, sB, sC] <;> rfl) (hJ1_3_5 (gb132) _ ⟨hHeld, BK124.out, BK125.out, BK126.out, BK132.out, GW132.out, GE132.out, NB124_132.out, NB132_124.out, NB125_132.out, NB132_125.out, NB126_132.out, NB132_126.out, (by repeat (first | (with_reducible first | exact HB.out | apply below_alloc | apply pw_below_drewN | apply below_drew1 | refine below_set ?_ GE124.out | refine below_set ?_ GE125.out | refine below_set ?_ GE126.out | refine below_set ?_ GE132.out) | exact HB.out))⟩)
         ·skip
          refine box_step ?hg (N := 6) ?hd (cs := #[.int .u64 0, .int .u64 0]) (t := 83) ?hr ?_; (case hd => rfl); (case hg => rfl); (case hr => first | (go_simp; done) | (go_simp; rfl))
          intro gb131 hg w90 hbox hb
          have BK131 := Aside0.mk (hbox)
          have GW131 := szZ HB hg
          have GE131 := szZ HB hg
          have NB124_131 := nlZ BK124 hg
          have NB131_124 := ngZ BK124 hg
          have NB125_131 := nlZ BK125 hg
          have NB131_125 := ngZ BK125 hg
          have NB126_131 := nlZ BK126 hg
          have NB131_126 := ngZ BK126 hg
          have NB132_131 := nlZ BK132 hg
          have NB131_132 := ngZ BK132 hg
          replace BK124 := bbZ BK124 hb
          replace BK125 := bbZ BK125 hb
          replace BK126 := bbZ BK126 hb
          replace BK132 := bbZ BK132 hb
          replace HB := Aside0.mk (below_step HB.out hb)
          clear hb hbox hg
          refine hK.out _ _ ⟨(blk_cell BK124.out 0).trans rfl, (blk_cell BK124.out 1).trans rfl, (blk_cell BK124.out 2).trans rfl, (blk_cell BK125.out 0).trans rfl, (blk_cell BK125.out 1).trans rfl, (blk_cell BK125.out 2).trans rfl⟩ (fun hHeld => ?_)
          clear hK K
          refine norm_ (a' := ?_) ?_ ?_
          rotate_left
          ·show Act.put _ (some 6) _ = _
           simp only [Act.put, sA, sB, sC, i64_w, i32_w]
           rfl
          exact norm_ (by simp only [putAll, Act.put, sA, sB, sC] <;> rfl) (hJ1_4_5 (gb131, gb132) _ ⟨hHeld, BK124.out, BK125.out, BK126.out, BK131.out, BK132.out, GW131.out, GE131.out, NB124_131.out, NB131_124.out, NB125_131.out, NB131_125.out, NB126_131.out, NB131_126.out, NB132_131.out, NB131_132.out, GW132.out, GE132.out, NB124_132.out, NB132_124.out, NB125_132.out, NB132_125.out, NB126_132.out, NB132_126.out, (by repeat (first | (with_reducible first | exact HB.out | apply below_alloc | apply pw_below_drewN | apply below_drew1 | refine below_set ?_ GE124.out | refine below_set ?_ GE125.out | refine below_set ?_ GE126.out | refine below_set ?_ GE132.out | refine below_set ?_ GE131.out) | exact HB.out))⟩)
       ·skip
        rintro gb131 w89 ⟨hS_, h0_, h1_, h2_, h3_, h4_, h5_, h6_, h7_, h8_, h9_, h10_, h11_, h12_⟩
        have BK131 := Aside0.mk h3_
        have GW131 := Aside0.mk h4_
        have GE131 := Aside0.mk h5_
        have NB124_131 := Aside0.mk h6_
        have NB131_124 := Aside0.mk h7_
        have NB125_131 := Aside0.mk h8_
        have NB131_125 := Aside0.mk h9_
        have NB126_131 := Aside0.mk h10_
        have NB131_126 := Aside0.mk h11_
        replace BK124 := Aside0.mk h0_
        replace BK125 := Aside0.mk h1_
        replace BK126 := Aside0.mk h2_
        replace HB := Aside0.mk h12_
        clear h0_ h1_ h2_ h3_ h4_ h5_ h6_ h7_ h8_ h9_ h10_ h11_ h12_
        have hHeld : w89.cell? ⟨gb124, 0, none⟩ = some (.bool a0_0) ∧ w89.cell? ⟨gb124, 1, none⟩ = some (.int .u64 a0_1) ∧ w89.cell? ⟨gb124, 2, none⟩ = some (.int .u64 a0_2) ∧ w89.cell? ⟨gb125, 0, none⟩ = some (.bool a1_0) ∧ w89.cell? ⟨gb125, 1, none⟩ = some (.int .u64 a1_1) ∧ w89.cell? ⟨gb125, 2, none⟩ = some (.int .u64 a1_2) := hS_
        refine norm_ (a' := ?_) ?_ ?_
        rotate_left
        ·simp only [putAll, Act.put, sA, sB, sC]
         rfl
        refine two_ (i := 3) (j := 5) (Ni := some 14) (Nj := some 7) #[Y,Y,Y,Y,Y,N,N,N] #[Y,Y,Y,N,Y,Y,N,N] rfl rfl rfl rfl (two_of HT_.out (by kernel_rfl)) (by decide) (by decide) (fun K hK => ?_) (fun K hK => ?_)
        ·skip
         refine goes_ Try.func70 (by kernel_rfl) rfl #[.agg #[.bool a1_0, .int .u64 a1_1, .int .u64 a1_2]] (by rfl) rfl rfl (by (try simp only [List.map_toArray, List.map_cons, List.map_nil]); first | done | rfl | (simp only [List.length_drop, List.length_take]; rfl)) ?_
         with_reducible refine (big_of.calls a1_0 a1_1 a1_2 t129 t130 _ A4.out).mono ?_
         rintro e w90 ⟨rfl, hb⟩
         refine ⟨_, rfl, ?_⟩
         replace BK124 := bbZ BK124 hb
         replace BK125 := bbZ BK125 hb
         replace BK126 := bbZ BK126 hb
         replace BK131 := bbZ BK131 hb
         replace HB := Aside0.mk (below_step HB.out hb)
         (try clear hb)
         (try clear hb2)
         (try clear hk)
         (try clear hi)
         refine hK.out _ _ ⟨(blk_cell BK124.out 0).trans rfl, (blk_cell BK124.out 1).trans rfl, (blk_cell BK124.out 2).trans rfl, (blk_cell BK125.out 0).trans rfl, (blk_cell BK125.out 1).trans rfl, (blk_cell BK125.out 2).trans rfl⟩ (fun hHeld => ?_)
         clear hK K
         refine norm_ (a' := ?_) ?_ ?_
         rotate_left
         ·show Act.put _ (some 14) _ = _
          simp only [Act.put, sA, sB, sC, i64_w, i32_w]
          rfl
         exact norm_ (by simp only [putAll, Act.put, sA, sB, sC] <;> rfl) (hJ1_3_4 (gb131) _ ⟨hHeld, BK124.out, BK125.out, BK126.out, BK131.out, GW131.out, GE131.out, NB124_131.out, NB131_124.out, NB125_131.out, NB131_125.out, NB126_131.out, NB131_126.out, (by repeat (first | (with_reducible first | exact HB.out | apply below_alloc | apply pw_below_drewN | apply below_drew1 | refine below_set ?_ GE124.out | refine below_set ?_ GE125.out | refine below_set ?_ GE126.out | refine below_set ?_ GE131.out) | exact HB.out))⟩)
        ·skip
         refine box_step ?hg (N := 7) ?hd (cs := #[.int .u64 0, .int .u64 0]) (t := 83) ?hr ?_; (case hd => rfl); (case hg => rfl); (case hr => first | (go_simp; done) | (go_simp; rfl))
         intro gb132 hg w90 hbox hb
         have BK132 := Aside0.mk (hbox)
         have GW132 := szZ HB hg
         have GE132 := szZ HB hg
         have NB124_132 := nlZ BK124 hg
         have NB132_124 := ngZ BK124 hg
         have NB125_132 := nlZ BK125 hg
         have NB132_125 := ngZ BK125 hg
         have NB126_132 := nlZ BK126 hg
         have NB132_126 := ngZ BK126 hg
         have NB131_132 := nlZ BK131 hg
         have NB132_131 := ngZ BK131 hg
         replace BK124 := bbZ BK124 hb
         replace BK125 := bbZ BK125 hb
         replace BK126 := bbZ BK126 hb
         replace BK131 := bbZ BK131 hb
         replace HB := Aside0.mk (below_step HB.out hb)
         clear hb hbox hg
         refine hK.out _ _ ⟨(blk_cell BK124.out 0).trans rfl, (blk_cell BK124.out 1).trans rfl, (blk_cell BK124.out 2).trans rfl, (blk_cell BK125.out 0).trans rfl, (blk_cell BK125.out 1).trans rfl, (blk_cell BK125.out 2).trans rfl⟩ (fun hHeld => ?_)
         clear hK K
         refine norm_ (a' := ?_) ?_ ?_
         rotate_left
         ·show Act.put _ (some 7) _ = _
          simp only [Act.put, sA, sB, sC, i64_w, i32_w]
          rfl
         exact norm_ (by simp only [putAll, Act.put, sA, sB, sC] <;> rfl) (hJ1_4_5 (gb131, gb132) _ ⟨hHeld, BK124.out, BK125.out, BK126.out, BK131.out, BK132.out, GW131.out, GE131.out, NB124_131.out, NB131_124.out, NB125_131.out, NB131_125.out, NB126_131.out, NB131_126.out, NB132_131.out, NB131_132.out, GW132.out, GE132.out, NB124_132.out, NB132_124.out, NB125_132.out, NB132_125.out, NB126_132.out, NB132_126.out, (by repeat (first | (with_reducible first | exact HB.out | apply below_alloc | apply pw_below_drewN | apply below_drew1 | refine below_set ?_ GE124.out | refine below_set ?_ GE125.out | refine below_set ?_ GE126.out | refine below_set ?_ GE131.out | refine below_set ?_ GE132.out) | exact HB.out))⟩)
      ·skip
       rintro _ w89 ⟨hS_, h0_, h1_, h2_, h3_⟩
       replace BK124 := Aside0.mk h0_
       replace BK125 := Aside0.mk h1_
       replace BK126 := Aside0.mk h2_
       replace HB := Aside0.mk h3_
       clear h0_ h1_ h2_ h3_
       have hHeld : w89.cell? ⟨gb124, 0, none⟩ = some (.bool a0_0) ∧ w89.cell? ⟨gb124, 1, none⟩ = some (.int .u64 a0_1) ∧ w89.cell? ⟨gb124, 2, none⟩ = some (.int .u64 a0_2) ∧ w89.cell? ⟨gb125, 0, none⟩ = some (.bool a1_0) ∧ w89.cell? ⟨gb125, 1, none⟩ = some (.int .u64 a1_1) ∧ w89.cell? ⟨gb125, 2, none⟩ = some (.int .u64 a1_2) := hS_
       refine norm_ (a' := ?_) ?_ ?_
       rotate_left
       ·simp only [putAll, Act.put, sA, sB, sC]
        rfl
       refine two_ (i := 4) (j := 5) (Ni := some 6) (Nj := some 7) #[Y,Y,Y,Y,Y,N,N,N] #[Y,Y,Y,Y,N,Y,N,N] rfl rfl rfl rfl (two_of HT_.out (by kernel_rfl)) (by decide) (by decide) (fun K hK => ?_) (fun K hK => ?_)
       ·skip
        refine box_step ?hg (N := 6) ?hd (cs := #[.int .u64 0, .int .u64 0]) (t := 83) ?hr ?_; (case hd => rfl); (case hg => rfl); (case hr => first | (go_simp; done) | (go_simp; rfl))
        intro gb131 hg w90 hbox hb
        have BK131 := Aside0.mk (hbox)
        have GW131 := szZ HB hg
        have GE131 := szZ HB hg
        have NB124_131 := nlZ BK124 hg
        have NB131_124 := ngZ BK124 hg
        have NB125_131 := nlZ BK125 hg
        have NB131_125 := ngZ BK125 hg
        have NB126_131 := nlZ BK126 hg
        have NB131_126 := ngZ BK126 hg
        replace BK124 := bbZ BK124 hb
        replace BK125 := bbZ BK125 hb
        replace BK126 := bbZ BK126 hb
        replace HB := Aside0.mk (below_step HB.out hb)
        clear hb hbox hg
        refine hK.out _ _ ⟨(blk_cell BK124.out 0).trans rfl, (blk_cell BK124.out 1).trans rfl, (blk_cell BK124.out 2).trans rfl, (blk_cell BK125.out 0).trans rfl, (blk_cell BK125.out 1).trans rfl, (blk_cell BK125.out 2).trans rfl⟩ (fun hHeld => ?_)
        clear hK K
        refine norm_ (a' := ?_) ?_ ?_
        rotate_left
        ·show Act.put _ (some 6) _ = _
         simp only [Act.put, sA, sB, sC, i64_w, i32_w]
         rfl
        exact norm_ (by simp only [putAll, Act.put, sA, sB, sC] <;> rfl) (hJ1_3_4 (gb131) _ ⟨hHeld, BK124.out, BK125.out, BK126.out, BK131.out, GW131.out, GE131.out, NB124_131.out, NB131_124.out, NB125_131.out, NB131_125.out, NB126_131.out, NB131_126.out, (by repeat (first | (with_reducible first | exact HB.out | apply below_alloc | apply pw_below_drewN | apply below_drew1 | refine below_set ?_ GE124.out | refine below_set ?_ GE125.out | refine below_set ?_ GE126.out | refine below_set ?_ GE131.out) | exact HB.out))⟩)
       ·skip
        refine box_step ?hg (N := 7) ?hd (cs := #[.int .u64 0, .int .u64 0]) (t := 83) ?hr ?_; (case hd => rfl); (case hg => rfl); (case hr => first | (go_simp; done) | (go_simp; rfl))
        intro gb132 hg w90 hbox hb
        have BK132 := Aside0.mk (hbox)
        have GW132 := szZ HB hg
        have GE132 := szZ HB hg
        have NB124_132 := nlZ BK124 hg
        have NB132_124 := ngZ BK124 hg
        have NB125_132 := nlZ BK125 hg
        have NB132_125 := ngZ BK125 hg
        have NB126_132 := nlZ BK126 hg
        have NB132_126 := ngZ BK126 hg
        replace BK124 := bbZ BK124 hb
        replace BK125 := bbZ BK125 hb
        replace BK126 := bbZ BK126 hb
        replace HB := Aside0.mk (below_step HB.out hb)
        clear hb hbox hg
        refine hK.out _ _ ⟨(blk_cell BK124.out 0).trans rfl, (blk_cell BK124.out 1).trans rfl, (blk_cell BK124.out 2).trans rfl, (blk_cell BK125.out 0).trans rfl, (blk_cell BK125.out 1).trans rfl, (blk_cell BK125.out 2).trans rfl⟩ (fun hHeld => ?_)
        clear hK K
        refine norm_ (a' := ?_) ?_ ?_
        rotate_left
        ·show Act.put _ (some 7) _ = _
         simp only [Act.put, sA, sB, sC, i64_w, i32_w]
         rfl
        exact norm_ (by simp only [putAll, Act.put, sA, sB, sC] <;> rfl) (hJ1_3_5 (gb132) _ ⟨hHeld, BK124.out, BK125.out, BK126.out, BK132.out, GW132.out, GE132.out, NB124_132.out, NB132_124.out, NB125_132.out, NB132_125.out, NB126_132.out, NB132_126.out, (by repeat (first | (with_reducible first | exact HB.out | apply below_alloc | apply pw_below_drewN | apply below_drew1 | refine below_set ?_ GE124.out | refine below_set ?_ GE125.out | refine below_set ?_ GE126.out | refine below_set ?_ GE132.out) | exact HB.out))⟩)
     ·skip
      rintro ⟨gb131, gb132⟩ w90 ⟨hS_, h0_, h1_, h2_, h3_, h4_, h5_, h6_, h7_, h8_, h9_, h10_, h11_, h12_, h13_, h14_, h15_, h16_, h17_, h18_, h19_, h20_, h21_, h22_, h23_⟩
      have BK131 := Aside0.mk h3_
      have BK132 := Aside0.mk h4_
      have GW131 := Aside0.mk h5_
      have GE131 := Aside0.mk h6_
      have NB124_131 := Aside0.mk h7_
      have NB131_124 := Aside0.mk h8_
      have NB125_131 := Aside0.mk h9_
      have NB131_125 := Aside0.mk h10_
      have NB126_131 := Aside0.mk h11_
      have NB131_126 := Aside0.mk h12_
      have NB132_131 := Aside0.mk h13_
      have NB131_132 := Aside0.mk h14_
      have GW132 := Aside0.mk h15_
      have GE132 := Aside0.mk h16_
      have NB124_132 := Aside0.mk h17_
      have NB132_124 := Aside0.mk h18_
      have NB125_132 := Aside0.mk h19_
      have NB132_125 := Aside0.mk h20_
      have NB126_132 := Aside0.mk h21_
      have NB132_126 := Aside0.mk h22_
      replace BK124 := Aside0.mk h0_
      replace BK125 := Aside0.mk h1_
      replace BK126 := Aside0.mk h2_
      replace HB := Aside0.mk h23_
      clear h0_ h1_ h2_ h3_ h4_ h5_ h6_ h7_ h8_ h9_ h10_ h11_ h12_ h13_ h14_ h15_ h16_ h17_ h18_ h19_ h20_ h21_ h22_ h23_
      have hHeld : w90.cell? ⟨gb124, 0, none⟩ = some (.bool a0_0) ∧ w90.cell? ⟨gb124, 1, none⟩ = some (.int .u64 a0_1) ∧ w90.cell? ⟨gb124, 2, none⟩ = some (.int .u64 a0_2) ∧ w90.cell? ⟨gb125, 0, none⟩ = some (.bool a1_0) ∧ w90.cell? ⟨gb125, 1, none⟩ = some (.int .u64 a1_1) ∧ w90.cell? ⟨gb125, 2, none⟩ = some (.int .u64 a1_2) := hS_
      refine norm_ (a' := ?_) ?_ ?_
      rotate_left
      ·simp only [putAll, Act.put, sA, sB, sC]
       rfl
      refine one_ (i := 3) (N := some 14) #[Y,Y,Y,Y,Y,Y,N,N] rfl rfl (one_of HT_.out (by kernel_rfl)) (by decide) (fun K hK => ?_)
      refine goes_ Try.func70 (by kernel_rfl) rfl #[.agg #[.bool a1_0, .int .u64 a1_1, .int .u64 a1_2]] (by rfl) rfl rfl (by (try simp only [List.map_toArray, List.map_cons, List.map_nil]); first | done | rfl | (simp only [List.length_drop, List.length_take]; rfl)) ?_
      with_reducible refine (big_of.calls a1_0 a1_1 a1_2 t129 t130 _ A4.out).mono ?_
      rintro e w91 ⟨rfl, hb⟩
      refine ⟨_, rfl, ?_⟩
      replace BK124 := bbZ BK124 hb
      replace BK125 := bbZ BK125 hb
      replace BK126 := bbZ BK126 hb
      replace BK131 := bbZ BK131 hb
      replace BK132 := bbZ BK132 hb
      replace HB := Aside0.mk (below_step HB.out hb)
      (try clear hb)
      (try clear hb2)
      (try clear hk)
      (try clear hi)
      refine hK.out _ _ ⟨(blk_cell BK124.out 0).trans rfl, (blk_cell BK124.out 1).trans rfl, (blk_cell BK124.out 2).trans rfl, (blk_cell BK125.out 0).trans rfl, (blk_cell BK125.out 1).trans rfl, (blk_cell BK125.out 2).trans rfl⟩ (fun hHeld => ?_)
      clear hK K
      refine norm_ (a' := ?_) ?_ ?_
      rotate_left
      ·show Act.put _ (some 14) _ = _
       simp only [Act.put, sA, sB, sC, i64_w, i32_w]
       rfl
      exact norm_ (by simp only [putAll, Act.put, sA, sB, sC] <;> rfl) (hJ1_3_4_5 (gb131, gb132) _ ⟨hHeld, BK124.out, BK125.out, BK126.out, BK131.out, BK132.out, GW131.out, GE131.out, NB124_131.out, NB131_124.out, NB125_131.out, NB131_125.out, NB126_131.out, NB131_126.out, NB132_131.out, NB131_132.out, GW132.out, GE132.out, NB124_132.out, NB132_124.out, NB125_132.out, NB132_125.out, NB126_132.out, NB132_126.out, (by repeat (first | (with_reducible first | exact HB.out | apply below_alloc | apply pw_below_drewN | apply below_drew1 | refine below_set ?_ GE124.out | refine below_set ?_ GE125.out | refine below_set ?_ GE126.out | refine below_set ?_ GE131.out | refine below_set ?_ GE132.out) | exact HB.out))⟩)
    ·skip
     rintro gb132 w90 ⟨hS_, h0_, h1_, h2_, h3_, h4_, h5_, h6_, h7_, h8_, h9_, h10_, h11_, h12_⟩
     have BK132 := Aside0.mk h3_
     have GW132 := Aside0.mk h4_
     have GE132 := Aside0.mk h5_
     have NB124_132 := Aside0.mk h6_
     have NB132_124 := Aside0.mk h7_
     have NB125_132 := Aside0.mk h8_
     have NB132_125 := Aside0.mk h9_
     have NB126_132 := Aside0.mk h10_
     have NB132_126 := Aside0.mk h11_
     replace BK124 := Aside0.mk h0_
     replace BK125 := Aside0.mk h1_
     replace BK126 := Aside0.mk h2_
     replace HB := Aside0.mk h12_
     clear h0_ h1_ h2_ h3_ h4_ h5_ h6_ h7_ h8_ h9_ h10_ h11_ h12_
     have hHeld : w90.cell? ⟨gb124, 0, none⟩ = some (.bool a0_0) ∧ w90.cell? ⟨gb124, 1, none⟩ = some (.int .u64 a0_1) ∧ w90.cell? ⟨gb124, 2, none⟩ = some (.int .u64 a0_2) ∧ w90.cell? ⟨gb125, 0, none⟩ = some (.bool a1_0) ∧ w90.cell? ⟨gb125, 1, none⟩ = some (.int .u64 a1_1) ∧ w90.cell? ⟨gb125, 2, none⟩ = some (.int .u64 a1_2) := hS_
     refine norm_ (a' := ?_) ?_ ?_
     rotate_left
     ·simp only [putAll, Act.put, sA, sB, sC]
      rfl
     refine one_ (i := 4) (N := some 6) #[Y,Y,Y,Y,Y,Y,N,N] rfl rfl (one_of HT_.out (by kernel_rfl)) (by decide) (fun K hK => ?_)
     refine box_step ?hg (N := 6) ?hd (cs := #[.int .u64 0, .int .u64 0]) (t := 83) ?hr ?_; (case hd => rfl); (case hg => rfl); (case hr => first | (go_simp; done) | (go_simp; rfl))
     intro gb131 hg w91 hbox hb
     have BK131 := Aside0.mk (hbox)
     have GW131 := szZ HB hg
     have GE131 := szZ HB hg
     have NB124_131 := nlZ BK124 hg
     have NB131_124 := ngZ BK124 hg
     have NB125_131 := nlZ BK125 hg
     have NB131_125 := ngZ BK125 hg
     have NB126_131 := nlZ BK126 hg
     have NB131_126 := ngZ BK126 hg
     have NB132_131 := nlZ BK132 hg
     have NB131_132 := ngZ BK132 hg
     replace BK124 := bbZ BK124 hb
     replace BK125 := bbZ BK125 hb
     replace BK126 := bbZ BK126 hb
     replace BK132 := bbZ BK132 hb
     replace HB := Aside0.mk (below_step HB.out hb)
     clear hb hbox hg
     refine hK.out _ _ ⟨(blk_cell BK124.out 0).trans rfl, (blk_cell BK124.out 1).trans rfl, (blk_cell BK124.out 2).trans rfl, (blk_cell BK125.out 0).trans rfl, (blk_cell BK125.out 1).trans rfl, (blk_cell BK125.out 2).trans rfl⟩ (fun hHeld => ?_)
     clear hK K
     refine norm_ (a' := ?_) ?_ ?_
     rotate_left
     ·show Act.put _ (some 6) _ = _
      simp only [Act.put, sA, sB, sC, i64_w, i32_w]
      rfl
     exact norm_ (by simp only [putAll, Act.put, sA, sB, sC] <;> rfl) (hJ1_3_4_5 (gb131, gb132) _ ⟨hHeld, BK124.out, BK125.out, BK126.out, BK131.out, BK132.out, GW131.out, GE131.out, NB124_131.out, NB131_124.out, NB125_131.out, NB131_125.out, NB126_131.out, NB131_126.out, NB132_131.out, NB131_132.out, GW132.out, GE132.out, NB124_132.out, NB132_124.out, NB125_132.out, NB132_125.out, NB126_132.out, NB132_126.out, (by repeat (first | (with_reducible first | exact HB.out | apply below_alloc | apply pw_below_drewN | apply below_drew1 | refine below_set ?_ GE124.out | refine below_set ?_ GE125.out | refine below_set ?_ GE126.out | refine below_set ?_ GE132.out | refine below_set ?_ GE131.out) | exact HB.out))⟩)
   ·skip
    rintro gb131 w90 ⟨hS_, h0_, h1_, h2_, h3_, h4_, h5_, h6_, h7_, h8_, h9_, h10_, h11_, h12_⟩
    have BK131 := Aside0.mk h3_
    have GW131 := Aside0.mk h4_
    have GE131 := Aside0.mk h5_
    have NB124_131 := Aside0.mk h6_
    have NB131_124 := Aside0.mk h7_
    have NB125_131 := Aside0.mk h8_
    have NB131_125 := Aside0.mk h9_
    have NB126_131 := Aside0.mk h10_
    have NB131_126 := Aside0.mk h11_
    replace BK124 := Aside0.mk h0_
    replace BK125 := Aside0.mk h1_
    replace BK126 := Aside0.mk h2_
    replace HB := Aside0.mk h12_
    clear h0_ h1_ h2_ h3_ h4_ h5_ h6_ h7_ h8_ h9_ h10_ h11_ h12_
    have hHeld : w90.cell? ⟨gb124, 0, none⟩ = some (.bool a0_0) ∧ w90.cell? ⟨gb124, 1, none⟩ = some (.int .u64 a0_1) ∧ w90.cell? ⟨gb124, 2, none⟩ = some (.int .u64 a0_2) ∧ w90.cell? ⟨gb125, 0, none⟩ = some (.bool a1_0) ∧ w90.cell? ⟨gb125, 1, none⟩ = some (.int .u64 a1_1) ∧ w90.cell? ⟨gb125, 2, none⟩ = some (.int .u64 a1_2) := hS_
    refine norm_ (a' := ?_) ?_ ?_
    rotate_left
    ·simp only [putAll, Act.put, sA, sB, sC]
     rfl
    refine one_ (i := 5) (N := some 7) #[Y,Y,Y,Y,Y,Y,N,N] rfl rfl (one_of HT_.out (by kernel_rfl)) (by decide) (fun K hK => ?_)
    refine box_step ?hg (N := 7) ?hd (cs := #[.int .u64 0, .int .u64 0]) (t := 83) ?hr ?_; (case hd => rfl); (case hg => rfl); (case hr => first | (go_simp; done) | (go_simp; rfl))
    intro gb132 hg w91 hbox hb
    have BK132 := Aside0.mk (hbox)
    have GW132 := szZ HB hg
    have GE132 := szZ HB hg
    have NB124_132 := nlZ BK124 hg
    have NB132_124 := ngZ BK124 hg
    have NB125_132 := nlZ BK125 hg
    have NB132_125 := ngZ BK125 hg
    have NB126_132 := nlZ BK126 hg
    have NB132_126 := ngZ BK126 hg
    have NB131_132 := nlZ BK131 hg
    have NB132_131 := ngZ BK131 hg
    replace BK124 := bbZ BK124 hb
    replace BK125 := bbZ BK125 hb
    replace BK126 := bbZ BK126 hb
    replace BK131 := bbZ BK131 hb
    replace HB := Aside0.mk (below_step HB.out hb)
    clear hb hbox hg
    refine hK.out _ _ ⟨(blk_cell BK124.out 0).trans rfl, (blk_cell BK124.out 1).trans rfl, (blk_cell BK124.out 2).trans rfl, (blk_cell BK125.out 0).trans rfl, (blk_cell BK125.out 1).trans rfl, (blk_cell BK125.out 2).trans rfl⟩ (fun hHeld => ?_)
    clear hK K
    refine norm_ (a' := ?_) ?_ ?_
    rotate_left
    ·show Act.put _ (some 7) _ = _
     simp only [Act.put, sA, sB, sC, i64_w, i32_w]
     rfl
    exact norm_ (by simp only [putAll, Act.put, sA, sB, sC] <;> rfl) (hJ1_3_4_5 (gb131, gb132) _ ⟨hHeld, BK124.out, BK125.out, BK126.out, BK131.out, BK132.out, GW131.out, GE131.out, NB124_131.out, NB131_124.out, NB125_131.out, NB131_125.out, NB126_131.out, NB131_126.out, NB132_131.out, NB131_132.out, GW132.out, GE132.out, NB124_132.out, NB132_124.out, NB125_132.out, NB132_125.out, NB126_132.out, NB132_126.out, (by repeat (first | (with_reducible first | exact HB.out | apply below_alloc | apply pw_below_drewN | apply below_drew1 | refine below_set ?_ GE124.out | refine below_set ?_ GE125.out | refine below_set ?_ GE126.out | refine below_set ?_ GE131.out | refine below_set ?_ GE132.out) | exact HB.out))⟩)
  rintro ⟨gb131, gb132⟩ w91 ⟨hS_, h0_, h1_, h2_, h3_, h4_, h5_, h6_, h7_, h8_, h9_, h10_, h11_, h12_, h13_, h14_, h15_, h16_, h17_, h18_, h19_, h20_, h21_, h22_, h23_⟩
  have BK131 := Aside0.mk h3_
  have BK132 := Aside0.mk h4_
  have GW131 := Aside0.mk h5_
  have GE131 := Aside0.mk h6_
  have NB124_131 := Aside0.mk h7_
  have NB131_124 := Aside0.mk h8_
  have NB125_131 := Aside0.mk h9_
  have NB131_125 := Aside0.mk h10_
  have NB126_131 := Aside0.mk h11_
  have NB131_126 := Aside0.mk h12_
  have NB132_131 := Aside0.mk h13_
  have NB131_132 := Aside0.mk h14_
  have GW132 := Aside0.mk h15_
  have GE132 := Aside0.mk h16_
  have NB124_132 := Aside0.mk h17_
  have NB132_124 := Aside0.mk h18_
  have NB125_132 := Aside0.mk h19_
  have NB132_125 := Aside0.mk h20_
  have NB126_132 := Aside0.mk h21_
  have NB132_126 := Aside0.mk h22_
  replace BK124 := Aside0.mk h0_
  replace BK125 := Aside0.mk h1_
  replace BK126 := Aside0.mk h2_
  replace HB := Aside0.mk h23_
  clear h0_ h1_ h2_ h3_ h4_ h5_ h6_ h7_ h8_ h9_ h10_ h11_ h12_ h13_ h14_ h15_ h16_ h17_ h18_ h19_ h20_ h21_ h22_ h23_
  have hHeld : w91.cell? ⟨gb124, 0, none⟩ = some (.bool a0_0) ∧ w91.cell? ⟨gb124, 1, none⟩ = some (.int .u64 a0_1) ∧ w91.cell? ⟨gb124, 2, none⟩ = some (.int .u64 a0_2) ∧ w91.cell? ⟨gb125, 0, none⟩ = some (.bool a1_0) ∧ w91.cell? ⟨gb125, 1, none⟩ = some (.int .u64 a1_1) ∧ w91.cell? ⟨gb125, 2, none⟩ = some (.int .u64 a1_2) := hS_
  refine norm_ (a' := ?_) ?_ ?_
  rotate_left
  ·simp only [putAll, Act.put, sA, sB, sC]
   rfl
  refine one_ (i := 6) (N := none) #[Y,Y,Y,Y,Y,Y,Y,N] rfl rfl (one_of HT_.out (by kernel_rfl)) (by decide) (fun K hK => ?_)
  have hs92 : w91.cell? ⟨gb131, 0, none⟩ = some (.int .u64 0) := (blk_cell BK131.out 0).trans rfl
  have hfs92 := blk_frozen BK131.out 0
  have hns92_0 := NB124_131.out
  have hns92_1 := NB125_131.out
  have hns92_2 := NB126_131.out
  have hns92_4 := NB132_131.out
  have hms92_0 := NB131_124.out
  have hms92_1 := NB131_125.out
  have hms92_2 := NB131_126.out
  have hms92_4 := NB131_132.out
  have hs93 : w91.cell? ⟨gb131, 1, none⟩ = some (.int .u64 0) := (blk_cell BK131.out 1).trans rfl
  have hfs93 := blk_frozen BK131.out 1
  have hns93_0 := NB124_131.out
  have hns93_1 := NB125_131.out
  have hns93_2 := NB126_131.out
  have hns93_4 := NB132_131.out
  have hms93_0 := NB131_124.out
  have hms93_1 := NB131_125.out
  have hms93_2 := NB131_126.out
  have hms93_4 := NB131_132.out
  refine skip_ (w1 := ?_) (by rfl) rfl ?_ ?_
  rotate_left
  ·go_simp
   rfl
  refine hK.out _ _ ⟨((cell_far (p := ⟨gb131, _, none⟩) NB124_131.out _).trans (((cell_far (p := ⟨gb131, _, none⟩) NB124_131.out _).trans (hHeld.1)))), ((cell_far (p := ⟨gb131, _, none⟩) NB124_131.out _).trans (((cell_far (p := ⟨gb131, _, none⟩) NB124_131.out _).trans (hHeld.2.1)))), ((cell_far (p := ⟨gb131, _, none⟩) NB124_131.out _).trans (((cell_far (p := ⟨gb131, _, none⟩) NB124_131.out _).trans (hHeld.2.2.1)))), ((cell_far (p := ⟨gb131, _, none⟩) NB125_131.out _).trans (((cell_far (p := ⟨gb131, _, none⟩) NB125_131.out _).trans (hHeld.2.2.2.1)))), ((cell_far (p := ⟨gb131, _, none⟩) NB125_131.out _).trans (((cell_far (p := ⟨gb131, _, none⟩) NB125_131.out _).trans (hHeld.2.2.2.2.1)))), ((cell_far (p := ⟨gb131, _, none⟩) NB125_131.out _).trans (((cell_far (p := ⟨gb131, _, none⟩) NB125_131.out _).trans (hHeld.2.2.2.2.2))))⟩ (fun hHeld => ?_)
  clear hK K
  refine one_ (i := 7) (N := none) #[Y,Y,Y,Y,Y,Y,Y,Y] rfl rfl (one_of HT_.out (by kernel_rfl)) (by decide) (fun K hK => ?_)
  have hs94 : w91.cell? ⟨gb132, 0, none⟩ = some (.int .u64 0) := (blk_cell BK132.out 0).trans rfl
  have hfs94 := blk_frozen BK132.out 0
  have hns94_0 := NB124_132.out
  have hns94_1 := NB125_132.out
  have hns94_2 := NB126_132.out
  have hns94_3 := NB131_132.out
  have hms94_0 := NB132_124.out
  have hms94_1 := NB132_125.out
  have hms94_2 := NB132_126.out
  have hms94_3 := NB132_131.out
  have hs95 : w91.cell? ⟨gb132, 1, none⟩ = some (.int .u64 0) := (blk_cell BK132.out 1).trans rfl
  have hfs95 := blk_frozen BK132.out 1
  have hns95_0 := NB124_132.out
  have hns95_1 := NB125_132.out
  have hns95_2 := NB126_132.out
  have hns95_3 := NB131_132.out
  have hms95_0 := NB132_124.out
  have hms95_1 := NB132_125.out
  have hms95_2 := NB132_126.out
  have hms95_3 := NB132_131.out
  refine skip_ (w1 := ?_) (by rfl) rfl ?_ ?_
  rotate_left
  ·go_simp
   rfl
  refine hK.out _ _ ⟨((cell_far (p := ⟨gb132, _, none⟩) NB124_132.out _).trans (((cell_far (p := ⟨gb132, _, none⟩) NB124_132.out _).trans (hHeld.1)))), ((cell_far (p := ⟨gb132, _, none⟩) NB124_132.out _).trans (((cell_far (p := ⟨gb132, _, none⟩) NB124_132.out _).trans (hHeld.2.1)))), ((cell_far (p := ⟨gb132, _, none⟩) NB124_132.out _).trans (((cell_far (p := ⟨gb132, _, none⟩) NB124_132.out _).trans (hHeld.2.2.1)))), ((cell_far (p := ⟨gb132, _, none⟩) NB125_132.out _).trans (((cell_far (p := ⟨gb132, _, none⟩) NB125_132.out _).trans (hHeld.2.2.2.1)))), ((cell_far (p := ⟨gb132, _, none⟩) NB125_132.out _).trans (((cell_far (p := ⟨gb132, _, none⟩) NB125_132.out _).trans (hHeld.2.2.2.2.1)))), ((cell_far (p := ⟨gb132, _, none⟩) NB125_132.out _).trans (((cell_far (p := ⟨gb132, _, none⟩) NB125_132.out _).trans (hHeld.2.2.2.2.2))))⟩ (fun hHeld => ?_)
  clear hK K
  refine done_ (done_of HT_.out (by kernel_rfl)) ?_
  have hnb96 := NB124_125.out
  have hnc96 := NB125_124.out
  have hnb97 := NB124_126.out
  have hnc97 := NB126_124.out
  have hnb98 := NB124_131.out
  have hnc98 := NB131_124.out
  have hnb99 := NB124_132.out
  have hnc99 := NB132_124.out
  have hcz100_0 : w91.cell? ⟨gb124, 0, none⟩ = some (.bool a0_0) := (blk_cell BK124.out 0).trans rfl
  have hcz100_1 : w91.cell? ⟨gb124, 1, none⟩ = some (.int .u64 a0_1) := (blk_cell BK124.out 1).trans rfl
  have hcz100_2 : w91.cell? ⟨gb124, 2, none⟩ = some (.int .u64 a0_2) := (blk_cell BK124.out 2).trans rfl
  have hfz100_0 := blk_frozen BK124.out 0
  have hfz100_1 := blk_frozen BK124.out 1
  have hfz100_2 := blk_frozen BK124.out 2
  have hnb101 := NB125_126.out
  have hnc101 := NB126_125.out
  have hnb102 := NB125_131.out
  have hnc102 := NB131_125.out
  have hnb103 := NB125_132.out
  have hnc103 := NB132_125.out
  have hcz104_0 : w91.cell? ⟨gb125, 0, none⟩ = some (.bool a1_0) := (blk_cell BK125.out 0).trans rfl
  have hcz104_1 : w91.cell? ⟨gb125, 1, none⟩ = some (.int .u64 a1_1) := (blk_cell BK125.out 1).trans rfl
  have hcz104_2 : w91.cell? ⟨gb125, 2, none⟩ = some (.int .u64 a1_2) := (blk_cell BK125.out 2).trans rfl
  have hfz104_0 := blk_frozen BK125.out 0
  have hfz104_1 := blk_frozen BK125.out 1
  have hfz104_2 := blk_frozen BK125.out 2
  have hnb105 := NB131_126.out
  have hnc105 := NB126_131.out
  have hnb106 := NB131_132.out
  have hnc106 := NB132_131.out
  have hcz107_0 : w91.cell? ⟨gb131, 0, none⟩ = some (.int .u64 0) := (blk_cell BK131.out 0).trans rfl
  have hcz107_1 : w91.cell? ⟨gb131, 1, none⟩ = some (.int .u64 0) := (blk_cell BK131.out 1).trans rfl
  have hfz107_0 := blk_frozen BK131.out 0
  have hfz107_1 := blk_frozen BK131.out 1
  have hnb108 := NB132_126.out
  have hnc108 := NB126_132.out
  have hcz109_0 : w91.cell? ⟨gb132, 0, none⟩ = some (.int .u64 0) := (blk_cell BK132.out 0).trans rfl
  have hcz109_1 : w91.cell? ⟨gb132, 1, none⟩ = some (.int .u64 0) := (blk_cell BK132.out 1).trans rfl
  have hfz109_0 := blk_frozen BK132.out 0
  have hfz109_1 := blk_frozen BK132.out 1
  try go_wp2_with (first | (simp only [bits_Add64.runs t128 t130 0 t144 t145 A80.out]) | (simp only [bits_Add64.runs t127 t129 t145 t146 t147 A81.out]; have hcz110_0 : w91.cell? ⟨gb126, 0, none⟩ = some (.bool false) := (blk_cell BK126.out 0).trans rfl; have hcz110_1 : w91.cell? ⟨gb126, 1, none⟩ = some (.int .u64 0) := (blk_cell BK126.out 1).trans rfl; have hcz110_2 : w91.cell? ⟨gb126, 2, none⟩ = some (.int .u64 0) := (blk_cell BK126.out 2).trans rfl; have hfz110_0 := blk_frozen BK126.out 0; have hfz110_1 := blk_frozen BK126.out 1; have hfz110_2 := blk_frozen BK126.out 2))
  refine bodyPost_ret (results_ct rfl _ _ gb126 60 #[.bool false, .int .u64 0, .int .u64 0] (0, 0) _ rfl (by (with_reducible repeat (first | refine blk_drewN ?_ _ | refine blk_drew ?_ | refine blk_alloc ?_ _)); refine blk_put (cs := #[.bool false, .int .u64 0, .int .u64 0]) ?_ 2 _ rfl; (with_reducible repeat (first | refine blk_drewN ?_ _ | refine blk_drew ?_ | refine blk_alloc ?_ _)); refine blk_put (cs := #[.bool false, .int .u64 0, .int .u64 0]) ?_ 1 _ rfl; (with_reducible repeat (first | refine blk_drewN ?_ _ | refine blk_drew ?_ | refine blk_alloc ?_ _)); refine blk_put (cs := #[.bool false, .int .u64 0, .int .u64 0]) ?_ 0 _ rfl; (with_reducible repeat (first | refine blk_drewN ?_ _ | refine blk_drew ?_ | refine blk_alloc ?_ _)); refine blk_far ?_ NB126_132.out _; (with_reducible repeat (first | refine blk_drewN ?_ _ | refine blk_drew ?_ | refine blk_alloc ?_ _)); refine blk_far ?_ NB126_132.out _; (with_reducible repeat (first | refine blk_drewN ?_ _ | refine blk_drew ?_ | refine blk_alloc ?_ _)); refine blk_far ?_ NB126_131.out _; (with_reducible repeat (first | refine blk_drewN ?_ _ | refine blk_drew ?_ | refine blk_alloc ?_ _)); refine blk_far ?_ NB126_131.out _; (with_reducible repeat (first | refine blk_drewN ?_ _ | refine blk_drew ?_ | refine blk_alloc ?_ _)); exact BK126.out) Try.underlying60 rfl (by kernel_rfl)) rfl ?_
  exact ⟨by first | rfl | (simp [errW_none, errW_some] <;> rfl) | (simp [*, errW_none, errW_some] <;> rfl), by repeat (first | (with_reducible first | exact HB.out | apply below_alloc | apply pw_below_drewN | apply below_drew1 | refine below_set ?_ GE124.out | refine below_set ?_ GE125.out | refine below_set ?_ GE126.out | refine below_set ?_ GE131.out | refine below_set ?_ GE132.out) | exact HB.out)⟩
 ·rw [if_neg c82] at H
  have c82b0 : decide (0 < t147) = false := decide_eq_false c82
  clear c82
  replace H := Option.bind_eq_some_iff.mp H
  obtain ⟨⟨t148, t149, t150⟩, A1110, H⟩ := H
  replace H : (some (t148, t149, t150, 0)) = some (r1, r2, r3, r4) := H
  have A111 := Aside0.mk A1110
  clear A1110
  simp only [Option.some.injEq, Prod.mk.injEq] at H
  obtain ⟨rfl, rfl, rfl, rfl⟩ := H
  go_enter Try.func54, Try.ntmps54
  try go_wp2_with (first | ((with_reducible refine gate_dst (N := 2) rfl ?_); refine box_event ?hg (N := 2) ?hd (cs := #[.bool a0_0, .int .u64 a0_1, .int .u64 a0_2]) (t := 60) ?hr ?_; (case hd => rfl); (case hg => rfl); (case hr => first | (go_simp; done) | (go_simp; rfl)); intro gb124 hg w112 hbox hb; have BK124 := Aside0.mk (hbox); have GW124 := Aside0.mk ((by rw [hg]; exact (below_size (by repeat (first | (with_reducible first | exact HB.out | apply below_alloc | apply pw_below_drewN | apply below_drew1) | exact HB.out))) : w.heap.size ≤ gb124)); have GE124 := Aside0.mk ((by rw [hg]; exact (below_size (by repeat (first | (with_reducible first | exact HB.out | apply below_alloc | apply pw_below_drewN | apply below_drew1) | exact HB.out))) : w.heap.size ≤ gb124)); replace HB := Aside0.mk (below_step (by repeat (first | (with_reducible first | exact HB.out | apply below_alloc | apply pw_below_drewN | apply below_drew1) | exact HB.out)) hb); clear hb hbox hg) | ((with_reducible refine gate_dst (N := 3) rfl ?_); refine box_event ?hg (N := 3) ?hd (cs := #[.bool a1_0, .int .u64 a1_1, .int .u64 a1_2]) (t := 60) ?hr ?_; (case hd => rfl); (case hg => rfl); (case hr => first | (go_simp; done) | (go_simp; rfl)); intro gb125 hg w113 hbox hb; have BK125 := Aside0.mk (hbox); have GW125 := Aside0.mk ((by rw [hg]; exact (below_size (by repeat (first | (with_reducible first | exact HB.out | apply below_alloc | apply pw_below_drewN | apply below_drew1 | refine below_set ?_ GE124.out) | exact HB.out))) : w.heap.size ≤ gb125)); have GE125 := Aside0.mk ((by rw [hg]; exact (below_size (by repeat (first | (with_reducible first | exact HB.out | apply below_alloc | apply pw_below_drewN | apply below_drew1 | refine below_set ?_ GE124.out) | exact HB.out))) : w.heap.size ≤ gb125)); have NB124_125 := Aside0.mk ((by rw [hg]; exact Nat.ne_of_lt (blk_lt (g := gb124) (o := .cells #[.bool a0_0, .int .u64 a0_1, .int .u64 a0_2] 60 (0, 0)) (by (with_reducible repeat (first | refine blk_drewN ?_ _ | refine blk_drew ?_ | refine blk_alloc ?_ _)); exact BK124.out)) : gb124 ≠ gb125)); have NB125_124 := Aside0.mk ((by rw [hg]; exact Nat.ne_of_gt (blk_lt (g := gb124) (o := .cells #[.bool a0_0, .int .u64 a0_1, .int .u64 a0_2] 60 (0, 0)) (by (with_reducible repeat (first | refine blk_drewN ?_ _ | refine blk_drew ?_ | refine blk_alloc ?_ _)); exact BK124.out)) : gb125 ≠ gb124)); replace BK124 := Aside0.mk (blk_below (g := gb124) (o := .cells #[.bool a0_0, .int .u64 a0_1, .int .u64 a0_2] 60 (0, 0)) (by (with_reducible repeat (first | refine blk_drewN ?_ _ | refine blk_drew ?_ | refine blk_alloc ?_ _)); exact BK124.out) hb); replace HB := Aside0.mk (below_step (by repeat (first | (with_reducible first | exact HB.out | apply below_alloc | apply pw_below_drewN | apply below_drew1 | refine below_set ?_ GE124.out) | exact HB.out)) hb); clear hb hbox hg) | ((with_reducible refine gate_dst (N := 4) rfl ?_); refine box_event ?hg (N := 4) ?hd (cs := #[.bool false, .int .u64 0, .int .u64 0]) (t := 60) ?hr ?_; (case hd => rfl); (case hg => rfl); (case hr => first | (go_simp; done) | (go_simp; rfl)); intro gb126 hg w114 hbox hb; have BK126 := Aside0.mk (hbox); have GW126 := Aside0.mk ((by rw [hg]; exact (below_size (by repeat (first | (with_reducible first | exact HB.out | apply below_alloc | apply pw_below_drewN | apply below_drew1 | refine below_set ?_ GE124.out | refine below_set ?_ GE125.out) | exact HB.out))) : w.heap.size ≤ gb126)); have GE126 := Aside0.mk ((by rw [hg]; exact (below_size (by repeat (first | (with_reducible first | exact HB.out | apply below_alloc | apply pw_below_drewN | apply below_drew1 | refine below_set ?_ GE124.out | refine below_set ?_ GE125.out) | exact HB.out))) : w.heap.size ≤ gb126)); have NB124_126 := Aside0.mk ((by rw [hg]; exact Nat.ne_of_lt (blk_lt (g := gb124) (o := .cells #[.bool a0_0, .int .u64 a0_1, .int .u64 a0_2] 60 (0, 0)) (by (with_reducible repeat (first | refine blk_drewN ?_ _ | refine blk_drew ?_ | refine blk_alloc ?_ _)); exact BK124.out)) : gb124 ≠ gb126)); have NB126_124 := Aside0.mk ((by rw [hg]; exact Nat.ne_of_gt (blk_lt (g := gb124) (o := .cells #[.bool a0_0, .int .u64 a0_1, .int .u64 a0_2] 60 (0, 0)) (by (with_reducible repeat (first | refine blk_drewN ?_ _ | refine blk_drew ?_ | refine blk_alloc ?_ _)); exact BK124.out)) : gb126 ≠ gb124)); have NB125_126 := Aside0.mk ((by rw [hg]; exact Nat.ne_of_lt (blk_lt (g := gb125) (o := .cells #[.bool a1_0, .int .u64 a1_1, .int .u64 a1_2] 60 (0, 0)) (by (with_reducible repeat (first | refine blk_drewN ?_ _ | refine blk_drew ?_ | refine blk_alloc ?_ _)); exact BK125.out)) : gb125 ≠ gb126)); have NB126_125 := Aside0.mk ((by rw [hg]; exact Nat.ne_of_gt (blk_lt (g := gb125) (o := .cells #[.bool a1_0, .int .u64 a1_1, .int .u64 a1_2] 60 (0, 0)) (by (with_reducible repeat (first | refine blk_drewN ?_ _ | refine blk_drew ?_ | refine blk_alloc ?_ _)); exact BK125.out)) : gb126 ≠ gb125)); replace BK124 := Aside0.mk (blk_below (g := gb124) (o := .cells #[.bool a0_0, .int .u64 a0_1, .int .u64 a0_2] 60 (0, 0)) (by (with_reducible repeat (first | refine blk_drewN ?_ _ | refine blk_drew ?_ | refine blk_alloc ?_ _)); exact BK124.out) hb); replace BK125 := Aside0.mk (blk_below (g := gb125) (o := .cells #[.bool a1_0, .int .u64 a1_1, .int .u64 a1_2] 60 (0, 0)) (by (with_reducible repeat (first | refine blk_drewN ?_ _ | refine blk_drew ?_ | refine blk_alloc ?_ _)); exact BK125.out) hb); replace HB := Aside0.mk (below_step (by repeat (first | (with_reducible first | exact HB.out | apply below_alloc | apply pw_below_drewN | apply below_drew1 | refine below_set ?_ GE124.out | refine below_set ?_ GE125.out) | exact HB.out)) hb); clear hb hbox hg))
  replace BK124 := Aside0.mk (blk_drew BK124.out)
  replace BK125 := Aside0.mk (blk_drew BK125.out)
  replace BK126 := Aside0.mk (blk_drew BK126.out)
  replace HB := Aside0.mk (below_drew1 HB.out)
  refine start_ (n := 8) (S := fun w' => w'.cell? ⟨gb124, 0, none⟩ = some (.bool a0_0) ∧ w'.cell? ⟨gb124, 1, none⟩ = some (.int .u64 a0_1) ∧ w'.cell? ⟨gb124, 2, none⟩ = some (.int .u64 a0_2) ∧ w'.cell? ⟨gb125, 0, none⟩ = some (.bool a1_0) ∧ w'.cell? ⟨gb125, 1, none⟩ = some (.int .u64 a1_1) ∧ w'.cell? ⟨gb125, 2, none⟩ = some (.int .u64 a1_2)) (ds := []) #[N,N,N,N,N,N,N,N] (by kernel_rfl) rfl rfl ⟨(blk_cell BK124.out 0).trans rfl, (blk_cell BK124.out 1).trans rfl, (blk_cell BK124.out 2).trans rfl, (blk_cell BK125.out 0).trans rfl, (blk_cell BK125.out 1).trans rfl, (blk_cell BK125.out 2).trans rfl⟩ (fun hHeld => ?_); refine with_tabW big_Add.tab1 big_Add.bits1 (fun HT_ HW_ => ?_)
  generalize w114.drew = w115 at BK124 BK125 BK126 HB hHeld ⊢
  refine take_ (i := 0) (N := some 11) (v := ?_) (a' := ?_) #[Y,N,N,N,N,N,N,N] rfl rfl (take_ofW HT_.out HW_.out (by kernel_rfl)) (fun _ _ _ h => h) (Or.inl ⟨by rfl, ?_⟩) hHeld ?_ ?_
  rotate_left
  ·rintro w' ⟨s0, s1, s2, s3, s4, s5⟩
   go_simp
   with_reducible rfl
  rotate_left
  ·simp only [Act.put, sA, sB, sC, i64_w, i32_w]
   rfl
  refine take_ (i := 2) (N := some 13) (v := ?_) (a' := ?_) #[Y,N,Y,N,N,N,N,N] rfl rfl (take_ofW HT_.out HW_.out (by kernel_rfl)) (fun _ _ _ h => h) (Or.inl ⟨by rfl, ?_⟩) hHeld ?_ ?_
  rotate_left
  ·rintro w' ⟨s0, s1, s2, s3, s4, s5⟩
   go_simp
   with_reducible rfl
  rotate_left
  ·simp only [Act.put, sA, sB, sC, i64_w, i32_w]
   rfl
  refine join_ (σ := Nat × Nat) 2 #[Y,Y,Y,Y,Y,Y,N,N] (fun s_ => [(12, .agg #[.int .u64 t127, .int .u64 t128]), (14, .agg #[.int .u64 t129, .int .u64 t130]), (6, .pointer (some ⟨s_.1, 0, none⟩)), (7, .pointer (some ⟨s_.2, 0, none⟩))]) (fun s_ w' => (w'.cell? ⟨gb124, 0, none⟩ = some (.bool a0_0) ∧ w'.cell? ⟨gb124, 1, none⟩ = some (.int .u64 a0_1) ∧ w'.cell? ⟨gb124, 2, none⟩ = some (.int .u64 a0_2) ∧ w'.cell? ⟨gb125, 0, none⟩ = some (.bool a1_0) ∧ w'.cell? ⟨gb125, 1, none⟩ = some (.int .u64 a1_1) ∧ w'.cell? ⟨gb125, 2, none⟩ = some (.int .u64 a1_2)) ∧ (w'.heap[gb124]? = some (.cells #[.bool a0_0, .int .u64 a0_1, .int .u64 a0_2] 60 (0, 0))) ∧ (w'.heap[gb125]? = some (.cells #[.bool a1_0, .int .u64 a1_1, .int .u64 a1_2] 60 (0, 0))) ∧ (w'.heap[gb126]? = some (.cells #[.bool false, .int .u64 0, .int .u64 0] 60 (0, 0))) ∧ (w'.heap[s_.1]? = some (.cells #[.int .u64 0, .int .u64 0] 83 (0, 0))) ∧ (w'.heap[s_.2]? = some (.cells #[.int .u64 0, .int .u64 0] 83 (0, 0))) ∧ (w.heap.size ≤ s_.1) ∧ (w.heap.size ≤ s_.1) ∧ (gb124 ≠ s_.1) ∧ (s_.1 ≠ gb124) ∧ (gb125 ≠ s_.1) ∧ (s_.1 ≠ gb125) ∧ (gb126 ≠ s_.1) ∧ (s_.1 ≠ gb126) ∧ (s_.2 ≠ s_.1) ∧ (s_.1 ≠ s_.2) ∧ (w.heap.size ≤ s_.2) ∧ (w.heap.size ≤ s_.2) ∧ (gb124 ≠ s_.2) ∧ (s_.2 ≠ gb124) ∧ (gb125 ≠ s_.2) ∧ (s_.2 ≠ gb125) ∧ (gb126 ≠ s_.2) ∧ (s_.2 ≠ gb126) ∧ (Below w.heap.size w w')) ?_ ?_
  rotate_left
  ·intro hJ1_3_4_5
   refine join_ (σ := Nat) 3 #[Y,Y,Y,Y,Y,N,N,N] (fun s_ => [(12, .agg #[.int .u64 t127, .int .u64 t128]), (14, .agg #[.int .u64 t129, .int .u64 t130]), (6, .pointer (some ⟨s_, 0, none⟩))]) (fun s_ w' => (w'.cell? ⟨gb124, 0, none⟩ = some (.bool a0_0) ∧ w'.cell? ⟨gb124, 1, none⟩ = some (.int .u64 a0_1) ∧ w'.cell? ⟨gb124, 2, none⟩ = some (.int .u64 a0_2) ∧ w'.cell? ⟨gb125, 0, none⟩ = some (.bool a1_0) ∧ w'.cell? ⟨gb125, 1, none⟩ = some (.int .u64 a1_1) ∧ w'.cell? ⟨gb125, 2, none⟩ = some (.int .u64 a1_2)) ∧ (w'.heap[gb124]? = some (.cells #[.bool a0_0, .int .u64 a0_1, .int .u64 a0_2] 60 (0, 0))) ∧ (w'.heap[gb125]? = some (.cells #[.bool a1_0, .int .u64 a1_1, .int .u64 a1_2] 60 (0, 0))) ∧ (w'.heap[gb126]? = some (.cells #[.bool false, .int .u64 0, .int .u64 0] 60 (0, 0))) ∧ (w'.heap[s_]? = some (.cells #[.int .u64 0, .int .u64 0] 83 (0, 0))) ∧ (w.heap.size ≤ s_) ∧ (w.heap.size ≤ s_) ∧ (gb124 ≠ s_) ∧ (s_ ≠ gb124) ∧ (gb125 ≠ s_) ∧ (s_ ≠ gb125) ∧ (gb126 ≠ s_) ∧ (s_ ≠ gb126) ∧ (Below w.heap.size w w')) ?_ ?_
   rotate_left
   ·intro hJ1_3_4
    refine join_ (σ := Nat) 3 #[Y,Y,Y,Y,N,Y,N,N] (fun s_ => [(12, .agg #[.int .u64 t127, .int .u64 t128]), (14, .agg #[.int .u64 t129, .int .u64 t130]), (7, .pointer (some ⟨s_, 0, none⟩))]) (fun s_ w' => (w'.cell? ⟨gb124, 0, none⟩ = some (.bool a0_0) ∧ w'.cell? ⟨gb124, 1, none⟩ = some (.int .u64 a0_1) ∧ w'.cell? ⟨gb124, 2, none⟩ = some (.int .u64 a0_2) ∧ w'.cell? ⟨gb125, 0, none⟩ = some (.bool a1_0) ∧ w'.cell? ⟨gb125, 1, none⟩ = some (.int .u64 a1_1) ∧ w'.cell? ⟨gb125, 2, none⟩ = some (.int .u64 a1_2)) ∧ (w'.heap[gb124]? = some (.cells #[.bool a0_0, .int .u64 a0_1, .int .u64 a0_2] 60 (0, 0))) ∧ (w'.heap[gb125]? = some (.cells #[.bool a1_0, .int .u64 a1_1, .int .u64 a1_2] 60 (0, 0))) ∧ (w'.heap[gb126]? = some (.cells #[.bool false, .int .u64 0, .int .u64 0] 60 (0, 0))) ∧ (w'.heap[s_]? = some (.cells #[.int .u64 0, .int .u64 0] 83 (0, 0))) ∧ (w.heap.size ≤ s_) ∧ (w.heap.size ≤ s_) ∧ (gb124 ≠ s_) ∧ (s_ ≠ gb124) ∧ (gb125 ≠ s_) ∧ (s_ ≠ gb125) ∧ (gb126 ≠ s_) ∧ (s_ ≠ gb126) ∧ (Below w.heap.size w w')) ?_ ?_
    rotate_left
    ·intro hJ1_3_5
     refine join_ (σ := Nat × Nat) 3 #[Y,Y,Y,N,Y,Y,N,N] (fun s_ => [(12, .agg #[.int .u64 t127, .int .u64 t128]), (6, .pointer (some ⟨s_.1, 0, none⟩)), (7, .pointer (some ⟨s_.2, 0, none⟩))]) (fun s_ w' => (w'.cell? ⟨gb124, 0, none⟩ = some (.bool a0_0) ∧ w'.cell? ⟨gb124, 1, none⟩ = some (.int .u64 a0_1) ∧ w'.cell? ⟨gb124, 2, none⟩ = some (.int .u64 a0_2) ∧ w'.cell? ⟨gb125, 0, none⟩ = some (.bool a1_0) ∧ w'.cell? ⟨gb125, 1, none⟩ = some (.int .u64 a1_1) ∧ w'.cell? ⟨gb125, 2, none⟩ = some (.int .u64 a1_2)) ∧ (w'.heap[gb124]? = some (.cells #[.bool a0_0, .int .u64 a0_1, .int .u64 a0_2] 60 (0, 0))) ∧ (w'.heap[gb125]? = some (.cells #[.bool a1_0, .int .u64 a1_1, .int .u64 a1_2] 60 (0, 0))) ∧ (w'.heap[gb126]? = some (.cells #[.bool false, .int .u64 0, .int .u64 0] 60 (0, 0))) ∧ (w'.heap[s_.1]? = some (.cells #[.int .u64 0, .int .u64 0] 83 (0, 0))) ∧ (w'.heap[s_.2]? = some (.cells #[.int .u64 0, .int .u64 0] 83 (0, 0))) ∧ (w.heap.size ≤ s_.1) ∧ (w.heap.size ≤ s_.1) ∧ (gb124 ≠ s_.1) ∧ (s_.1 ≠ gb124) ∧ (gb125 ≠ s_.1) ∧ (s_.1 ≠ gb125) ∧ (gb126 ≠ s_.1) ∧ (s_.1 ≠ gb126) ∧ (s_.2 ≠ s_.1) ∧ (s_.1 ≠ s_.2) ∧ (w.heap.size ≤ s_.2) ∧ (w.heap.size ≤ s_.2) ∧ (gb124 ≠ s_.2) ∧ (s_.2 ≠ gb124) ∧ (gb125 ≠ s_.2) ∧ (s_.2 ≠ gb125) ∧ (gb126 ≠ s_.2) ∧ (s_.2 ≠ gb126) ∧ (Below w.heap.size w w')) ?_ ?_
     rotate_left
     ·intro hJ1_4_5
      refine join_ (σ := Unit) 4 #[Y,Y,Y,Y,N,N,N,N] (fun s_ => [(12, .agg #[.int .u64 t127, .int .u64 t128]), (14, .agg #[.int .u64 t129, .int .u64 t130])]) (fun s_ w' => (w'.cell? ⟨gb124, 0, none⟩ = some (.bool a0_0) ∧ w'.cell? ⟨gb124, 1, none⟩ = some (.int .u64 a0_1) ∧ w'.cell? ⟨gb124, 2, none⟩ = some (.int .u64 a0_2) ∧ w'.cell? ⟨gb125, 0, none⟩ = some (.bool a1_0) ∧ w'.cell? ⟨gb125, 1, none⟩ = some (.int .u64 a1_1) ∧ w'.cell? ⟨gb125, 2, none⟩ = some (.int .u64 a1_2)) ∧ (w'.heap[gb124]? = some (.cells #[.bool a0_0, .int .u64 a0_1, .int .u64 a0_2] 60 (0, 0))) ∧ (w'.heap[gb125]? = some (.cells #[.bool a1_0, .int .u64 a1_1, .int .u64 a1_2] 60 (0, 0))) ∧ (w'.heap[gb126]? = some (.cells #[.bool false, .int .u64 0, .int .u64 0] 60 (0, 0))) ∧ (Below w.heap.size w w')) ?_ ?_
      rotate_left
      ·intro hJ1_3
       refine join_ (σ := Nat) 4 #[Y,Y,Y,N,Y,N,N,N] (fun s_ => [(12, .agg #[.int .u64 t127, .int .u64 t128]), (6, .pointer (some ⟨s_, 0, none⟩))]) (fun s_ w' => (w'.cell? ⟨gb124, 0, none⟩ = some (.bool a0_0) ∧ w'.cell? ⟨gb124, 1, none⟩ = some (.int .u64 a0_1) ∧ w'.cell? ⟨gb124, 2, none⟩ = some (.int .u64 a0_2) ∧ w'.cell? ⟨gb125, 0, none⟩ = some (.bool a1_0) ∧ w'.cell? ⟨gb125, 1, none⟩ = some (.int .u64 a1_1) ∧ w'.cell? ⟨gb125, 2, none⟩ = some (.int .u64 a1_2)) ∧ (w'.heap[gb124]? = some (.cells #[.bool a0_0, .int .u64 a0_1, .int .u64 a0_2] 60 (0, 0))) ∧ (w'.heap[gb125]? = some (.cells #[.bool a1_0, .int .u64 a1_1, .int .u64 a1_2] 60 (0, 0))) ∧ (w'.heap[gb126]? = some (.cells #[.bool false, .int .u64 0, .int .u64 0] 60 (0, 0))) ∧ (w'.heap[s_]? = some (.cells #[.int .u64 0, .int .u64 0] 83 (0, 0))) ∧ (w.heap.size ≤ s_) ∧ (w.heap.size ≤ s_) ∧ (gb124 ≠ s_) ∧ (s_ ≠ gb124) ∧ (gb125 ≠ s_) ∧ (s_ ≠ gb125) ∧ (gb126 ≠ s_) ∧ (s_ ≠ gb126) ∧ (Below w.heap.size w w')) ?_ ?_
       rotate_left
       ·intro hJ1_4
        refine join_ (σ := Nat) 4 #[Y,Y,Y,N,N,Y,N,N] (fun s_ => [(12, .agg #[.int .u64 t127, .int .u64 t128]), (7, .pointer (some ⟨s_, 0, none⟩))]) (fun s_ w' => (w'.cell? ⟨gb124, 0, none⟩ = some (.bool a0_0) ∧ w'.cell? ⟨gb124, 1, none⟩ = some (.int .u64 a0_1) ∧ w'.cell? ⟨gb124, 2, none⟩ = some (.int .u64 a0_2) ∧ w'.cell? ⟨gb125, 0, none⟩ = some (.bool a1_0) ∧ w'.cell? ⟨gb125, 1, none⟩ = some (.int .u64 a1_1) ∧ w'.cell? ⟨gb125, 2, none⟩ = some (.int .u64 a1_2)) ∧ (w'.heap[gb124]? = some (.cells #[.bool a0_0, .int .u64 a0_1, .int .u64 a0_2] 60 (0, 0))) ∧ (w'.heap[gb125]? = some (.cells #[.bool a1_0, .int .u64 a1_1, .int .u64 a1_2] 60 (0, 0))) ∧ (w'.heap[gb126]? = some (.cells #[.bool false, .int .u64 0, .int .u64 0] 60 (0, 0))) ∧ (w'.heap[s_]? = some (.cells #[.int .u64 0, .int .u64 0] 83 (0, 0))) ∧ (w.heap.size ≤ s_) ∧ (w.heap.size ≤ s_) ∧ (gb124 ≠ s_) ∧ (s_ ≠ gb124) ∧ (gb125 ≠ s_) ∧ (s_ ≠ gb125) ∧ (gb126 ≠ s_) ∧ (s_ ≠ gb126) ∧ (Below w.heap.size w w')) ?_ ?_
        rotate_left
        ·intro hJ1_5
         refine join_ (σ := Nat × Nat) 4 #[Y,N,Y,N,Y,Y,N,N] (fun s_ => [(6, .pointer (some ⟨s_.1, 0, none⟩)), (7, .pointer (some ⟨s_.2, 0, none⟩))]) (fun s_ w' => (w'.cell? ⟨gb124, 0, none⟩ = some (.bool a0_0) ∧ w'.cell? ⟨gb124, 1, none⟩ = some (.int .u64 a0_1) ∧ w'.cell? ⟨gb124, 2, none⟩ = some (.int .u64 a0_2) ∧ w'.cell? ⟨gb125, 0, none⟩ = some (.bool a1_0) ∧ w'.cell? ⟨gb125, 1, none⟩ = some (.int .u64 a1_1) ∧ w'.cell? ⟨gb125, 2, none⟩ = some (.int .u64 a1_2)) ∧ (w'.heap[gb124]? = some (.cells #[.bool a0_0, .int .u64 a0_1, .int .u64 a0_2] 60 (0, 0))) ∧ (w'.heap[gb125]? = some (.cells #[.bool a1_0, .int .u64 a1_1, .int .u64 a1_2] 60 (0, 0))) ∧ (w'.heap[gb126]? = some (.cells #[.bool false, .int .u64 0, .int .u64 0] 60 (0, 0))) ∧ (w'.heap[s_.1]? = some (.cells #[.int .u64 0, .int .u64 0] 83 (0, 0))) ∧ (w'.heap[s_.2]? = some (.cells #[.int .u64 0, .int .u64 0] 83 (0, 0))) ∧ (w.heap.size ≤ s_.1) ∧ (w.heap.size ≤ s_.1) ∧ (gb124 ≠ s_.1) ∧ (s_.1 ≠ gb124) ∧ (gb125 ≠ s_.1) ∧ (s_.1 ≠ gb125) ∧ (gb126 ≠ s_.1) ∧ (s_.1 ≠ gb126) ∧ (s_.2 ≠ s_.1) ∧ (s_.1 ≠ s_.2) ∧ (w.heap.size ≤ s_.2) ∧ (w.heap.size ≤ s_.2) ∧ (gb124 ≠ s_.2) ∧ (s_.2 ≠ gb124) ∧ (gb125 ≠ s_.2) ∧ (s_.2 ≠ gb125) ∧ (gb126 ≠ s_.2) ∧ (s_.2 ≠ gb126) ∧ (Below w.heap.size w w')) ?_ ?_
         rotate_left
         ·intro hJ4_5
          refine join_ (σ := Unit) 5 #[Y,Y,Y,N,N,N,N,N] (fun s_ => [(12, .agg #[.int .u64 t127, .int .u64 t128])]) (fun s_ w' => (w'.cell? ⟨gb124, 0, none⟩ = some (.bool a0_0) ∧ w'.cell? ⟨gb124, 1, none⟩ = some (.int .u64 a0_1) ∧ w'.cell? ⟨gb124, 2, none⟩ = some (.int .u64 a0_2) ∧ w'.cell? ⟨gb125, 0, none⟩ = some (.bool a1_0) ∧ w'.cell? ⟨gb125, 1, none⟩ = some (.int .u64 a1_1) ∧ w'.cell? ⟨gb125, 2, none⟩ = some (.int .u64 a1_2)) ∧ (w'.heap[gb124]? = some (.cells #[.bool a0_0, .int .u64 a0_1, .int .u64 a0_2] 60 (0, 0))) ∧ (w'.heap[gb125]? = some (.cells #[.bool a1_0, .int .u64 a1_1, .int .u64 a1_2] 60 (0, 0))) ∧ (w'.heap[gb126]? = some (.cells #[.bool false, .int .u64 0, .int .u64 0] 60 (0, 0))) ∧ (Below w.heap.size w w')) ?_ ?_
          rotate_left
          ·intro hJ1
           refine join_ (σ := Nat) 5 #[Y,N,Y,N,Y,N,N,N] (fun s_ => [(6, .pointer (some ⟨s_, 0, none⟩))]) (fun s_ w' => (w'.cell? ⟨gb124, 0, none⟩ = some (.bool a0_0) ∧ w'.cell? ⟨gb124, 1, none⟩ = some (.int .u64 a0_1) ∧ w'.cell? ⟨gb124, 2, none⟩ = some (.int .u64 a0_2) ∧ w'.cell? ⟨gb125, 0, none⟩ = some (.bool a1_0) ∧ w'.cell? ⟨gb125, 1, none⟩ = some (.int .u64 a1_1) ∧ w'.cell? ⟨gb125, 2, none⟩ = some (.int .u64 a1_2)) ∧ (w'.heap[gb124]? = some (.cells #[.bool a0_0, .int .u64 a0_1, .int .u64 a0_2] 60 (0, 0))) ∧ (w'.heap[gb125]? = some (.cells #[.bool a1_0, .int .u64 a1_1, .int .u64 a1_2] 60 (0, 0))) ∧ (w'.heap[gb126]? = some (.cells #[.bool false, .int .u64 0, .int .u64 0] 60 (0, 0))) ∧ (w'.heap[s_]? = some (.cells #[.int .u64 0, .int .u64 0] 83 (0, 0))) ∧ (w.heap.size ≤ s_) ∧ (w.heap.size ≤ s_) ∧ (gb124 ≠ s_) ∧ (s_ ≠ gb124) ∧ (gb125 ≠ s_) ∧ (s_ ≠ gb125) ∧ (gb126 ≠ s_) ∧ (s_ ≠ gb126) ∧ (Below w.heap.size w w')) ?_ ?_
           rotate_left
           ·intro hJ4
            refine join_ (σ := Nat) 5 #[Y,N,Y,N,N,Y,N,N] (fun s_ => [(7, .pointer (some ⟨s_, 0, none⟩))]) (fun s_ w' => (w'.cell? ⟨gb124, 0, none⟩ = some (.bool a0_0) ∧ w'.cell? ⟨gb124, 1, none⟩ = some (.int .u64 a0_1) ∧ w'.cell? ⟨gb124, 2, none⟩ = some (.int .u64 a0_2) ∧ w'.cell? ⟨gb125, 0, none⟩ = some (.bool a1_0) ∧ w'.cell? ⟨gb125, 1, none⟩ = some (.int .u64 a1_1) ∧ w'.cell? ⟨gb125, 2, none⟩ = some (.int .u64 a1_2)) ∧ (w'.heap[gb124]? = some (.cells #[.bool a0_0, .int .u64 a0_1, .int .u64 a0_2] 60 (0, 0))) ∧ (w'.heap[gb125]? = some (.cells #[.bool a1_0, .int .u64 a1_1, .int .u64 a1_2] 60 (0, 0))) ∧ (w'.heap[gb126]? = some (.cells #[.bool false, .int .u64 0, .int .u64 0] 60 (0, 0))) ∧ (w'.heap[s_]? = some (.cells #[.int .u64 0, .int .u64 0] 83 (0, 0))) ∧ (w.heap.size ≤ s_) ∧ (w.heap.size ≤ s_) ∧ (gb124 ≠ s_) ∧ (s_ ≠ gb124) ∧ (gb125 ≠ s_) ∧ (s_ ≠ gb125) ∧ (gb126 ≠ s_) ∧ (s_ ≠ gb126) ∧ (Below w.heap.size w w')) ?_ ?_
            rotate_left
            ·intro hJ5
             refine three_ (i := 1) (j := 4) (k := 5) (Ni := some 12) (Nj := some 6) (Nk := some 7) #[Y,Y,Y,N,N,N,N,N] #[Y,N,Y,N,Y,N,N,N] #[Y,N,Y,N,N,Y,N,N] rfl rfl rfl rfl rfl rfl (three_of HT_.out (by kernel_rfl)) (by decide) (by decide) (by decide) (fun K hK => ?_) (fun K hK => ?_) (fun K hK => ?_)
             ·skip
              refine goes_ Try.func70 (by kernel_rfl) rfl #[.agg #[.bool a0_0, .int .u64 a0_1, .int .u64 a0_2]] (by rfl) rfl rfl (by (try simp only [List.map_toArray, List.map_cons, List.map_nil]); first | done | rfl | (simp only [List.length_drop, List.length_take]; rfl)) ?_
              with_reducible refine (big_of.calls a0_0 a0_1 a0_2 t127 t128 _ A3.out).mono ?_
              rintro e w116 ⟨rfl, hb⟩
              refine ⟨_, rfl, ?_⟩
              replace BK124 := bbZ BK124 hb
              replace BK125 := bbZ BK125 hb
              replace BK126 := bbZ BK126 hb
              replace HB := Aside0.mk (below_step HB.out hb)
              (try clear hb)
              (try clear hb2)
              (try clear hk)
              (try clear hi)
              refine hK.out _ _ ⟨(blk_cell BK124.out 0).trans rfl, (blk_cell BK124.out 1).trans rfl, (blk_cell BK124.out 2).trans rfl, (blk_cell BK125.out 0).trans rfl, (blk_cell BK125.out 1).trans rfl, (blk_cell BK125.out 2).trans rfl⟩ (fun hHeld => ?_)
              clear hK K
              refine norm_ (a' := ?_) ?_ ?_
              rotate_left
              ·show Act.put _ (some 12) _ = _
               simp only [Act.put, sA, sB, sC, i64_w, i32_w]
               rfl
              exact norm_ (by simp only [putAll, Act.put, sA, sB, sC] <;> rfl) (hJ1 () _ ⟨hHeld, BK124.out, BK125.out, BK126.out, (by repeat (first | (with_reducible first | exact HB.out | apply below_alloc | apply pw_below_drewN | apply below_drew1 | refine below_set ?_ GE124.out | refine below_set ?_ GE125.out | refine below_set ?_ GE126.out) | exact HB.out))⟩)
             ·skip
              refine box_step ?hg (N := 6) ?hd (cs := #[.int .u64 0, .int .u64 0]) (t := 83) ?hr ?_; (case hd => rfl); (case hg => rfl); (case hr => first | (go_simp; done) | (go_simp; rfl))
              intro gb131 hg w116 hbox hb
              have BK131 := Aside0.mk (hbox)
              have GW131 := szZ HB hg
              have GE131 := szZ HB hg
              have NB124_131 := nlZ BK124 hg
              have NB131_124 := ngZ BK124 hg
              have NB125_131 := nlZ BK125 hg
              have NB131_125 := ngZ BK125 hg
              have NB126_131 := nlZ BK126 hg
              have NB131_126 := ngZ BK126 hg
              replace BK124 := bbZ BK124 hb
              replace BK125 := bbZ BK125 hb
              replace BK126 := bbZ BK126 hb
              replace HB := Aside0.mk (below_step HB.out hb)
              clear hb hbox hg
              refine hK.out _ _ ⟨(blk_cell BK124.out 0).trans rfl, (blk_cell BK124.out 1).trans rfl, (blk_cell BK124.out 2).trans rfl, (blk_cell BK125.out 0).trans rfl, (blk_cell BK125.out 1).trans rfl, (blk_cell BK125.out 2).trans rfl⟩ (fun hHeld => ?_)
              clear hK K
              refine norm_ (a' := ?_) ?_ ?_
              rotate_left
              ·show Act.put _ (some 6) _ = _
               simp only [Act.put, sA, sB, sC, i64_w, i32_w]
               rfl
              exact norm_ (by simp only [putAll, Act.put, sA, sB, sC] <;> rfl) (hJ4 (gb131) _ ⟨hHeld, BK124.out, BK125.out, BK126.out, BK131.out, GW131.out, GE131.out, NB124_131.out, NB131_124.out, NB125_131.out, NB131_125.out, NB126_131.out, NB131_126.out, (by repeat (first | (with_reducible first | exact HB.out | apply below_alloc | apply pw_below_drewN | apply below_drew1 | refine below_set ?_ GE124.out | refine below_set ?_ GE125.out | refine below_set ?_ GE126.out | refine below_set ?_ GE131.out) | exact HB.out))⟩)
             ·skip
              refine box_step ?hg (N := 7) ?hd (cs := #[.int .u64 0, .int .u64 0]) (t := 83) ?hr ?_; (case hd => rfl); (case hg => rfl); (case hr => first | (go_simp; done) | (go_simp; rfl))
              intro gb132 hg w116 hbox hb
              have BK132 := Aside0.mk (hbox)
              have GW132 := szZ HB hg
              have GE132 := szZ HB hg
              have NB124_132 := nlZ BK124 hg
              have NB132_124 := ngZ BK124 hg
              have NB125_132 := nlZ BK125 hg
              have NB132_125 := ngZ BK125 hg
              have NB126_132 := nlZ BK126 hg
              have NB132_126 := ngZ BK126 hg
              replace BK124 := bbZ BK124 hb
              replace BK125 := bbZ BK125 hb
              replace BK126 := bbZ BK126 hb
              replace HB := Aside0.mk (below_step HB.out hb)
              clear hb hbox hg
              refine hK.out _ _ ⟨(blk_cell BK124.out 0).trans rfl, (blk_cell BK124.out 1).trans rfl, (blk_cell BK124.out 2).trans rfl, (blk_cell BK125.out 0).trans rfl, (blk_cell BK125.out 1).trans rfl, (blk_cell BK125.out 2).trans rfl⟩ (fun hHeld => ?_)
              clear hK K
              refine norm_ (a' := ?_) ?_ ?_
              rotate_left
              ·show Act.put _ (some 7) _ = _
               simp only [Act.put, sA, sB, sC, i64_w, i32_w]
               rfl
              exact norm_ (by simp only [putAll, Act.put, sA, sB, sC] <;> rfl) (hJ5 (gb132) _ ⟨hHeld, BK124.out, BK125.out, BK126.out, BK132.out, GW132.out, GE132.out, NB124_132.out, NB132_124.out, NB125_132.out, NB132_125.out, NB126_132.out, NB132_126.out, (by repeat (first | (with_reducible first | exact HB.out | apply below_alloc | apply pw_below_drewN | apply below_drew1 | refine below_set ?_ GE124.out | refine below_set ?_ GE125.out | refine below_set ?_ GE126.out | refine below_set ?_ GE132.out) | exact HB.out))⟩)
            ·skip
             rintro gb132 w117 ⟨hS_, h0_, h1_, h2_, h3_, h4_, h5_, h6_, h7_, h8_, h9_, h10_, h11_, h12_⟩
             have BK132 := Aside0.mk h3_
             have GW132 := Aside0.mk h4_
             have GE132 := Aside0.mk h5_
             have NB124_132 := Aside0.mk h6_
             have NB132_124 := Aside0.mk h7_
             have NB125_132 := Aside0.mk h8_
             have NB132_125 := Aside0.mk h9_
             have NB126_132 := Aside0.mk h10_
             have NB132_126 := Aside0.mk h11_
             replace BK124 := Aside0.mk h0_
             replace BK125 := Aside0.mk h1_
             replace BK126 := Aside0.mk h2_
             replace HB := Aside0.mk h12_
             clear h0_ h1_ h2_ h3_ h4_ h5_ h6_ h7_ h8_ h9_ h10_ h11_ h12_
             have hHeld : w117.cell? ⟨gb124, 0, none⟩ = some (.bool a0_0) ∧ w117.cell? ⟨gb124, 1, none⟩ = some (.int .u64 a0_1) ∧ w117.cell? ⟨gb124, 2, none⟩ = some (.int .u64 a0_2) ∧ w117.cell? ⟨gb125, 0, none⟩ = some (.bool a1_0) ∧ w117.cell? ⟨gb125, 1, none⟩ = some (.int .u64 a1_1) ∧ w117.cell? ⟨gb125, 2, none⟩ = some (.int .u64 a1_2) := hS_
             refine norm_ (a' := ?_) ?_ ?_
             rotate_left
             ·simp only [putAll, Act.put, sA, sB, sC]
              rfl
             refine two_ (i := 1) (j := 4) (Ni := some 12) (Nj := some 6) #[Y,Y,Y,N,N,Y,N,N] #[Y,N,Y,N,Y,Y,N,N] rfl rfl rfl rfl (two_of HT_.out (by kernel_rfl)) (by decide) (by decide) (fun K hK => ?_) (fun K hK => ?_)
             ·skip
              refine goes_ Try.func70 (by kernel_rfl) rfl #[.agg #[.bool a0_0, .int .u64 a0_1, .int .u64 a0_2]] (by rfl) rfl rfl (by (try simp only [List.map_toArray, List.map_cons, List.map_nil]); first | done | rfl | (simp only [List.length_drop, List.length_take]; rfl)) ?_
              with_reducible refine (big_of.calls a0_0 a0_1 a0_2 t127 t128 _ A3.out).mono ?_
              rintro e w118 ⟨rfl, hb⟩
              refine ⟨_, rfl, ?_⟩
              replace BK124 := bbZ BK124 hb
              replace BK125 := bbZ BK125 hb
              replace BK126 := bbZ BK126 hb
              replace BK132 := bbZ BK132 hb
              replace HB := Aside0.mk (below_step HB.out hb)
              (try clear hb)
              (try clear hb2)
              (try clear hk)
              (try clear hi)
              refine hK.out _ _ ⟨(blk_cell BK124.out 0).trans rfl, (blk_cell BK124.out 1).trans rfl, (blk_cell BK124.out 2).trans rfl, (blk_cell BK125.out 0).trans rfl, (blk_cell BK125.out 1).trans rfl, (blk_cell BK125.out 2).trans rfl⟩ (fun hHeld => ?_)
              clear hK K
              refine norm_ (a' := ?_) ?_ ?_
              rotate_left
              ·show Act.put _ (some 12) _ = _
               simp only [Act.put, sA, sB, sC, i64_w, i32_w]
               rfl
              exact norm_ (by simp only [putAll, Act.put, sA, sB, sC] <;> rfl) (hJ1_5 (gb132) _ ⟨hHeld, BK124.out, BK125.out, BK126.out, BK132.out, GW132.out, GE132.out, NB124_132.out, NB132_124.out, NB125_132.out, NB132_125.out, NB126_132.out, NB132_126.out, (by repeat (first | (with_reducible first | exact HB.out | apply below_alloc | apply pw_below_drewN | apply below_drew1 | refine below_set ?_ GE124.out | refine below_set ?_ GE125.out | refine below_set ?_ GE126.out | refine below_set ?_ GE132.out) | exact HB.out))⟩)
             ·skip
              refine box_step ?hg (N := 6) ?hd (cs := #[.int .u64 0, .int .u64 0]) (t := 83) ?hr ?_; (case hd => rfl); (case hg => rfl); (case hr => first | (go_simp; done) | (go_simp; rfl))
              intro gb131 hg w118 hbox hb
              have BK131 := Aside0.mk (hbox)
              have GW131 := szZ HB hg
              have GE131 := szZ HB hg
              have NB124_131 := nlZ BK124 hg
              have NB131_124 := ngZ BK124 hg
              have NB125_131 := nlZ BK125 hg
              have NB131_125 := ngZ BK125 hg
              have NB126_131 := nlZ BK126 hg
              have NB131_126 := ngZ BK126 hg
              have NB132_131 := nlZ BK132 hg
              have NB131_132 := ngZ BK132 hg
              replace BK124 := bbZ BK124 hb
              replace BK125 := bbZ BK125 hb
              replace BK126 := bbZ BK126 hb
              replace BK132 := bbZ BK132 hb
              replace HB := Aside0.mk (below_step HB.out hb)
              clear hb hbox hg
              refine hK.out _ _ ⟨(blk_cell BK124.out 0).trans rfl, (blk_cell BK124.out 1).trans rfl, (blk_cell BK124.out 2).trans rfl, (blk_cell BK125.out 0).trans rfl, (blk_cell BK125.out 1).trans rfl, (blk_cell BK125.out 2).trans rfl⟩ (fun hHeld => ?_)
              clear hK K
              refine norm_ (a' := ?_) ?_ ?_
              rotate_left
              ·show Act.put _ (some 6) _ = _
               simp only [Act.put, sA, sB, sC, i64_w, i32_w]
               rfl
              exact norm_ (by simp only [putAll, Act.put, sA, sB, sC] <;> rfl) (hJ4_5 (gb131, gb132) _ ⟨hHeld, BK124.out, BK125.out, BK126.out, BK131.out, BK132.out, GW131.out, GE131.out, NB124_131.out, NB131_124.out, NB125_131.out, NB131_125.out, NB126_131.out, NB131_126.out, NB132_131.out, NB131_132.out, GW132.out, GE132.out, NB124_132.out, NB132_124.out, NB125_132.out, NB132_125.out, NB126_132.out, NB132_126.out, (by repeat (first | (with_reducible first | exact HB.out | apply below_alloc | apply pw_below_drewN | apply below_drew1 | refine below_set ?_ GE124.out | refine below_set ?_ GE125.out | refine below_set ?_ GE126.out | refine below_set ?_ GE132.out | refine below_set ?_ GE131.out) | exact HB.out))⟩)
           ·skip
            rintro gb131 w117 ⟨hS_, h0_, h1_, h2_, h3_, h4_, h5_, h6_, h7_, h8_, h9_, h10_, h11_, h12_⟩
            have BK131 := Aside0.mk h3_
            have GW131 := Aside0.mk h4_
            have GE131 := Aside0.mk h5_
            have NB124_131 := Aside0.mk h6_
            have NB131_124 := Aside0.mk h7_
            have NB125_131 := Aside0.mk h8_
            have NB131_125 := Aside0.mk h9_
            have NB126_131 := Aside0.mk h10_
            have NB131_126 := Aside0.mk h11_
            replace BK124 := Aside0.mk h0_
            replace BK125 := Aside0.mk h1_
            replace BK126 := Aside0.mk h2_
            replace HB := Aside0.mk h12_
            clear h0_ h1_ h2_ h3_ h4_ h5_ h6_ h7_ h8_ h9_ h10_ h11_ h12_
            have hHeld : w117.cell? ⟨gb124, 0, none⟩ = some (.bool a0_0) ∧ w117.cell? ⟨gb124, 1, none⟩ = some (.int .u64 a0_1) ∧ w117.cell? ⟨gb124, 2, none⟩ = some (.int .u64 a0_2) ∧ w117.cell? ⟨gb125, 0, none⟩ = some (.bool a1_0) ∧ w117.cell? ⟨gb125, 1, none⟩ = some (.int .u64 a1_1) ∧ w117.cell? ⟨gb125, 2, none⟩ = some (.int .u64 a1_2) := hS_
            refine norm_ (a' := ?_) ?_ ?_
            rotate_left
            ·simp only [putAll, Act.put, sA, sB, sC]
             rfl
            refine two_ (i := 1) (j := 5) (Ni := some 12) (Nj := some 7) #[Y,Y,Y,N,Y,N,N,N] #[Y,N,Y,N,Y,Y,N,N] rfl rfl rfl rfl (two_of HT_.out (by kernel_rfl)) (by decide) (by decide) (fun K hK => ?_) (fun K hK => ?_)
            ·skip
             refine goes_ Try.func70 (by kernel_rfl) rfl #[.agg #[.bool a0_0, .int .u64 a0_1, .int .u64 a0_2]] (by rfl) rfl rfl (by (try simp only [List.map_toArray, List.map_cons, List.map_nil]); first | done | rfl | (simp only [List.length_drop, List.length_take]; rfl)) ?_
             with_reducible refine (big_of.calls a0_0 a0_1 a0_2 t127 t128 _ A3.out).mono ?_
             rintro e w118 ⟨rfl, hb⟩
             refine ⟨_, rfl, ?_⟩
             replace BK124 := bbZ BK124 hb
             replace BK125 := bbZ BK125 hb
             replace BK126 := bbZ BK126 hb
             replace BK131 := bbZ BK131 hb
             replace HB := Aside0.mk (below_step HB.out hb)
             (try clear hb)
             (try clear hb2)
             (try clear hk)
             (try clear hi)
             refine hK.out _ _ ⟨(blk_cell BK124.out 0).trans rfl, (blk_cell BK124.out 1).trans rfl, (blk_cell BK124.out 2).trans rfl, (blk_cell BK125.out 0).trans rfl, (blk_cell BK125.out 1).trans rfl, (blk_cell BK125.out 2).trans rfl⟩ (fun hHeld => ?_)
             clear hK K
             refine norm_ (a' := ?_) ?_ ?_
             rotate_left
             ·show Act.put _ (some 12) _ = _
              simp only [Act.put, sA, sB, sC, i64_w, i32_w]
              rfl
             exact norm_ (by simp only [putAll, Act.put, sA, sB, sC] <;> rfl) (hJ1_4 (gb131) _ ⟨hHeld, BK124.out, BK125.out, BK126.out, BK131.out, GW131.out, GE131.out, NB124_131.out, NB131_124.out, NB125_131.out, NB131_125.out, NB126_131.out, NB131_126.out, (by repeat (first | (with_reducible first | exact HB.out | apply below_alloc | apply pw_below_drewN | apply below_drew1 | refine below_set ?_ GE124.out | refine below_set ?_ GE125.out | refine below_set ?_ GE126.out | refine below_set ?_ GE131.out) | exact HB.out))⟩)
            ·skip
             refine box_step ?hg (N := 7) ?hd (cs := #[.int .u64 0, .int .u64 0]) (t := 83) ?hr ?_; (case hd => rfl); (case hg => rfl); (case hr => first | (go_simp; done) | (go_simp; rfl))
             intro gb132 hg w118 hbox hb
             have BK132 := Aside0.mk (hbox)
             have GW132 := szZ HB hg
             have GE132 := szZ HB hg
             have NB124_132 := nlZ BK124 hg
             have NB132_124 := ngZ BK124 hg
             have NB125_132 := nlZ BK125 hg
             have NB132_125 := ngZ BK125 hg
             have NB126_132 := nlZ BK126 hg
             have NB132_126 := ngZ BK126 hg
             have NB131_132 := nlZ BK131 hg
             have NB132_131 := ngZ BK131 hg
             replace BK124 := bbZ BK124 hb
             replace BK125 := bbZ BK125 hb
             replace BK126 := bbZ BK126 hb
             replace BK131 := bbZ BK131 hb
             replace HB := Aside0.mk (below_step HB.out hb)
             clear hb hbox hg
             refine hK.out _ _ ⟨(blk_cell BK124.out 0).trans rfl, (blk_cell BK124.out 1).trans rfl, (blk_cell BK124.out 2).trans rfl, (blk_cell BK125.out 0).trans rfl, (blk_cell BK125.out 1).trans rfl, (blk_cell BK125.out 2).trans rfl⟩ (fun hHeld => ?_)
             clear hK K
             refine norm_ (a' := ?_) ?_ ?_
             rotate_left
             ·show Act.put _ (some 7) _ = _
              simp only [Act.put, sA, sB, sC, i64_w, i32_w]
              rfl
             exact norm_ (by simp only [putAll, Act.put, sA, sB, sC] <;> rfl) (hJ4_5 (gb131, gb132) _ ⟨hHeld, BK124.out, BK125.out, BK126.out, BK131.out, BK132.out, GW131.out, GE131.out, NB124_131.out, NB131_124.out, NB125_131.out, NB131_125.out, NB126_131.out, NB131_126.out, NB132_131.out, NB131_132.out, GW132.out, GE132.out, NB124_132.out, NB132_124.out, NB125_132.out, NB132_125.out, NB126_132.out, NB132_126.out, (by repeat (first | (with_reducible first | exact HB.out | apply below_alloc | apply pw_below_drewN | apply below_drew1 | refine below_set ?_ GE124.out | refine below_set ?_ GE125.out | refine below_set ?_ GE126.out | refine below_set ?_ GE131.out | refine below_set ?_ GE132.out) | exact HB.out))⟩)
          ·skip
           rintro _ w117 ⟨hS_, h0_, h1_, h2_, h3_⟩
           replace BK124 := Aside0.mk h0_
           replace BK125 := Aside0.mk h1_
           replace BK126 := Aside0.mk h2_
           replace HB := Aside0.mk h3_
           clear h0_ h1_ h2_ h3_
           have hHeld : w117.cell? ⟨gb124, 0, none⟩ = some (.bool a0_0) ∧ w117.cell? ⟨gb124, 1, none⟩ = some (.int .u64 a0_1) ∧ w117.cell? ⟨gb124, 2, none⟩ = some (.int .u64 a0_2) ∧ w117.cell? ⟨gb125, 0, none⟩ = some (.bool a1_0) ∧ w117.cell? ⟨gb125, 1, none⟩ = some (.int .u64 a1_1) ∧ w117.cell? ⟨gb125, 2, none⟩ = some (.int .u64 a1_2) := hS_
           refine norm_ (a' := ?_) ?_ ?_
           rotate_left
           ·simp only [putAll, Act.put, sA, sB, sC]
            rfl
           refine three_ (i := 3) (j := 4) (k := 5) (Ni := some 14) (Nj := some 6) (Nk := some 7) #[Y,Y,Y,Y,N,N,N,N] #[Y,Y,Y,N,Y,N,N,N] #[Y,Y,Y,N,N,Y,N,N] rfl rfl rfl rfl rfl rfl (three_of HT_.out (by kernel_rfl)) (by decide) (by decide) (by decide) (fun K hK => ?_) (fun K hK => ?_) (fun K hK => ?_)
           ·skip
            refine goes_ Try.func70 (by kernel_rfl) rfl #[.agg #[.bool a1_0, .int .u64 a1_1, .int .u64 a1_2]] (by rfl) rfl rfl (by (try simp only [List.map_toArray, List.map_cons, List.map_nil]); first | done | rfl | (simp only [List.length_drop, List.length_take]; rfl)) ?_
            with_reducible refine (big_of.calls a1_0 a1_1 a1_2 t129 t130 _ A4.out).mono ?_
            rintro e w118 ⟨rfl, hb⟩
            refine ⟨_, rfl, ?_⟩
            replace BK124 := bbZ BK124 hb
            replace BK125 := bbZ BK125 hb
            replace BK126 := bbZ BK126 hb
            replace HB := Aside0.mk (below_step HB.out hb)
            (try clear hb)
            (try clear hb2)
            (try clear hk)
            (try clear hi)
            refine hK.out _ _ ⟨(blk_cell BK124.out 0).trans rfl, (blk_cell BK124.out 1).trans rfl, (blk_cell BK124.out 2).trans rfl, (blk_cell BK125.out 0).trans rfl, (blk_cell BK125.out 1).trans rfl, (blk_cell BK125.out 2).trans rfl⟩ (fun hHeld => ?_)
            clear hK K
            refine norm_ (a' := ?_) ?_ ?_
            rotate_left
            ·show Act.put _ (some 14) _ = _
             simp only [Act.put, sA, sB, sC, i64_w, i32_w]
             rfl
            exact norm_ (by simp only [putAll, Act.put, sA, sB, sC] <;> rfl) (hJ1_3 () _ ⟨hHeld, BK124.out, BK125.out, BK126.out, (by repeat (first | (with_reducible first | exact HB.out | apply below_alloc | apply pw_below_drewN | apply below_drew1 | refine below_set ?_ GE124.out | refine below_set ?_ GE125.out | refine below_set ?_ GE126.out) | exact HB.out))⟩)
           ·skip
            refine box_step ?hg (N := 6) ?hd (cs := #[.int .u64 0, .int .u64 0]) (t := 83) ?hr ?_; (case hd => rfl); (case hg => rfl); (case hr => first | (go_simp; done) | (go_simp; rfl))
            intro gb131 hg w118 hbox hb
            have BK131 := Aside0.mk (hbox)
            have GW131 := szZ HB hg
            have GE131 := szZ HB hg
            have NB124_131 := nlZ BK124 hg
            have NB131_124 := ngZ BK124 hg
            have NB125_131 := nlZ BK125 hg
            have NB131_125 := ngZ BK125 hg
            have NB126_131 := nlZ BK126 hg
            have NB131_126 := ngZ BK126 hg
            replace BK124 := bbZ BK124 hb
            replace BK125 := bbZ BK125 hb
            replace BK126 := bbZ BK126 hb
            replace HB := Aside0.mk (below_step HB.out hb)
            clear hb hbox hg
            refine hK.out _ _ ⟨(blk_cell BK124.out 0).trans rfl, (blk_cell BK124.out 1).trans rfl, (blk_cell BK124.out 2).trans rfl, (blk_cell BK125.out 0).trans rfl, (blk_cell BK125.out 1).trans rfl, (blk_cell BK125.out 2).trans rfl⟩ (fun hHeld => ?_)
            clear hK K
            refine norm_ (a' := ?_) ?_ ?_
            rotate_left
            ·show Act.put _ (some 6) _ = _
             simp only [Act.put, sA, sB, sC, i64_w, i32_w]
             rfl
            exact norm_ (by simp only [putAll, Act.put, sA, sB, sC] <;> rfl) (hJ1_4 (gb131) _ ⟨hHeld, BK124.out, BK125.out, BK126.out, BK131.out, GW131.out, GE131.out, NB124_131.out, NB131_124.out, NB125_131.out, NB131_125.out, NB126_131.out, NB131_126.out, (by repeat (first | (with_reducible first | exact HB.out | apply below_alloc | apply pw_below_drewN | apply below_drew1 | refine below_set ?_ GE124.out | refine below_set ?_ GE125.out | refine below_set ?_ GE126.out | refine below_set ?_ GE131.out) | exact HB.out))⟩)
           ·skip
            refine box_step ?hg (N := 7) ?hd (cs := #[.int .u64 0, .int .u64 0]) (t := 83) ?hr ?_; (case hd => rfl); (case hg => rfl); (case hr => first | (go_simp; done) | (go_simp; rfl))
            intro gb132 hg w118 hbox hb
            have BK132 := Aside0.mk (hbox)
            have GW132 := szZ HB hg
            have GE132 := szZ HB hg
            have NB124_132 := nlZ BK124 hg
            have NB132_124 := ngZ BK124 hg
            have NB125_132 := nlZ BK125 hg
            have NB132_125 := ngZ BK125 hg
            have NB126_132 := nlZ BK126 hg
            have NB132_126 := ngZ BK126 hg
            replace BK124 := bbZ BK124 hb
            replace BK125 := bbZ BK125 hb
            replace BK126 := bbZ BK126 hb
            replace HB := Aside0.mk (below_step HB.out hb)
            clear hb hbox hg
            refine hK.out _ _ ⟨(blk_cell BK124.out 0).trans rfl, (blk_cell BK124.out 1).trans rfl, (blk_cell BK124.out 2).trans rfl, (blk_cell BK125.out 0).trans rfl, (blk_cell BK125.out 1).trans rfl, (blk_cell BK125.out 2).trans rfl⟩ (fun hHeld => ?_)
            clear hK K
            refine norm_ (a' := ?_) ?_ ?_
            rotate_left
            ·show Act.put _ (some 7) _ = _
             simp only [Act.put, sA, sB, sC, i64_w, i32_w]
             rfl
            exact norm_ (by simp only [putAll, Act.put, sA, sB, sC] <;> rfl) (hJ1_5 (gb132) _ ⟨hHeld, BK124.out, BK125.out, BK126.out, BK132.out, GW132.out, GE132.out, NB124_132.out, NB132_124.out, NB125_132.out, NB132_125.out, NB126_132.out, NB132_126.out, (by repeat (first | (with_reducible first | exact HB.out | apply below_alloc | apply pw_below_drewN | apply below_drew1 | refine below_set ?_ GE124.out | refine below_set ?_ GE125.out | refine below_set ?_ GE126.out | refine below_set ?_ GE132.out) | exact HB.out))⟩)
         ·skip
          rintro ⟨gb131, gb132⟩ w118 ⟨hS_, h0_, h1_, h2_, h3_, h4_, h5_, h6_, h7_, h8_, h9_, h10_, h11_, h12_, h13_, h14_, h15_, h16_, h17_, h18_, h19_, h20_, h21_, h22_, h23_⟩
          have BK131 := Aside0.mk h3_
          have BK132 := Aside0.mk h4_
          have GW131 := Aside0.mk h5_
          have GE131 := Aside0.mk h6_
          have NB124_131 := Aside0.mk h7_
          have NB131_124 := Aside0.mk h8_
          have NB125_131 := Aside0.mk h9_
          have NB131_125 := Aside0.mk h10_
          have NB126_131 := Aside0.mk h11_
          have NB131_126 := Aside0.mk h12_
          have NB132_131 := Aside0.mk h13_
          have NB131_132 := Aside0.mk h14_
          have GW132 := Aside0.mk h15_
          have GE132 := Aside0.mk h16_
          have NB124_132 := Aside0.mk h17_
          have NB132_124 := Aside0.mk h18_
          have NB125_132 := Aside0.mk h19_
          have NB132_125 := Aside0.mk h20_
          have NB126_132 := Aside0.mk h21_
          have NB132_126 := Aside0.mk h22_
          replace BK124 := Aside0.mk h0_
          replace BK125 := Aside0.mk h1_
          replace BK126 := Aside0.mk h2_
          replace HB := Aside0.mk h23_
          clear h0_ h1_ h2_ h3_ h4_ h5_ h6_ h7_ h8_ h9_ h10_ h11_ h12_ h13_ h14_ h15_ h16_ h17_ h18_ h19_ h20_ h21_ h22_ h23_
          have hHeld : w118.cell? ⟨gb124, 0, none⟩ = some (.bool a0_0) ∧ w118.cell? ⟨gb124, 1, none⟩ = some (.int .u64 a0_1) ∧ w118.cell? ⟨gb124, 2, none⟩ = some (.int .u64 a0_2) ∧ w118.cell? ⟨gb125, 0, none⟩ = some (.bool a1_0) ∧ w118.cell? ⟨gb125, 1, none⟩ = some (.int .u64 a1_1) ∧ w118.cell? ⟨gb125, 2, none⟩ = some (.int .u64 a1_2) := hS_
          refine norm_ (a' := ?_) ?_ ?_
          rotate_left
          ·simp only [putAll, Act.put, sA, sB, sC]
           rfl
          refine one_ (i := 1) (N := some 12) #[Y,Y,Y,N,Y,Y,N,N] rfl rfl (one_of HT_.out (by kernel_rfl)) (by decide) (fun K hK => ?_)
          refine goes_ Try.func70 (by kernel_rfl) rfl #[.agg #[.bool a0_0, .int .u64 a0_1, .int .u64 a0_2]] (by rfl) rfl rfl (by (try simp only [List.map_toArray, List.map_cons, List.map_nil]); first | done | rfl | (simp only [List.length_drop, List.length_take]; rfl)) ?_
          with_reducible refine (big_of.calls a0_0 a0_1 a0_2 t127 t128 _ A3.out).mono ?_
          rintro e w119 ⟨rfl, hb⟩
          refine ⟨_, rfl, ?_⟩
          replace BK124 := bbZ BK124 hb
          replace BK125 := bbZ BK125 hb
          replace BK126 := bbZ BK126 hb
          replace BK131 := bbZ BK131 hb
          replace BK132 := bbZ BK132 hb
          replace HB := Aside0.mk (below_step HB.out hb)
          (try clear hb)
          (try clear hb2)
          (try clear hk)
          (try clear hi)
          refine hK.out _ _ ⟨(blk_cell BK124.out 0).trans rfl, (blk_cell BK124.out 1).trans rfl, (blk_cell BK124.out 2).trans rfl, (blk_cell BK125.out 0).trans rfl, (blk_cell BK125.out 1).trans rfl, (blk_cell BK125.out 2).trans rfl⟩ (fun hHeld => ?_)
          clear hK K
          refine norm_ (a' := ?_) ?_ ?_
          rotate_left
          ·show Act.put _ (some 12) _ = _
           simp only [Act.put, sA, sB, sC, i64_w, i32_w]
           rfl
          exact norm_ (by simp only [putAll, Act.put, sA, sB, sC] <;> rfl) (hJ1_4_5 (gb131, gb132) _ ⟨hHeld, BK124.out, BK125.out, BK126.out, BK131.out, BK132.out, GW131.out, GE131.out, NB124_131.out, NB131_124.out, NB125_131.out, NB131_125.out, NB126_131.out, NB131_126.out, NB132_131.out, NB131_132.out, GW132.out, GE132.out, NB124_132.out, NB132_124.out, NB125_132.out, NB132_125.out, NB126_132.out, NB132_126.out, (by repeat (first | (with_reducible first | exact HB.out | apply below_alloc | apply pw_below_drewN | apply below_drew1 | refine below_set ?_ GE124.out | refine below_set ?_ GE125.out | refine below_set ?_ GE126.out | refine below_set ?_ GE131.out | refine below_set ?_ GE132.out) | exact HB.out))⟩)
        ·skip
         rintro gb132 w118 ⟨hS_, h0_, h1_, h2_, h3_, h4_, h5_, h6_, h7_, h8_, h9_, h10_, h11_, h12_⟩
         have BK132 := Aside0.mk h3_
         have GW132 := Aside0.mk h4_
         have GE132 := Aside0.mk h5_
         have NB124_132 := Aside0.mk h6_
         have NB132_124 := Aside0.mk h7_
         have NB125_132 := Aside0.mk h8_
         have NB132_125 := Aside0.mk h9_
         have NB126_132 := Aside0.mk h10_
         have NB132_126 := Aside0.mk h11_
         replace BK124 := Aside0.mk h0_
         replace BK125 := Aside0.mk h1_
         replace BK126 := Aside0.mk h2_
         replace HB := Aside0.mk h12_
         clear h0_ h1_ h2_ h3_ h4_ h5_ h6_ h7_ h8_ h9_ h10_ h11_ h12_
         have hHeld : w118.cell? ⟨gb124, 0, none⟩ = some (.bool a0_0) ∧ w118.cell? ⟨gb124, 1, none⟩ = some (.int .u64 a0_1) ∧ w118.cell? ⟨gb124, 2, none⟩ = some (.int .u64 a0_2) ∧ w118.cell? ⟨gb125, 0, none⟩ = some (.bool a1_0) ∧ w118.cell? ⟨gb125, 1, none⟩ = some (.int .u64 a1_1) ∧ w118.cell? ⟨gb125, 2, none⟩ = some (.int .u64 a1_2) := hS_
         refine norm_ (a' := ?_) ?_ ?_
         rotate_left
         ·simp only [putAll, Act.put, sA, sB, sC]
          rfl
         refine two_ (i := 3) (j := 4) (Ni := some 14) (Nj := some 6) #[Y,Y,Y,Y,N,Y,N,N] #[Y,Y,Y,N,Y,Y,N,N] rfl rfl rfl rfl (two_of HT_.out (by kernel_rfl)) (by decide) (by decide) (fun K hK => ?_) (fun K hK => ?_)
         ·skip
          refine goes_ Try.func70 (by kernel_rfl) rfl #[.agg #[.bool a1_0, .int .u64 a1_1, .int .u64 a1_2]] (by rfl) rfl rfl (by (try simp only [List.map_toArray, List.map_cons, List.map_nil]); first | done | rfl | (simp only [List.length_drop, List.length_take]; rfl)) ?_
          with_reducible refine (big_of.calls a1_0 a1_1 a1_2 t129 t130 _ A4.out).mono ?_
          rintro e w119 ⟨rfl, hb⟩
          refine ⟨_, rfl, ?_⟩
          replace BK124 := bbZ BK124 hb
          replace BK125 := bbZ BK125 hb
          replace BK126 := bbZ BK126 hb
          replace BK132 := bbZ BK132 hb
          replace HB := Aside0.mk (below_step HB.out hb)
          (try clear hb)
          (try clear hb2)
          (try clear hk)
          (try clear hi)
          refine hK.out _ _ ⟨(blk_cell BK124.out 0).trans rfl, (blk_cell BK124.out 1).trans rfl, (blk_cell BK124.out 2).trans rfl, (blk_cell BK125.out 0).trans rfl, (blk_cell BK125.out 1).trans rfl, (blk_cell BK125.out 2).trans rfl⟩ (fun hHeld => ?_)
          clear hK K
          refine norm_ (a' := ?_) ?_ ?_
          rotate_left
          ·show Act.put _ (some 14) _ = _
           simp only [Act.put, sA, sB, sC, i64_w, i32_w]
           rfl
          exact norm_ (by simp only [putAll, Act.put, sA, sB, sC] <;> rfl) (hJ1_3_5 (gb132) _ ⟨hHeld, BK124.out, BK125.out, BK126.out, BK132.out, GW132.out, GE132.out, NB124_132.out, NB132_124.out, NB125_132.out, NB132_125.out, NB126_132.out, NB132_126.out, (by repeat (first | (with_reducible first | exact HB.out | apply below_alloc | apply pw_below_drewN | apply below_drew1 | refine below_set ?_ GE124.out | refine below_set ?_ GE125.out | refine below_set ?_ GE126.out | refine below_set ?_ GE132.out) | exact HB.out))⟩)
         ·skip
          refine box_step ?hg (N := 6) ?hd (cs := #[.int .u64 0, .int .u64 0]) (t := 83) ?hr ?_; (case hd => rfl); (case hg => rfl); (case hr => first | (go_simp; done) | (go_simp; rfl))
          intro gb131 hg w119 hbox hb
          have BK131 := Aside0.mk (hbox)
          have GW131 := szZ HB hg
          have GE131 := szZ HB hg
          have NB124_131 := nlZ BK124 hg
          have NB131_124 := ngZ BK124 hg
          have NB125_131 := nlZ BK125 hg
          have NB131_125 := ngZ BK125 hg
          have NB126_131 := nlZ BK126 hg
          have NB131_126 := ngZ BK126 hg
          have NB132_131 := nlZ BK132 hg
          have NB131_132 := ngZ BK132 hg
          replace BK124 := bbZ BK124 hb
          replace BK125 := bbZ BK125 hb
          replace BK126 := bbZ BK126 hb
          replace BK132 := bbZ BK132 hb
          replace HB := Aside0.mk (below_step HB.out hb)
          clear hb hbox hg
          refine hK.out _ _ ⟨(blk_cell BK124.out 0).trans rfl, (blk_cell BK124.out 1).trans rfl, (blk_cell BK124.out 2).trans rfl, (blk_cell BK125.out 0).trans rfl, (blk_cell BK125.out 1).trans rfl, (blk_cell BK125.out 2).trans rfl⟩ (fun hHeld => ?_)
          clear hK K
          refine norm_ (a' := ?_) ?_ ?_
          rotate_left
          ·show Act.put _ (some 6) _ = _
           simp only [Act.put, sA, sB, sC, i64_w, i32_w]
           rfl
          exact norm_ (by simp only [putAll, Act.put, sA, sB, sC] <;> rfl) (hJ1_4_5 (gb131, gb132) _ ⟨hHeld, BK124.out, BK125.out, BK126.out, BK131.out, BK132.out, GW131.out, GE131.out, NB124_131.out, NB131_124.out, NB125_131.out, NB131_125.out, NB126_131.out, NB131_126.out, NB132_131.out, NB131_132.out, GW132.out, GE132.out, NB124_132.out, NB132_124.out, NB125_132.out, NB132_125.out, NB126_132.out, NB132_126.out, (by repeat (first | (with_reducible first | exact HB.out | apply below_alloc | apply pw_below_drewN | apply below_drew1 | refine below_set ?_ GE124.out | refine below_set ?_ GE125.out | refine below_set ?_ GE126.out | refine below_set ?_ GE132.out | refine below_set ?_ GE131.out) | exact HB.out))⟩)
       ·skip
        rintro gb131 w118 ⟨hS_, h0_, h1_, h2_, h3_, h4_, h5_, h6_, h7_, h8_, h9_, h10_, h11_, h12_⟩
        have BK131 := Aside0.mk h3_
        have GW131 := Aside0.mk h4_
        have GE131 := Aside0.mk h5_
        have NB124_131 := Aside0.mk h6_
        have NB131_124 := Aside0.mk h7_
        have NB125_131 := Aside0.mk h8_
        have NB131_125 := Aside0.mk h9_
        have NB126_131 := Aside0.mk h10_
        have NB131_126 := Aside0.mk h11_
        replace BK124 := Aside0.mk h0_
        replace BK125 := Aside0.mk h1_
        replace BK126 := Aside0.mk h2_
        replace HB := Aside0.mk h12_
        clear h0_ h1_ h2_ h3_ h4_ h5_ h6_ h7_ h8_ h9_ h10_ h11_ h12_
        have hHeld : w118.cell? ⟨gb124, 0, none⟩ = some (.bool a0_0) ∧ w118.cell? ⟨gb124, 1, none⟩ = some (.int .u64 a0_1) ∧ w118.cell? ⟨gb124, 2, none⟩ = some (.int .u64 a0_2) ∧ w118.cell? ⟨gb125, 0, none⟩ = some (.bool a1_0) ∧ w118.cell? ⟨gb125, 1, none⟩ = some (.int .u64 a1_1) ∧ w118.cell? ⟨gb125, 2, none⟩ = some (.int .u64 a1_2) := hS_
        refine norm_ (a' := ?_) ?_ ?_
        rotate_left
        ·simp only [putAll, Act.put, sA, sB, sC]
         rfl
        refine two_ (i := 3) (j := 5) (Ni := some 14) (Nj := some 7) #[Y,Y,Y,Y,Y,N,N,N] #[Y,Y,Y,N,Y,Y,N,N] rfl rfl rfl rfl (two_of HT_.out (by kernel_rfl)) (by decide) (by decide) (fun K hK => ?_) (fun K hK => ?_)
        ·skip
         refine goes_ Try.func70 (by kernel_rfl) rfl #[.agg #[.bool a1_0, .int .u64 a1_1, .int .u64 a1_2]] (by rfl) rfl rfl (by (try simp only [List.map_toArray, List.map_cons, List.map_nil]); first | done | rfl | (simp only [List.length_drop, List.length_take]; rfl)) ?_
         with_reducible refine (big_of.calls a1_0 a1_1 a1_2 t129 t130 _ A4.out).mono ?_
         rintro e w119 ⟨rfl, hb⟩
         refine ⟨_, rfl, ?_⟩
         replace BK124 := bbZ BK124 hb
         replace BK125 := bbZ BK125 hb
         replace BK126 := bbZ BK126 hb
         replace BK131 := bbZ BK131 hb
         replace HB := Aside0.mk (below_step HB.out hb)
         (try clear hb)
         (try clear hb2)
         (try clear hk)
         (try clear hi)
         refine hK.out _ _ ⟨(blk_cell BK124.out 0).trans rfl, (blk_cell BK124.out 1).trans rfl, (blk_cell BK124.out 2).trans rfl, (blk_cell BK125.out 0).trans rfl, (blk_cell BK125.out 1).trans rfl, (blk_cell BK125.out 2).trans rfl⟩ (fun hHeld => ?_)
         clear hK K
         refine norm_ (a' := ?_) ?_ ?_
         rotate_left
         ·show Act.put _ (some 14) _ = _
          simp only [Act.put, sA, sB, sC, i64_w, i32_w]
          rfl
         exact norm_ (by simp only [putAll, Act.put, sA, sB, sC] <;> rfl) (hJ1_3_4 (gb131) _ ⟨hHeld, BK124.out, BK125.out, BK126.out, BK131.out, GW131.out, GE131.out, NB124_131.out, NB131_124.out, NB125_131.out, NB131_125.out, NB126_131.out, NB131_126.out, (by repeat (first | (with_reducible first | exact HB.out | apply below_alloc | apply pw_below_drewN | apply below_drew1 | refine below_set ?_ GE124.out | refine below_set ?_ GE125.out | refine below_set ?_ GE126.out | refine below_set ?_ GE131.out) | exact HB.out))⟩)
        ·skip
         refine box_step ?hg (N := 7) ?hd (cs := #[.int .u64 0, .int .u64 0]) (t := 83) ?hr ?_; (case hd => rfl); (case hg => rfl); (case hr => first | (go_simp; done) | (go_simp; rfl))
         intro gb132 hg w119 hbox hb
         have BK132 := Aside0.mk (hbox)
         have GW132 := szZ HB hg
         have GE132 := szZ HB hg
         have NB124_132 := nlZ BK124 hg
         have NB132_124 := ngZ BK124 hg
         have NB125_132 := nlZ BK125 hg
         have NB132_125 := ngZ BK125 hg
         have NB126_132 := nlZ BK126 hg
         have NB132_126 := ngZ BK126 hg
         have NB131_132 := nlZ BK131 hg
         have NB132_131 := ngZ BK131 hg
         replace BK124 := bbZ BK124 hb
         replace BK125 := bbZ BK125 hb
         replace BK126 := bbZ BK126 hb
         replace BK131 := bbZ BK131 hb
         replace HB := Aside0.mk (below_step HB.out hb)
         clear hb hbox hg
         refine hK.out _ _ ⟨(blk_cell BK124.out 0).trans rfl, (blk_cell BK124.out 1).trans rfl, (blk_cell BK124.out 2).trans rfl, (blk_cell BK125.out 0).trans rfl, (blk_cell BK125.out 1).trans rfl, (blk_cell BK125.out 2).trans rfl⟩ (fun hHeld => ?_)
         clear hK K
         refine norm_ (a' := ?_) ?_ ?_
         rotate_left
         ·show Act.put _ (some 7) _ = _
          simp only [Act.put, sA, sB, sC, i64_w, i32_w]
          rfl
         exact norm_ (by simp only [putAll, Act.put, sA, sB, sC] <;> rfl) (hJ1_4_5 (gb131, gb132) _ ⟨hHeld, BK124.out, BK125.out, BK126.out, BK131.out, BK132.out, GW131.out, GE131.out, NB124_131.out, NB131_124.out, NB125_131.out, NB131_125.out, NB126_131.out, NB131_126.out, NB132_131.out, NB131_132.out, GW132.out, GE132.out, NB124_132.out, NB132_124.out, NB125_132.out, NB132_125.out, NB126_132.out, NB132_126.out, (by repeat (first | (with_reducible first | exact HB.out | apply below_alloc | apply pw_below_drewN | apply below_drew1 | refine below_set ?_ GE124.out | refine below_set ?_ GE125.out | refine below_set ?_ GE126.out | refine below_set ?_ GE131.out | refine below_set ?_ GE132.out) | exact HB.out))⟩)
      ·skip
       rintro _ w118 ⟨hS_, h0_, h1_, h2_, h3_⟩
       replace BK124 := Aside0.mk h0_
       replace BK125 := Aside0.mk h1_
       replace BK126 := Aside0.mk h2_
       replace HB := Aside0.mk h3_
       clear h0_ h1_ h2_ h3_
       have hHeld : w118.cell? ⟨gb124, 0, none⟩ = some (.bool a0_0) ∧ w118.cell? ⟨gb124, 1, none⟩ = some (.int .u64 a0_1) ∧ w118.cell? ⟨gb124, 2, none⟩ = some (.int .u64 a0_2) ∧ w118.cell? ⟨gb125, 0, none⟩ = some (.bool a1_0) ∧ w118.cell? ⟨gb125, 1, none⟩ = some (.int .u64 a1_1) ∧ w118.cell? ⟨gb125, 2, none⟩ = some (.int .u64 a1_2) := hS_
       refine norm_ (a' := ?_) ?_ ?_
       rotate_left
       ·simp only [putAll, Act.put, sA, sB, sC]
        rfl
       refine two_ (i := 4) (j := 5) (Ni := some 6) (Nj := some 7) #[Y,Y,Y,Y,Y,N,N,N] #[Y,Y,Y,Y,N,Y,N,N] rfl rfl rfl rfl (two_of HT_.out (by kernel_rfl)) (by decide) (by decide) (fun K hK => ?_) (fun K hK => ?_)
       ·skip
        refine box_step ?hg (N := 6) ?hd (cs := #[.int .u64 0, .int .u64 0]) (t := 83) ?hr ?_; (case hd => rfl); (case hg => rfl); (case hr => first | (go_simp; done) | (go_simp; rfl))
        intro gb131 hg w119 hbox hb
        have BK131 := Aside0.mk (hbox)
        have GW131 := szZ HB hg
        have GE131 := szZ HB hg
        have NB124_131 := nlZ BK124 hg
        have NB131_124 := ngZ BK124 hg
        have NB125_131 := nlZ BK125 hg
        have NB131_125 := ngZ BK125 hg
        have NB126_131 := nlZ BK126 hg
        have NB131_126 := ngZ BK126 hg
        replace BK124 := bbZ BK124 hb
        replace BK125 := bbZ BK125 hb
        replace BK126 := bbZ BK126 hb
        replace HB := Aside0.mk (below_step HB.out hb)
        clear hb hbox hg
        refine hK.out _ _ ⟨(blk_cell BK124.out 0).trans rfl, (blk_cell BK124.out 1).trans rfl, (blk_cell BK124.out 2).trans rfl, (blk_cell BK125.out 0).trans rfl, (blk_cell BK125.out 1).trans rfl, (blk_cell BK125.out 2).trans rfl⟩ (fun hHeld => ?_)
        clear hK K
        refine norm_ (a' := ?_) ?_ ?_
        rotate_left
        ·show Act.put _ (some 6) _ = _
         simp only [Act.put, sA, sB, sC, i64_w, i32_w]
         rfl
        exact norm_ (by simp only [putAll, Act.put, sA, sB, sC] <;> rfl) (hJ1_3_4 (gb131) _ ⟨hHeld, BK124.out, BK125.out, BK126.out, BK131.out, GW131.out, GE131.out, NB124_131.out, NB131_124.out, NB125_131.out, NB131_125.out, NB126_131.out, NB131_126.out, (by repeat (first | (with_reducible first | exact HB.out | apply below_alloc | apply pw_below_drewN | apply below_drew1 | refine below_set ?_ GE124.out | refine below_set ?_ GE125.out | refine below_set ?_ GE126.out | refine below_set ?_ GE131.out) | exact HB.out))⟩)
       ·skip
        refine box_step ?hg (N := 7) ?hd (cs := #[.int .u64 0, .int .u64 0]) (t := 83) ?hr ?_; (case hd => rfl); (case hg => rfl); (case hr => first | (go_simp; done) | (go_simp; rfl))
        intro gb132 hg w119 hbox hb
        have BK132 := Aside0.mk (hbox)
        have GW132 := szZ HB hg
        have GE132 := szZ HB hg
        have NB124_132 := nlZ BK124 hg
        have NB132_124 := ngZ BK124 hg
        have NB125_132 := nlZ BK125 hg
        have NB132_125 := ngZ BK125 hg
        have NB126_132 := nlZ BK126 hg
        have NB132_126 := ngZ BK126 hg
        replace BK124 := bbZ BK124 hb
        replace BK125 := bbZ BK125 hb
        replace BK126 := bbZ BK126 hb
        replace HB := Aside0.mk (below_step HB.out hb)
        clear hb hbox hg
        refine hK.out _ _ ⟨(blk_cell BK124.out 0).trans rfl, (blk_cell BK124.out 1).trans rfl, (blk_cell BK124.out 2).trans rfl, (blk_cell BK125.out 0).trans rfl, (blk_cell BK125.out 1).trans rfl, (blk_cell BK125.out 2).trans rfl⟩ (fun hHeld => ?_)
        clear hK K
        refine norm_ (a' := ?_) ?_ ?_
        rotate_left
        ·show Act.put _ (some 7) _ = _
         simp only [Act.put, sA, sB, sC, i64_w, i32_w]
         rfl
        exact norm_ (by simp only [putAll, Act.put, sA, sB, sC] <;> rfl) (hJ1_3_5 (gb132) _ ⟨hHeld, BK124.out, BK125.out, BK126.out, BK132.out, GW132.out, GE132.out, NB124_132.out, NB132_124.out, NB125_132.out, NB132_125.out, NB126_132.out, NB132_126.out, (by repeat (first | (with_reducible first | exact HB.out | apply below_alloc | apply pw_below_drewN | apply below_drew1 | refine below_set ?_ GE124.out | refine below_set ?_ GE125.out | refine below_set ?_ GE126.out | refine below_set ?_ GE132.out) | exact HB.out))⟩)
     ·skip
      rintro ⟨gb131, gb132⟩ w119 ⟨hS_, h0_, h1_, h2_, h3_, h4_, h5_, h6_, h7_, h8_, h9_, h10_, h11_, h12_, h13_, h14_, h15_, h16_, h17_, h18_, h19_, h20_, h21_, h22_, h23_⟩
      have BK131 := Aside0.mk h3_
      have BK132 := Aside0.mk h4_
      have GW131 := Aside0.mk h5_
      have GE131 := Aside0.mk h6_
      have NB124_131 := Aside0.mk h7_
      have NB131_124 := Aside0.mk h8_
      have NB125_131 := Aside0.mk h9_
      have NB131_125 := Aside0.mk h10_
      have NB126_131 := Aside0.mk h11_
      have NB131_126 := Aside0.mk h12_
      have NB132_131 := Aside0.mk h13_
      have NB131_132 := Aside0.mk h14_
      have GW132 := Aside0.mk h15_
      have GE132 := Aside0.mk h16_
      have NB124_132 := Aside0.mk h17_
      have NB132_124 := Aside0.mk h18_
      have NB125_132 := Aside0.mk h19_
      have NB132_125 := Aside0.mk h20_
      have NB126_132 := Aside0.mk h21_
      have NB132_126 := Aside0.mk h22_
      replace BK124 := Aside0.mk h0_
      replace BK125 := Aside0.mk h1_
      replace BK126 := Aside0.mk h2_
      replace HB := Aside0.mk h23_
      clear h0_ h1_ h2_ h3_ h4_ h5_ h6_ h7_ h8_ h9_ h10_ h11_ h12_ h13_ h14_ h15_ h16_ h17_ h18_ h19_ h20_ h21_ h22_ h23_
      have hHeld : w119.cell? ⟨gb124, 0, none⟩ = some (.bool a0_0) ∧ w119.cell? ⟨gb124, 1, none⟩ = some (.int .u64 a0_1) ∧ w119.cell? ⟨gb124, 2, none⟩ = some (.int .u64 a0_2) ∧ w119.cell? ⟨gb125, 0, none⟩ = some (.bool a1_0) ∧ w119.cell? ⟨gb125, 1, none⟩ = some (.int .u64 a1_1) ∧ w119.cell? ⟨gb125, 2, none⟩ = some (.int .u64 a1_2) := hS_
      refine norm_ (a' := ?_) ?_ ?_
      rotate_left
      ·simp only [putAll, Act.put, sA, sB, sC]
       rfl
      refine one_ (i := 3) (N := some 14) #[Y,Y,Y,Y,Y,Y,N,N] rfl rfl (one_of HT_.out (by kernel_rfl)) (by decide) (fun K hK => ?_)
      refine goes_ Try.func70 (by kernel_rfl) rfl #[.agg #[.bool a1_0, .int .u64 a1_1, .int .u64 a1_2]] (by rfl) rfl rfl (by (try simp only [List.map_toArray, List.map_cons, List.map_nil]); first | done | rfl | (simp only [List.length_drop, List.length_take]; rfl)) ?_
      with_reducible refine (big_of.calls a1_0 a1_1 a1_2 t129 t130 _ A4.out).mono ?_
      rintro e w120 ⟨rfl, hb⟩
      refine ⟨_, rfl, ?_⟩
      replace BK124 := bbZ BK124 hb
      replace BK125 := bbZ BK125 hb
      replace BK126 := bbZ BK126 hb
      replace BK131 := bbZ BK131 hb
      replace BK132 := bbZ BK132 hb
      replace HB := Aside0.mk (below_step HB.out hb)
      (try clear hb)
      (try clear hb2)
      (try clear hk)
      (try clear hi)
      refine hK.out _ _ ⟨(blk_cell BK124.out 0).trans rfl, (blk_cell BK124.out 1).trans rfl, (blk_cell BK124.out 2).trans rfl, (blk_cell BK125.out 0).trans rfl, (blk_cell BK125.out 1).trans rfl, (blk_cell BK125.out 2).trans rfl⟩ (fun hHeld => ?_)
      clear hK K
      refine norm_ (a' := ?_) ?_ ?_
      rotate_left
      ·show Act.put _ (some 14) _ = _
       simp only [Act.put, sA, sB, sC, i64_w, i32_w]
       rfl
      exact norm_ (by simp only [putAll, Act.put, sA, sB, sC] <;> rfl) (hJ1_3_4_5 (gb131, gb132) _ ⟨hHeld, BK124.out, BK125.out, BK126.out, BK131.out, BK132.out, GW131.out, GE131.out, NB124_131.out, NB131_124.out, NB125_131.out, NB131_125.out, NB126_131.out, NB131_126.out, NB132_131.out, NB131_132.out, GW132.out, GE132.out, NB124_132.out, NB132_124.out, NB125_132.out, NB132_125.out, NB126_132.out, NB132_126.out, (by repeat (first | (with_reducible first | exact HB.out | apply below_alloc | apply pw_below_drewN | apply below_drew1 | refine below_set ?_ GE124.out | refine below_set ?_ GE125.out | refine below_set ?_ GE126.out | refine below_set ?_ GE131.out | refine below_set ?_ GE132.out) | exact HB.out))⟩)
    ·skip
     rintro gb132 w119 ⟨hS_, h0_, h1_, h2_, h3_, h4_, h5_, h6_, h7_, h8_, h9_, h10_, h11_, h12_⟩
     have BK132 := Aside0.mk h3_
     have GW132 := Aside0.mk h4_
     have GE132 := Aside0.mk h5_
     have NB124_132 := Aside0.mk h6_
     have NB132_124 := Aside0.mk h7_
     have NB125_132 := Aside0.mk h8_
     have NB132_125 := Aside0.mk h9_
     have NB126_132 := Aside0.mk h10_
     have NB132_126 := Aside0.mk h11_
     replace BK124 := Aside0.mk h0_
     replace BK125 := Aside0.mk h1_
     replace BK126 := Aside0.mk h2_
     replace HB := Aside0.mk h12_
     clear h0_ h1_ h2_ h3_ h4_ h5_ h6_ h7_ h8_ h9_ h10_ h11_ h12_
     have hHeld : w119.cell? ⟨gb124, 0, none⟩ = some (.bool a0_0) ∧ w119.cell? ⟨gb124, 1, none⟩ = some (.int .u64 a0_1) ∧ w119.cell? ⟨gb124, 2, none⟩ = some (.int .u64 a0_2) ∧ w119.cell? ⟨gb125, 0, none⟩ = some (.bool a1_0) ∧ w119.cell? ⟨gb125, 1, none⟩ = some (.int .u64 a1_1) ∧ w119.cell? ⟨gb125, 2, none⟩ = some (.int .u64 a1_2) := hS_
     refine norm_ (a' := ?_) ?_ ?_
     rotate_left
     ·simp only [putAll, Act.put, sA, sB, sC]
      rfl
     refine one_ (i := 4) (N := some 6) #[Y,Y,Y,Y,Y,Y,N,N] rfl rfl (one_of HT_.out (by kernel_rfl)) (by decide) (fun K hK => ?_)
     refine box_step ?hg (N := 6) ?hd (cs := #[.int .u64 0, .int .u64 0]) (t := 83) ?hr ?_; (case hd => rfl); (case hg => rfl); (case hr => first | (go_simp; done) | (go_simp; rfl))
     intro gb131 hg w120 hbox hb
     have BK131 := Aside0.mk (hbox)
     have GW131 := szZ HB hg
     have GE131 := szZ HB hg
     have NB124_131 := nlZ BK124 hg
     have NB131_124 := ngZ BK124 hg
     have NB125_131 := nlZ BK125 hg
     have NB131_125 := ngZ BK125 hg
     have NB126_131 := nlZ BK126 hg
     have NB131_126 := ngZ BK126 hg
     have NB132_131 := nlZ BK132 hg
     have NB131_132 := ngZ BK132 hg
     replace BK124 := bbZ BK124 hb
     replace BK125 := bbZ BK125 hb
     replace BK126 := bbZ BK126 hb
     replace BK132 := bbZ BK132 hb
     replace HB := Aside0.mk (below_step HB.out hb)
     clear hb hbox hg
     refine hK.out _ _ ⟨(blk_cell BK124.out 0).trans rfl, (blk_cell BK124.out 1).trans rfl, (blk_cell BK124.out 2).trans rfl, (blk_cell BK125.out 0).trans rfl, (blk_cell BK125.out 1).trans rfl, (blk_cell BK125.out 2).trans rfl⟩ (fun hHeld => ?_)
     clear hK K
     refine norm_ (a' := ?_) ?_ ?_
     rotate_left
     ·show Act.put _ (some 6) _ = _
      simp only [Act.put, sA, sB, sC, i64_w, i32_w]
      rfl
     exact norm_ (by simp only [putAll, Act.put, sA, sB, sC] <;> rfl) (hJ1_3_4_5 (gb131, gb132) _ ⟨hHeld, BK124.out, BK125.out, BK126.out, BK131.out, BK132.out, GW131.out, GE131.out, NB124_131.out, NB131_124.out, NB125_131.out, NB131_125.out, NB126_131.out, NB131_126.out, NB132_131.out, NB131_132.out, GW132.out, GE132.out, NB124_132.out, NB132_124.out, NB125_132.out, NB132_125.out, NB126_132.out, NB132_126.out, (by repeat (first | (with_reducible first | exact HB.out | apply below_alloc | apply pw_below_drewN | apply below_drew1 | refine below_set ?_ GE124.out | refine below_set ?_ GE125.out | refine below_set ?_ GE126.out | refine below_set ?_ GE132.out | refine below_set ?_ GE131.out) | exact HB.out))⟩)
   ·skip
    rintro gb131 w119 ⟨hS_, h0_, h1_, h2_, h3_, h4_, h5_, h6_, h7_, h8_, h9_, h10_, h11_, h12_⟩
    have BK131 := Aside0.mk h3_
    have GW131 := Aside0.mk h4_
    have GE131 := Aside0.mk h5_
    have NB124_131 := Aside0.mk h6_
    have NB131_124 := Aside0.mk h7_
    have NB125_131 := Aside0.mk h8_
    have NB131_125 := Aside0.mk h9_
    have NB126_131 := Aside0.mk h10_
    have NB131_126 := Aside0.mk h11_
    replace BK124 := Aside0.mk h0_
    replace BK125 := Aside0.mk h1_
    replace BK126 := Aside0.mk h2_
    replace HB := Aside0.mk h12_
    clear h0_ h1_ h2_ h3_ h4_ h5_ h6_ h7_ h8_ h9_ h10_ h11_ h12_
    have hHeld : w119.cell? ⟨gb124, 0, none⟩ = some (.bool a0_0) ∧ w119.cell? ⟨gb124, 1, none⟩ = some (.int .u64 a0_1) ∧ w119.cell? ⟨gb124, 2, none⟩ = some (.int .u64 a0_2) ∧ w119.cell? ⟨gb125, 0, none⟩ = some (.bool a1_0) ∧ w119.cell? ⟨gb125, 1, none⟩ = some (.int .u64 a1_1) ∧ w119.cell? ⟨gb125, 2, none⟩ = some (.int .u64 a1_2) := hS_
    refine norm_ (a' := ?_) ?_ ?_
    rotate_left
    ·simp only [putAll, Act.put, sA, sB, sC]
     rfl
    refine one_ (i := 5) (N := some 7) #[Y,Y,Y,Y,Y,Y,N,N] rfl rfl (one_of HT_.out (by kernel_rfl)) (by decide) (fun K hK => ?_)
    refine box_step ?hg (N := 7) ?hd (cs := #[.int .u64 0, .int .u64 0]) (t := 83) ?hr ?_; (case hd => rfl); (case hg => rfl); (case hr => first | (go_simp; done) | (go_simp; rfl))
    intro gb132 hg w120 hbox hb
    have BK132 := Aside0.mk (hbox)
    have GW132 := szZ HB hg
    have GE132 := szZ HB hg
    have NB124_132 := nlZ BK124 hg
    have NB132_124 := ngZ BK124 hg
    have NB125_132 := nlZ BK125 hg
    have NB132_125 := ngZ BK125 hg
    have NB126_132 := nlZ BK126 hg
    have NB132_126 := ngZ BK126 hg
    have NB131_132 := nlZ BK131 hg
    have NB132_131 := ngZ BK131 hg
    replace BK124 := bbZ BK124 hb
    replace BK125 := bbZ BK125 hb
    replace BK126 := bbZ BK126 hb
    replace BK131 := bbZ BK131 hb
    replace HB := Aside0.mk (below_step HB.out hb)
    clear hb hbox hg
    refine hK.out _ _ ⟨(blk_cell BK124.out 0).trans rfl, (blk_cell BK124.out 1).trans rfl, (blk_cell BK124.out 2).trans rfl, (blk_cell BK125.out 0).trans rfl, (blk_cell BK125.out 1).trans rfl, (blk_cell BK125.out 2).trans rfl⟩ (fun hHeld => ?_)
    clear hK K
    refine norm_ (a' := ?_) ?_ ?_
    rotate_left
    ·show Act.put _ (some 7) _ = _
     simp only [Act.put, sA, sB, sC, i64_w, i32_w]
     rfl
    exact norm_ (by simp only [putAll, Act.put, sA, sB, sC] <;> rfl) (hJ1_3_4_5 (gb131, gb132) _ ⟨hHeld, BK124.out, BK125.out, BK126.out, BK131.out, BK132.out, GW131.out, GE131.out, NB124_131.out, NB131_124.out, NB125_131.out, NB131_125.out, NB126_131.out, NB131_126.out, NB132_131.out, NB131_132.out, GW132.out, GE132.out, NB124_132.out, NB132_124.out, NB125_132.out, NB132_125.out, NB126_132.out, NB132_126.out, (by repeat (first | (with_reducible first | exact HB.out | apply below_alloc | apply pw_below_drewN | apply below_drew1 | refine below_set ?_ GE124.out | refine below_set ?_ GE125.out | refine below_set ?_ GE126.out | refine below_set ?_ GE131.out | refine below_set ?_ GE132.out) | exact HB.out))⟩)
  rintro ⟨gb131, gb132⟩ w120 ⟨hS_, h0_, h1_, h2_, h3_, h4_, h5_, h6_, h7_, h8_, h9_, h10_, h11_, h12_, h13_, h14_, h15_, h16_, h17_, h18_, h19_, h20_, h21_, h22_, h23_⟩
  have BK131 := Aside0.mk h3_
  have BK132 := Aside0.mk h4_
  have GW131 := Aside0.mk h5_
  have GE131 := Aside0.mk h6_
  have NB124_131 := Aside0.mk h7_
  have NB131_124 := Aside0.mk h8_
  have NB125_131 := Aside0.mk h9_
  have NB131_125 := Aside0.mk h10_
  have NB126_131 := Aside0.mk h11_
  have NB131_126 := Aside0.mk h12_
  have NB132_131 := Aside0.mk h13_
  have NB131_132 := Aside0.mk h14_
  have GW132 := Aside0.mk h15_
  have GE132 := Aside0.mk h16_
  have NB124_132 := Aside0.mk h17_
  have NB132_124 := Aside0.mk h18_
  have NB125_132 := Aside0.mk h19_
  have NB132_125 := Aside0.mk h20_
  have NB126_132 := Aside0.mk h21_
  have NB132_126 := Aside0.mk h22_
  replace BK124 := Aside0.mk h0_
  replace BK125 := Aside0.mk h1_
  replace BK126 := Aside0.mk h2_
  replace HB := Aside0.mk h23_
  clear h0_ h1_ h2_ h3_ h4_ h5_ h6_ h7_ h8_ h9_ h10_ h11_ h12_ h13_ h14_ h15_ h16_ h17_ h18_ h19_ h20_ h21_ h22_ h23_
  have hHeld : w120.cell? ⟨gb124, 0, none⟩ = some (.bool a0_0) ∧ w120.cell? ⟨gb124, 1, none⟩ = some (.int .u64 a0_1) ∧ w120.cell? ⟨gb124, 2, none⟩ = some (.int .u64 a0_2) ∧ w120.cell? ⟨gb125, 0, none⟩ = some (.bool a1_0) ∧ w120.cell? ⟨gb125, 1, none⟩ = some (.int .u64 a1_1) ∧ w120.cell? ⟨gb125, 2, none⟩ = some (.int .u64 a1_2) := hS_
  refine norm_ (a' := ?_) ?_ ?_
  rotate_left
  ·simp only [putAll, Act.put, sA, sB, sC]
   rfl
  refine one_ (i := 6) (N := none) #[Y,Y,Y,Y,Y,Y,Y,N] rfl rfl (one_of HT_.out (by kernel_rfl)) (by decide) (fun K hK => ?_)
  have hs121 : w120.cell? ⟨gb131, 0, none⟩ = some (.int .u64 0) := (blk_cell BK131.out 0).trans rfl
  have hfs121 := blk_frozen BK131.out 0
  have hns121_0 := NB124_131.out
  have hns121_1 := NB125_131.out
  have hns121_2 := NB126_131.out
  have hns121_4 := NB132_131.out
  have hms121_0 := NB131_124.out
  have hms121_1 := NB131_125.out
  have hms121_2 := NB131_126.out
  have hms121_4 := NB131_132.out
  have hs122 : w120.cell? ⟨gb131, 1, none⟩ = some (.int .u64 0) := (blk_cell BK131.out 1).trans rfl
  have hfs122 := blk_frozen BK131.out 1
  have hns122_0 := NB124_131.out
  have hns122_1 := NB125_131.out
  have hns122_2 := NB126_131.out
  have hns122_4 := NB132_131.out
  have hms122_0 := NB131_124.out
  have hms122_1 := NB131_125.out
  have hms122_2 := NB131_126.out
  have hms122_4 := NB131_132.out
  refine skip_ (w1 := ?_) (by rfl) rfl ?_ ?_
  rotate_left
  ·go_simp
   rfl
  refine hK.out _ _ ⟨((cell_far (p := ⟨gb131, _, none⟩) NB124_131.out _).trans (((cell_far (p := ⟨gb131, _, none⟩) NB124_131.out _).trans (hHeld.1)))), ((cell_far (p := ⟨gb131, _, none⟩) NB124_131.out _).trans (((cell_far (p := ⟨gb131, _, none⟩) NB124_131.out _).trans (hHeld.2.1)))), ((cell_far (p := ⟨gb131, _, none⟩) NB124_131.out _).trans (((cell_far (p := ⟨gb131, _, none⟩) NB124_131.out _).trans (hHeld.2.2.1)))), ((cell_far (p := ⟨gb131, _, none⟩) NB125_131.out _).trans (((cell_far (p := ⟨gb131, _, none⟩) NB125_131.out _).trans (hHeld.2.2.2.1)))), ((cell_far (p := ⟨gb131, _, none⟩) NB125_131.out _).trans (((cell_far (p := ⟨gb131, _, none⟩) NB125_131.out _).trans (hHeld.2.2.2.2.1)))), ((cell_far (p := ⟨gb131, _, none⟩) NB125_131.out _).trans (((cell_far (p := ⟨gb131, _, none⟩) NB125_131.out _).trans (hHeld.2.2.2.2.2))))⟩ (fun hHeld => ?_)
  clear hK K
  refine one_ (i := 7) (N := none) #[Y,Y,Y,Y,Y,Y,Y,Y] rfl rfl (one_of HT_.out (by kernel_rfl)) (by decide) (fun K hK => ?_)
  have hs123 : w120.cell? ⟨gb132, 0, none⟩ = some (.int .u64 0) := (blk_cell BK132.out 0).trans rfl
  have hfs123 := blk_frozen BK132.out 0
  have hns123_0 := NB124_132.out
  have hns123_1 := NB125_132.out
  have hns123_2 := NB126_132.out
  have hns123_3 := NB131_132.out
  have hms123_0 := NB132_124.out
  have hms123_1 := NB132_125.out
  have hms123_2 := NB132_126.out
  have hms123_3 := NB132_131.out
  have hs124 : w120.cell? ⟨gb132, 1, none⟩ = some (.int .u64 0) := (blk_cell BK132.out 1).trans rfl
  have hfs124 := blk_frozen BK132.out 1
  have hns124_0 := NB124_132.out
  have hns124_1 := NB125_132.out
  have hns124_2 := NB126_132.out
  have hns124_3 := NB131_132.out
  have hms124_0 := NB132_124.out
  have hms124_1 := NB132_125.out
  have hms124_2 := NB132_126.out
  have hms124_3 := NB132_131.out
  refine skip_ (w1 := ?_) (by rfl) rfl ?_ ?_
  rotate_left
  ·go_simp
   rfl
  refine hK.out _ _ ⟨((cell_far (p := ⟨gb132, _, none⟩) NB124_132.out _).trans (((cell_far (p := ⟨gb132, _, none⟩) NB124_132.out _).trans (hHeld.1)))), ((cell_far (p := ⟨gb132, _, none⟩) NB124_132.out _).trans (((cell_far (p := ⟨gb132, _, none⟩) NB124_132.out _).trans (hHeld.2.1)))), ((cell_far (p := ⟨gb132, _, none⟩) NB124_132.out _).trans (((cell_far (p := ⟨gb132, _, none⟩) NB124_132.out _).trans (hHeld.2.2.1)))), ((cell_far (p := ⟨gb132, _, none⟩) NB125_132.out _).trans (((cell_far (p := ⟨gb132, _, none⟩) NB125_132.out _).trans (hHeld.2.2.2.1)))), ((cell_far (p := ⟨gb132, _, none⟩) NB125_132.out _).trans (((cell_far (p := ⟨gb132, _, none⟩) NB125_132.out _).trans (hHeld.2.2.2.2.1)))), ((cell_far (p := ⟨gb132, _, none⟩) NB125_132.out _).trans (((cell_far (p := ⟨gb132, _, none⟩) NB125_132.out _).trans (hHeld.2.2.2.2.2))))⟩ (fun hHeld => ?_)
  clear hK K
  refine done_ (done_of HT_.out (by kernel_rfl)) ?_
  have hnb125 := NB124_125.out
  have hnc125 := NB125_124.out
  have hnb126 := NB124_126.out
  have hnc126 := NB126_124.out
  have hnb127 := NB124_131.out
  have hnc127 := NB131_124.out
  have hnb128 := NB124_132.out
  have hnc128 := NB132_124.out
  have hcz129_0 : w120.cell? ⟨gb124, 0, none⟩ = some (.bool a0_0) := (blk_cell BK124.out 0).trans rfl
  have hcz129_1 : w120.cell? ⟨gb124, 1, none⟩ = some (.int .u64 a0_1) := (blk_cell BK124.out 1).trans rfl
  have hcz129_2 : w120.cell? ⟨gb124, 2, none⟩ = some (.int .u64 a0_2) := (blk_cell BK124.out 2).trans rfl
  have hfz129_0 := blk_frozen BK124.out 0
  have hfz129_1 := blk_frozen BK124.out 1
  have hfz129_2 := blk_frozen BK124.out 2
  have hnb130 := NB125_126.out
  have hnc130 := NB126_125.out
  have hnb131 := NB125_131.out
  have hnc131 := NB131_125.out
  have hnb132 := NB125_132.out
  have hnc132 := NB132_125.out
  have hcz133_0 : w120.cell? ⟨gb125, 0, none⟩ = some (.bool a1_0) := (blk_cell BK125.out 0).trans rfl
  have hcz133_1 : w120.cell? ⟨gb125, 1, none⟩ = some (.int .u64 a1_1) := (blk_cell BK125.out 1).trans rfl
  have hcz133_2 : w120.cell? ⟨gb125, 2, none⟩ = some (.int .u64 a1_2) := (blk_cell BK125.out 2).trans rfl
  have hfz133_0 := blk_frozen BK125.out 0
  have hfz133_1 := blk_frozen BK125.out 1
  have hfz133_2 := blk_frozen BK125.out 2
  have hnb134 := NB131_126.out
  have hnc134 := NB126_131.out
  have hnb135 := NB131_132.out
  have hnc135 := NB132_131.out
  have hcz136_0 : w120.cell? ⟨gb131, 0, none⟩ = some (.int .u64 0) := (blk_cell BK131.out 0).trans rfl
  have hcz136_1 : w120.cell? ⟨gb131, 1, none⟩ = some (.int .u64 0) := (blk_cell BK131.out 1).trans rfl
  have hfz136_0 := blk_frozen BK131.out 0
  have hfz136_1 := blk_frozen BK131.out 1
  have hnb137 := NB132_126.out
  have hnc137 := NB126_132.out
  have hcz138_0 : w120.cell? ⟨gb132, 0, none⟩ = some (.int .u64 0) := (blk_cell BK132.out 0).trans rfl
  have hcz138_1 : w120.cell? ⟨gb132, 1, none⟩ = some (.int .u64 0) := (blk_cell BK132.out 1).trans rfl
  have hfz138_0 := blk_frozen BK132.out 0
  have hfz138_1 := blk_frozen BK132.out 1
  try go_wp2_with (first | (simp only [bits_Add64.runs t128 t130 0 t144 t145 A80.out]) | (simp only [bits_Add64.runs t127 t129 t145 t146 t147 A81.out]) | ((with_reducible refine gate_callee (f := 67) rfl ?_); refine goesL_ (some 61) rfl rfl Try.func67 (by kernel_rfl) rfl #[.agg #[.int .u64 t146, .int .u64 t144], .bool a0_0] rfl (by (try simp only [List.map_toArray, List.map_cons, List.map_nil]); first | done | rfl | (simp only [List.length_drop, List.length_take]; rfl)) ?_; (with_reducible refine (big_size_with.calls t146 t144 a0_0 t148 t149 t150 _ A111.out).mono ?_); rintro e w139 ⟨rfl, hb⟩; refine ⟨_, rfl, ?_⟩; replace BK124 := Aside0.mk (blk_below (g := gb124) (o := .cells #[.bool a0_0, .int .u64 a0_1, .int .u64 a0_2] 60 (0, 0)) (by (with_reducible repeat (first | refine blk_drewN ?_ _ | refine blk_drew ?_ | refine blk_alloc ?_ _)); refine blk_far ?_ NB124_132.out _; (with_reducible repeat (first | refine blk_drewN ?_ _ | refine blk_drew ?_ | refine blk_alloc ?_ _)); refine blk_far ?_ NB124_132.out _; (with_reducible repeat (first | refine blk_drewN ?_ _ | refine blk_drew ?_ | refine blk_alloc ?_ _)); refine blk_far ?_ NB124_131.out _; (with_reducible repeat (first | refine blk_drewN ?_ _ | refine blk_drew ?_ | refine blk_alloc ?_ _)); refine blk_far ?_ NB124_131.out _; (with_reducible repeat (first | refine blk_drewN ?_ _ | refine blk_drew ?_ | refine blk_alloc ?_ _)); exact BK124.out) hb); replace BK125 := Aside0.mk (blk_below (g := gb125) (o := .cells #[.bool a1_0, .int .u64 a1_1, .int .u64 a1_2] 60 (0, 0)) (by (with_reducible repeat (first | refine blk_drewN ?_ _ | refine blk_drew ?_ | refine blk_alloc ?_ _)); refine blk_far ?_ NB125_132.out _; (with_reducible repeat (first | refine blk_drewN ?_ _ | refine blk_drew ?_ | refine blk_alloc ?_ _)); refine blk_far ?_ NB125_132.out _; (with_reducible repeat (first | refine blk_drewN ?_ _ | refine blk_drew ?_ | refine blk_alloc ?_ _)); refine blk_far ?_ NB125_131.out _; (with_reducible repeat (first | refine blk_drewN ?_ _ | refine blk_drew ?_ | refine blk_alloc ?_ _)); refine blk_far ?_ NB125_131.out _; (with_reducible repeat (first | refine blk_drewN ?_ _ | refine blk_drew ?_ | refine blk_alloc ?_ _)); exact BK125.out) hb); replace BK126 := Aside0.mk (blk_below (g := gb126) (o := .cells #[.bool false, .int .u64 0, .int .u64 0] 60 (0, 0)) (by (with_reducible repeat (first | refine blk_drewN ?_ _ | refine blk_drew ?_ | refine blk_alloc ?_ _)); refine blk_far ?_ NB126_132.out _; (with_reducible repeat (first | refine blk_drewN ?_ _ | refine blk_drew ?_ | refine blk_alloc ?_ _)); refine blk_far ?_ NB126_132.out _; (with_reducible repeat (first | refine blk_drewN ?_ _ | refine blk_drew ?_ | refine blk_alloc ?_ _)); refine blk_far ?_ NB126_131.out _; (with_reducible repeat (first | refine blk_drewN ?_ _ | refine blk_drew ?_ | refine blk_alloc ?_ _)); refine blk_far ?_ NB126_131.out _; (with_reducible repeat (first | refine blk_drewN ?_ _ | refine blk_drew ?_ | refine blk_alloc ?_ _)); exact BK126.out) hb); replace BK131 := Aside0.mk (blk_below (g := gb131) (o := .cells #[.int .u64 t127, .int .u64 t128] 83 (0, 0)) (by (with_reducible repeat (first | refine blk_drewN ?_ _ | refine blk_drew ?_ | refine blk_alloc ?_ _)); refine blk_far ?_ NB131_132.out _; (with_reducible repeat (first | refine blk_drewN ?_ _ | refine blk_drew ?_ | refine blk_alloc ?_ _)); refine blk_far ?_ NB131_132.out _; (with_reducible repeat (first | refine blk_drewN ?_ _ | refine blk_drew ?_ | refine blk_alloc ?_ _)); refine blk_put (cs := #[.int .u64 t127, .int .u64 0]) ?_ 1 _ rfl; (with_reducible repeat (first | refine blk_drewN ?_ _ | refine blk_drew ?_ | refine blk_alloc ?_ _)); refine blk_put (cs := #[.int .u64 0, .int .u64 0]) ?_ 0 _ rfl; (with_reducible repeat (first | refine blk_drewN ?_ _ | refine blk_drew ?_ | refine blk_alloc ?_ _)); exact BK131.out) hb); replace BK132 := Aside0.mk (blk_below (g := gb132) (o := .cells #[.int .u64 t129, .int .u64 t130] 83 (0, 0)) (by (with_reducible repeat (first | refine blk_drewN ?_ _ | refine blk_drew ?_ | refine blk_alloc ?_ _)); refine blk_put (cs := #[.int .u64 t129, .int .u64 0]) ?_ 1 _ rfl; (with_reducible repeat (first | refine blk_drewN ?_ _ | refine blk_drew ?_ | refine blk_alloc ?_ _)); refine blk_put (cs := #[.int .u64 0, .int .u64 0]) ?_ 0 _ rfl; (with_reducible repeat (first | refine blk_drewN ?_ _ | refine blk_drew ?_ | refine blk_alloc ?_ _)); refine blk_far ?_ NB132_131.out _; (with_reducible repeat (first | refine blk_drewN ?_ _ | refine blk_drew ?_ | refine blk_alloc ?_ _)); refine blk_far ?_ NB132_131.out _; (with_reducible repeat (first | refine blk_drewN ?_ _ | refine blk_drew ?_ | refine blk_alloc ?_ _)); exact BK132.out) hb); replace HB := Aside0.mk (below_step (by repeat (first | (with_reducible first | exact HB.out | apply below_alloc | apply pw_below_drewN | apply below_drew1 | refine below_set ?_ GE124.out | refine below_set ?_ GE125.out | refine below_set ?_ GE126.out | refine below_set ?_ GE131.out | refine below_set ?_ GE132.out) | exact HB.out)) hb); (try clear hb); (try clear hb2); (try clear hk); (try clear hi); have hcz140_0 : w139.cell? ⟨gb126, 0, none⟩ = some (.bool false) := (blk_cell BK126.out 0).trans rfl; have hcz140_1 : w139.cell? ⟨gb126, 1, none⟩ = some (.int .u64 0) := (blk_cell BK126.out 1).trans rfl; have hcz140_2 : w139.cell? ⟨gb126, 2, none⟩ = some (.int .u64 0) := (blk_cell BK126.out 2).trans rfl; have hfz140_0 := blk_frozen BK126.out 0; have hfz140_1 := blk_frozen BK126.out 1; have hfz140_2 := blk_frozen BK126.out 2))
  refine bodyPost_ret (results_ct rfl _ _ gb126 60 #[.bool t148, .int .u64 t149, .int .u64 t150] (0, 0) _ rfl (by (with_reducible repeat (first | refine blk_drewN ?_ _ | refine blk_drew ?_ | refine blk_alloc ?_ _)); refine blk_put (cs := #[.bool t148, .int .u64 t149, .int .u64 0]) ?_ 2 _ rfl; (with_reducible repeat (first | refine blk_drewN ?_ _ | refine blk_drew ?_ | refine blk_alloc ?_ _)); refine blk_put (cs := #[.bool t148, .int .u64 0, .int .u64 0]) ?_ 1 _ rfl; (with_reducible repeat (first | refine blk_drewN ?_ _ | refine blk_drew ?_ | refine blk_alloc ?_ _)); refine blk_put (cs := #[.bool false, .int .u64 0, .int .u64 0]) ?_ 0 _ rfl; (with_reducible repeat (first | refine blk_drewN ?_ _ | refine blk_drew ?_ | refine blk_alloc ?_ _)); exact BK126.out) Try.underlying60 rfl (by kernel_rfl)) rfl ?_
  exact ⟨by first | rfl | (simp [errW_none, errW_some] <;> rfl) | (simp [*, errW_none, errW_some] <;> rfl), by repeat (first | (with_reducible first | exact HB.out | apply below_alloc | apply pw_below_drewN | apply below_drew1 | refine below_set ?_ GE124.out | refine below_set ?_ GE125.out | refine below_set ?_ GE126.out | refine below_set ?_ GE131.out | refine below_set ?_ GE132.out) | exact HB.out)⟩

theorem big_Add.calls (a0_0 : Bool) (a0_1 : Int) (a0_2 : Int) (a1_0 : Bool) (a1_1 : Int) (a1_2 : Int) (r1 : Bool) (r2 : Int) (r3 : Int) (r4 : Int) (w : World) (h : big_Add.f a0_0 a0_1 a0_2 a1_0 a1_1 a1_2 = some (r1, r2, r3, r4)) :
 Calls Try.prog 54 #[.agg #[.bool a0_0, .int .u64 a0_1, .int .u64 a0_2], .agg #[.bool a1_0, .int .u64 a1_1, .int .u64 a1_2]] w fun e w' => e = .returned (.tuple #[.agg #[.bool r1, .int .u64 r2, .int .u64 r3], .int .i64 r4]) ∧ Below w.heap.size w w' := by
 by_cases hpart : (a0_0 != a1_0) = true
 ·exact big_Add.calls_a a0_0 a0_1 a0_2 a1_0 a1_1 a1_2 r1 r2 r3 r4 w h hpart
 ·exact big_Add.calls_b a0_0 a0_1 a0_2 a1_0 a1_1 a1_2 r1 r2 r3 r4 w h hpart

end Go.Proofs.Ytepmnfjcmppghaa.Px
