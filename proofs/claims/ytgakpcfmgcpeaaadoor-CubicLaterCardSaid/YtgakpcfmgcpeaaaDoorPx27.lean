/- Printed by px.py, over the kit's print. Conditions: none beside the theorems' own. -/
import Derived.Deep.QuietTactic
import Derived.BigQuiet
import Derived.Deep.LoopGhost
import Derived.Deep.RegionWith
import Derived.Test.YtgakpcfmgcpeaaaDoorPx0
import Derived.Test.YtgakpcfmgcpeaaaDoorPx23
import Derived.Test.YtgakpcfmgcpeaaaDoorPx26
import Derived.Test.YtgakpcfmgcpeaaaDoorSpec
namespace Go.Proofs.YtgakpcfmgcpeaaaDoor.Px
open Go.RowKit Go.Proofs.YtgakpcfmgcpeaaaDoorW.PrintWords Go.Proofs.YtgakpcfmgcpeaaaDoorW.PrintLast Go.Proofs.YtgakpcfmgcpeaaaDoorW.PrintMore
attribute [local go_sem] max2_int min2_int max_two min_two max_three min_three max_four min_four
set_option linter.unusedVariables false
set_option linter.unusedSimpArgs false

/-! ### cubic_Reach: function 11 -/
noncomputable def cubic_Reach.f (on : Bool) (s f m k e w : Int) : Option (Int × Bool) := Sp.need (Sp.I s ∧ Sp.I f ∧ Sp.I m ∧ Sp.I k ∧ Sp.I e ∧ Sp.I w) (some (Sp.reachQ on s f m k e w))
theorem cubic_Reach.eq {on : Bool} {s f m k e w : Int} (h1 : Sp.I s) (h2 : Sp.I f) (h3 : Sp.I m) (h4 : Sp.I k) (h5 : Sp.I e) (h6 : Sp.I w) : cubic_Reach.f on s f m k e w = some (Sp.reachQ on s f m k e w) := Sp.need_pos ⟨h1, h2, h3, h4, h5, h6⟩
set_option maxHeartbeats 1000000 in
set_option maxRecDepth 100000 in
theorem cubic_Reach.closure (ge gw : Nat) (n s f m k e wd v : Int) (on b : Bool) (HL : Aside0 (cubic_lawS.f on s f m k e n = some v)) (hv : decide (wd ≤ v) = b) (w : World)
  (hb0 : w.heap[ge]? = some (.cells #[.bool on, .int .i64 s, .int .i64 f, .int .i64 m, .int .i64 k, .int .i64 e] 23 (0, 0))) (hb1 : w.heap[gw]? = some (.cells #[.int .i64 wd] 3 (0, 0))) :
  Calls Tryd.prog 28 #[.int .i64 n, .pointer (some ⟨ge, 0, none⟩), .pointer (some ⟨gw, 0, none⟩)] w fun e w' => e = .returned (.bool b) ∧ Below w.heap.size w w' := by
 have HB := Aside0.mk (Below.refl w.heap.size w); have BE := Aside0.mk hb0; have BW := Aside0.mk hb1; clear hb0 hb1; have z0 := czZ BE 0 (.bool on); have z1 := czZ BE 1 (.int .i64 s); have z2 := czZ BE 2 (.int .i64 f); have z3 := czZ BE 3 (.int .i64 m); have z4 := czZ BE 4 (.int .i64 k); have z5 := czZ BE 5 (.int .i64 e); have y0 := czZ BW 0 (.int .i64 wd)
 go_enter Tryd.func28, Tryd.ntmps28
 go_wp2_with (fail)
 go_region_with (go_at_call 27; refine (cubic_lawS.calls on s f m k e n v _ HL.out).mono ?_; rintro e1 w1 ⟨rfl, hb⟩; have HB' := Aside0.mk (below_step (by repeat (first | (with_reducible first | apply below_drew1 | exact HB.out | apply below_alloc | apply pw_below_drewN) | exact HB.out)) hb); have BW' := bdZ BW hb; have y0' := czZ BW' 0 (.int .i64 wd); clear hb)
 all_goals (go_wp2_with (fail); go_ret; exact ⟨by first | rfl | (simp [*]; done), by first | exact HB'.out | (exact (by repeat (first | (with_reducible first | apply below_drew1 | exact HB'.out | apply below_alloc | apply pw_below_drewN) | exact HB'.out)))⟩)
theorem cubic_Reach.closure0 (ge gw : Nat) (n s f m k e wd : Int) (on b : Bool) (HL : Aside0 (∃ u, cubic_lawS.f on s f m k e n = some u ∧ decide (wd ≤ u) = b)) (w : World)
  (hb0 : w.heap[ge]? = some (.cells #[.bool on, .int .i64 s, .int .i64 f, .int .i64 m, .int .i64 k, .int .i64 e] 23 (0, 0))) (hb1 : w.heap[gw]? = some (.cells #[.int .i64 wd] 3 (0, 0))) :
  Calls Tryd.prog 28 #[.int .i64 n, .pointer (some ⟨ge, 0, none⟩), .pointer (some ⟨gw, 0, none⟩)] w fun e w' => e = .returned (.bool b) ∧ Below w.heap.size w w' := by
 obtain ⟨u, hu, hd⟩ := HL.out; exact cubic_Reach.closure ge gw n s f m k e wd u on b ⟨hu⟩ hd w hb0 hb1
def cubic_Reach.T2 : Bool × List (List Nat × List Nat) := (true, [([], []), ([0], [0]), ([1], [1]), ([2, 1], [2]), ([3], [3]), ([3], [3]), ([4, 5, 3, 3], [3, 4, 5]), ([3], [3]), ([6, 7, 3], [3, 6, 7]), ([3, 8], [3, 8])])
def cubic_Reach.B2 : List Nat := [0, 1, 3, 7, 15, 15, 63, 15, 255, 511]
theorem cubic_Reach.tab2 : rtab .any (opsOf Tryd.f11 2) = cubic_Reach.T2 := by kernel_rfl
theorem cubic_Reach.bits2 : waitsOk cubic_Reach.T2.2 cubic_Reach.B2 = true := by kernel_rfl
set_option maxHeartbeats 8000000 in
set_option maxRecDepth 100000 in
theorem cubic_Reach.no (a0_0 : Bool) (a0_1 a0_2 a0_3 a0_4 a0_5 a1 : Int) (A3 : Aside0 (cubic_isS.f a0_0 a0_1 a0_2 a0_3 a0_4 a0_5 = some false)) (w : World) (hL : Tens w) :
  Calls Tryd.prog 11 #[.agg #[.bool a0_0, .int .i64 a0_1, .int .i64 a0_2, .int .i64 a0_3, .int .i64 a0_4, .int .i64 a0_5], .int .i64 a1] w fun e w' => e = .returned (.tuple #[.int .i64 0, .bool false]) ∧ Below w.heap.size w w' := by
 have hu23 := Tryd.underlying23; have HB := Aside0.mk (Below.refl w.heap.size w)
 go_enter Tryd.func11, Tryd.ntmps11
 try go_wp2_with (first | ((with_reducible refine gate_dst (N := 2) rfl ?_); refine box_event ?hg (N := 2) ?hd (cs := #[.bool a0_0, .int .i64 a0_1, .int .i64 a0_2, .int .i64 a0_3, .int .i64 a0_4, .int .i64 a0_5]) (t := 23) ?hr ?_; (case hd => rfl); (case hg => rfl); (case hr => first | (go_simp; done) | (go_simp; rfl)); intro gb284 hg w17 hbox hb; have BK284 := Aside0.mk (hbox); obtain ⟨GW284, nHB⟩ := geA hg hb; have GE284 := GW284; replace HB := nHB; clear nHB; clear hb hbox hg) | ((with_reducible refine gate_dst (N := 3) rfl ?_); refine box_event ?hg (N := 3) ?hd (cs := #[.int .i64 a1]) (t := 3) ?hr ?_; (case hd => rfl); (case hg => rfl); (case hr => first | (go_simp; done) | (go_simp; rfl)); intro gw hg w3 hbox hb; have BW := Aside0.mk hbox; obtain ⟨GW3, nHB⟩ := geA hg hb; have GEW := GW3; obtain ⟨NB1, NB2, nBK⟩ := nbA BK284 hg hb; replace BK284 := nBK; clear nBK; replace HB := nHB; clear nHB; clear hb hbox hg))
 replace BK284 := Aside0.mk (blk_drew BK284.out); replace BW := Aside0.mk (blk_drew BW.out); replace HB := Aside0.mk (below_drew1 HB.out); refine start_ (n := 5) (S := fun w' => w'.cell? ⟨gb284, 0, none⟩ = some (.bool a0_0) ∧ w'.cell? ⟨gb284, 1, none⟩ = some (.int .i64 a0_1) ∧ w'.cell? ⟨gb284, 2, none⟩ = some (.int .i64 a0_2) ∧ w'.cell? ⟨gb284, 3, none⟩ = some (.int .i64 a0_3) ∧ w'.cell? ⟨gb284, 4, none⟩ = some (.int .i64 a0_4) ∧ w'.cell? ⟨gb284, 5, none⟩ = some (.int .i64 a0_5) ∧ w'.cell? ⟨gw, 0, none⟩ = some (.int .i64 a1)) (ds := []) #[N,N,N,N,N] (by kernel_rfl) rfl rfl ⟨(blk_cell BK284.out 0).trans rfl, (blk_cell BK284.out 1).trans rfl, (blk_cell BK284.out 2).trans rfl, (blk_cell BK284.out 3).trans rfl, (blk_cell BK284.out 4).trans rfl, (blk_cell BK284.out 5).trans rfl, (blk_cell BW.out 0).trans rfl⟩ (fun hHeld => ?_)
 generalize w17.drew = w18 at BK284 BW HB hHeld ⊢
 refine pureA_ (i := 0) (N := some 10) #[Y,N,N,N,N] rfl rfl (by kernel_rfl) ?_; refine pureA_ (i := 3) (N := some 6) #[Y,N,N,Y,N] rfl rfl (by kernel_rfl) ?_; refine take_ (i := 1) (N := some 11) (v := ?_) (a' := ?_) #[Y,Y,N,Y,N] rfl rfl (by kernel_rfl) (fun _ _ _ h => h) (Or.inl ⟨by rfl, ?_⟩) hHeld ?_ ?_; rotate_left
 ·rintro w' ⟨s0, s1, s2, s3, s4, s5, s6⟩; go_simp; with_reducible rfl
 rotate_left
 ·simp only [Act.put, sA, sB, sC, i64_w, i32_w]; rfl
 refine pureA_ (i := 2) (N := some 12) #[Y,Y,Y,Y,N] rfl rfl (by kernel_rfl) ?_; refine pureA_ (i := 4) (N := some 7) #[Y,Y,Y,Y,Y] rfl rfl (by kernel_rfl) ?_; refine done_ (by kernel_rfl) ?_
 try go_wp2
 replace BK284 := Aside0.mk (blk_drew BK284.out); replace BW := Aside0.mk (blk_drew BW.out); replace HB := Aside0.mk (below_drew1 HB.out); refine start_ (n := 10) (S := fun w' => w'.cell? ⟨gb284, 0, none⟩ = some (.bool a0_0) ∧ w'.cell? ⟨gb284, 1, none⟩ = some (.int .i64 a0_1) ∧ w'.cell? ⟨gb284, 2, none⟩ = some (.int .i64 a0_2) ∧ w'.cell? ⟨gb284, 3, none⟩ = some (.int .i64 a0_3) ∧ w'.cell? ⟨gb284, 4, none⟩ = some (.int .i64 a0_4) ∧ w'.cell? ⟨gb284, 5, none⟩ = some (.int .i64 a0_5) ∧ w'.cell? ⟨gw, 0, none⟩ = some (.int .i64 a1)) (ds := []) #[N,N,N,N,N,N,N,N,N,N] (by kernel_rfl) rfl rfl ⟨(blk_cell BK284.out 0).trans rfl, (blk_cell BK284.out 1).trans rfl, (blk_cell BK284.out 2).trans rfl, (blk_cell BK284.out 3).trans rfl, (blk_cell BK284.out 4).trans rfl, (blk_cell BK284.out 5).trans rfl, (blk_cell BW.out 0).trans rfl⟩ (fun hHeld => ?_); refine with_tabW cubic_Reach.tab2 cubic_Reach.bits2 (fun HT_ HW_ => ?_)
 generalize w18.drew = w19 at BK284 BW HB hHeld ⊢
 refine take_ (i := 0) (N := some 13) (v := ?_) (a' := ?_) #[Y,N,N,N,N,N,N,N,N,N] rfl rfl (take_ofW HT_.out HW_.out (by kernel_rfl)) (fun _ _ _ h => h) (Or.inl ⟨by rfl, ?_⟩) hHeld ?_ ?_; rotate_left
 ·rintro w' ⟨s0, s1, s2, s3, s4, s5, s6⟩; go_simp; with_reducible rfl
 rotate_left
 ·simp only [Act.put, sA, sB, sC, i64_w, i32_w]; rfl
 refine one_ (i := 1) (N := some 14) #[Y,Y,N,N,N,N,N,N,N,N] rfl rfl (one_of HT_.out (by kernel_rfl)) (by decide) (fun K hK => ?_); refine goesA_ Tryd.func26 rfl #[.agg #[.bool a0_0, .int .i64 a0_1, .int .i64 a0_2, .int .i64 a0_3, .int .i64 a0_4, .int .i64 a0_5]] (by rfl) rfl rfl ?_
 (with_reducible refine (cubic_isS.calls a0_0 a0_1 a0_2 a0_3 a0_4 a0_5 false _ A3.out ?hT_).mono ?_); (case hT_ => exact tensB hL (by repeat (first | (with_reducible first | exact HB.out | apply below_alloc | apply pw_below_drewN | apply below_drew1 | refine below_set ?_ (Aside0.out (by assumption))) | exact HB.out)))
 rintro e w20 ⟨rfl, hb⟩; refine ⟨_, rfl, ?_⟩; replace BK284 := bbZ BK284 hb; replace BW := bbZ BW hb; replace HB := Aside0.mk (below_step HB.out hb); clear hb; refine hK.out _ _ ⟨(blk_cell BK284.out 0).trans rfl, (blk_cell BK284.out 1).trans rfl, (blk_cell BK284.out 2).trans rfl, (blk_cell BK284.out 3).trans rfl, (blk_cell BK284.out 4).trans rfl, (blk_cell BK284.out 5).trans rfl, (blk_cell BW.out 0).trans rfl⟩ (fun hHeld => ?_); clear hK K; refine normA_ (some 14) ?_; refine pureA_ (i := 2) (N := some 15) #[Y,Y,Y,N,N,N,N,N,N,N] rfl rfl (any_of HT_.out (by kernel_rfl)) ?_; refine pureA_ (i := 3) (N := some 16) #[Y,Y,Y,Y,N,N,N,N,N,N] rfl rfl (any_of HT_.out (by kernel_rfl)) ?_; refine pure_ (i := 4) (N := some 17) (v := undef) (a' := ?_) #[Y,Y,Y,Y,Y,N,N,N,N,N] rfl rfl (any_of HT_.out (by kernel_rfl)) (fun _ _ _ h => h) (Or.inr ⟨by rfl, rfl⟩) ?_ ?_; rotate_left
 ·simp only [Act.put, sA, sB, sC, i64_w, i32_w]; rfl
 refine pure_ (i := 5) (N := some 18) (v := undef) (a' := ?_) #[Y,Y,Y,Y,Y,Y,N,N,N,N] rfl rfl (any_of HT_.out (by kernel_rfl)) (fun _ _ _ h => h) (Or.inr ⟨by rfl, rfl⟩) ?_ ?_; rotate_left
 ·simp only [Act.put, sA, sB, sC, i64_w, i32_w]; rfl
 refine pure_ (i := 6) (N := some 19) (v := undef) (a' := ?_) #[Y,Y,Y,Y,Y,Y,Y,N,N,N] rfl rfl (any_of HT_.out (by kernel_rfl)) (fun _ _ _ h => h) (Or.inr ⟨by rfl, rfl⟩) ?_ ?_; rotate_left
 ·simp only [Act.put, sA, sB, sC, i64_w, i32_w]; rfl
 refine pure_ (i := 7) (N := some 20) (v := undef) (a' := ?_) #[Y,Y,Y,Y,Y,Y,Y,Y,N,N] rfl rfl (any_of HT_.out (by kernel_rfl)) (fun _ _ _ h => h) (Or.inr ⟨by rfl, rfl⟩) ?_ ?_; rotate_left
 ·simp only [Act.put, sA, sB, sC, i64_w, i32_w]; rfl
 refine pure_ (i := 8) (N := some 21) (v := undef) (a' := ?_) #[Y,Y,Y,Y,Y,Y,Y,Y,Y,N] rfl rfl (any_of HT_.out (by kernel_rfl)) (fun _ _ _ h => h) (Or.inr ⟨by rfl, rfl⟩) ?_ ?_; rotate_left
 ·simp only [Act.put, sA, sB, sC, i64_w, i32_w]; rfl
 refine pureA_ (i := 9) (N := some 22) #[Y,Y,Y,Y,Y,Y,Y,Y,Y,Y] rfl rfl (any_of HT_.out (by kernel_rfl)) ?_; refine done_ (done_of HT_.out (by kernel_rfl)) ?_
 try go_wp2
 go_ret2
 exact ⟨by first | rfl | (simp [errW_none, errW_some] <;> rfl) | (simp [*, errW_none, errW_some] <;> rfl), by repeat (first | (with_reducible first | exact HB.out | apply below_alloc | apply pw_below_drewN | apply below_drew1 | refine below_set ?_ GE284.out) | exact HB.out)⟩
set_option maxHeartbeats 8000000 in
set_option maxRecDepth 100000 in
theorem cubic_Reach.low (a0_0 : Bool) (a0_1 a0_2 a0_3 a0_4 a0_5 a1 : Int) (t286 H : Int) (A3 : Aside0 (cubic_isS.f a0_0 a0_1 a0_2 a0_3 a0_4 a0_5 = some true)) (hH : wrap64 (2147483648 + a0_4) = H) (A5 : Aside0 (cubic_lawS.f a0_0 a0_1 a0_2 a0_3 a0_4 a0_5 H = some t286)) (c6b0 : decide (t286 < a1) = true) (w : World) (hL : Tens w) :
  Calls Tryd.prog 11 #[.agg #[.bool a0_0, .int .i64 a0_1, .int .i64 a0_2, .int .i64 a0_3, .int .i64 a0_4, .int .i64 a0_5], .int .i64 a1] w fun e w' => e = .returned (.tuple #[.int .i64 0, .bool false]) ∧ Below w.heap.size w w' := by
 have hu23 := Tryd.underlying23; have HB := Aside0.mk (Below.refl w.heap.size w)
 go_enter Tryd.func11, Tryd.ntmps11
 try go_wp2_with (first | ((with_reducible refine gate_dst (N := 2) rfl ?_); refine box_event ?hg (N := 2) ?hd (cs := #[.bool a0_0, .int .i64 a0_1, .int .i64 a0_2, .int .i64 a0_3, .int .i64 a0_4, .int .i64 a0_5]) (t := 23) ?hr ?_; (case hd => rfl); (case hg => rfl); (case hr => first | (go_simp; done) | (go_simp; rfl)); intro gb284 hg w7 hbox hb; have BK284 := Aside0.mk (hbox); obtain ⟨GW284, nHB⟩ := geA hg hb; have GE284 := GW284; replace HB := nHB; clear nHB; clear hb hbox hg) | ((with_reducible refine gate_dst (N := 3) rfl ?_); refine box_event ?hg (N := 3) ?hd (cs := #[.int .i64 a1]) (t := 3) ?hr ?_; (case hd => rfl); (case hg => rfl); (case hr => first | (go_simp; done) | (go_simp; rfl)); intro gw hg w3 hbox hb; have BW := Aside0.mk hbox; obtain ⟨GW3, nHB⟩ := geA hg hb; have GEW := GW3; obtain ⟨NB1, NB2, nBK⟩ := nbA BK284 hg hb; replace BK284 := nBK; clear nBK; replace HB := nHB; clear nHB; clear hb hbox hg))
 replace BK284 := Aside0.mk (blk_drew BK284.out); replace BW := Aside0.mk (blk_drew BW.out); replace HB := Aside0.mk (below_drew1 HB.out); refine start_ (n := 5) (S := fun w' => w'.cell? ⟨gb284, 0, none⟩ = some (.bool a0_0) ∧ w'.cell? ⟨gb284, 1, none⟩ = some (.int .i64 a0_1) ∧ w'.cell? ⟨gb284, 2, none⟩ = some (.int .i64 a0_2) ∧ w'.cell? ⟨gb284, 3, none⟩ = some (.int .i64 a0_3) ∧ w'.cell? ⟨gb284, 4, none⟩ = some (.int .i64 a0_4) ∧ w'.cell? ⟨gb284, 5, none⟩ = some (.int .i64 a0_5) ∧ w'.cell? ⟨gw, 0, none⟩ = some (.int .i64 a1)) (ds := []) #[N,N,N,N,N] (by kernel_rfl) rfl rfl ⟨(blk_cell BK284.out 0).trans rfl, (blk_cell BK284.out 1).trans rfl, (blk_cell BK284.out 2).trans rfl, (blk_cell BK284.out 3).trans rfl, (blk_cell BK284.out 4).trans rfl, (blk_cell BK284.out 5).trans rfl, (blk_cell BW.out 0).trans rfl⟩ (fun hHeld => ?_)
 generalize w7.drew = w8 at BK284 BW HB hHeld ⊢
 refine pureA_ (i := 0) (N := some 10) #[Y,N,N,N,N] rfl rfl (by kernel_rfl) ?_; refine pureA_ (i := 3) (N := some 6) #[Y,N,N,Y,N] rfl rfl (by kernel_rfl) ?_; refine take_ (i := 1) (N := some 11) (v := ?_) (a' := ?_) #[Y,Y,N,Y,N] rfl rfl (by kernel_rfl) (fun _ _ _ h => h) (Or.inl ⟨by rfl, ?_⟩) hHeld ?_ ?_; rotate_left
 ·rintro w' ⟨s0, s1, s2, s3, s4, s5, s6⟩; go_simp; with_reducible rfl
 rotate_left
 ·simp only [Act.put, sA, sB, sC, i64_w, i32_w]; rfl
 refine pureA_ (i := 2) (N := some 12) #[Y,Y,Y,Y,N] rfl rfl (by kernel_rfl) ?_; refine pureA_ (i := 4) (N := some 7) #[Y,Y,Y,Y,Y] rfl rfl (by kernel_rfl) ?_; refine done_ (by kernel_rfl) ?_
 rw [hH]
 try go_wp2
 replace BK284 := Aside0.mk (blk_drew BK284.out); replace BW := Aside0.mk (blk_drew BW.out); replace HB := Aside0.mk (below_drew1 HB.out); refine start_ (n := 10) (S := fun w' => w'.cell? ⟨gb284, 0, none⟩ = some (.bool a0_0) ∧ w'.cell? ⟨gb284, 1, none⟩ = some (.int .i64 a0_1) ∧ w'.cell? ⟨gb284, 2, none⟩ = some (.int .i64 a0_2) ∧ w'.cell? ⟨gb284, 3, none⟩ = some (.int .i64 a0_3) ∧ w'.cell? ⟨gb284, 4, none⟩ = some (.int .i64 a0_4) ∧ w'.cell? ⟨gb284, 5, none⟩ = some (.int .i64 a0_5) ∧ w'.cell? ⟨gw, 0, none⟩ = some (.int .i64 a1)) (ds := []) #[N,N,N,N,N,N,N,N,N,N] (by kernel_rfl) rfl rfl ⟨(blk_cell BK284.out 0).trans rfl, (blk_cell BK284.out 1).trans rfl, (blk_cell BK284.out 2).trans rfl, (blk_cell BK284.out 3).trans rfl, (blk_cell BK284.out 4).trans rfl, (blk_cell BK284.out 5).trans rfl, (blk_cell BW.out 0).trans rfl⟩ (fun hHeld => ?_); refine with_tabW cubic_Reach.tab2 cubic_Reach.bits2 (fun HT_ HW_ => ?_)
 generalize w8.drew = w9 at BK284 BW HB hHeld ⊢
 refine take_ (i := 0) (N := some 13) (v := ?_) (a' := ?_) #[Y,N,N,N,N,N,N,N,N,N] rfl rfl (take_ofW HT_.out HW_.out (by kernel_rfl)) (fun _ _ _ h => h) (Or.inl ⟨by rfl, ?_⟩) hHeld ?_ ?_; rotate_left
 ·rintro w' ⟨s0, s1, s2, s3, s4, s5, s6⟩; go_simp; with_reducible rfl
 rotate_left
 ·simp only [Act.put, sA, sB, sC, i64_w, i32_w]; rfl
 refine one_ (i := 1) (N := some 14) #[Y,Y,N,N,N,N,N,N,N,N] rfl rfl (one_of HT_.out (by kernel_rfl)) (by decide) (fun K hK => ?_); refine goesA_ Tryd.func26 rfl #[.agg #[.bool a0_0, .int .i64 a0_1, .int .i64 a0_2, .int .i64 a0_3, .int .i64 a0_4, .int .i64 a0_5]] (by rfl) rfl rfl ?_
 (with_reducible refine (cubic_isS.calls a0_0 a0_1 a0_2 a0_3 a0_4 a0_5 true _ A3.out ?hT_).mono ?_); (case hT_ => exact tensB hL (by repeat (first | (with_reducible first | exact HB.out | apply below_alloc | apply pw_below_drewN | apply below_drew1 | refine below_set ?_ (Aside0.out (by assumption))) | exact HB.out)))
 rintro e w10 ⟨rfl, hb⟩; refine ⟨_, rfl, ?_⟩; replace BK284 := bbZ BK284 hb; replace BW := bbZ BW hb; replace HB := Aside0.mk (below_step HB.out hb); clear hb; refine hK.out _ _ ⟨(blk_cell BK284.out 0).trans rfl, (blk_cell BK284.out 1).trans rfl, (blk_cell BK284.out 2).trans rfl, (blk_cell BK284.out 3).trans rfl, (blk_cell BK284.out 4).trans rfl, (blk_cell BK284.out 5).trans rfl, (blk_cell BW.out 0).trans rfl⟩ (fun hHeld => ?_); clear hK K; refine normA_ (some 14) ?_; refine pureA_ (i := 2) (N := some 15) #[Y,Y,Y,N,N,N,N,N,N,N] rfl rfl (any_of HT_.out (by kernel_rfl)) ?_; refine pureA_ (i := 3) (N := some 16) #[Y,Y,Y,Y,N,N,N,N,N,N] rfl rfl (any_of HT_.out (by kernel_rfl)) ?_; refine pureA_ (i := 5) (N := some 18) #[Y,Y,Y,Y,N,Y,N,N,N,N] rfl rfl (any_of HT_.out (by kernel_rfl)) ?_; refine take_ (i := 7) (N := some 20) (v := ?_) (a' := ?_) #[Y,Y,Y,Y,N,Y,N,Y,N,N] rfl rfl (take_ofW HT_.out HW_.out (by kernel_rfl)) (fun _ _ _ h => h) (Or.inl ⟨by rfl, ?_⟩) hHeld ?_ ?_; rotate_left
 ·rintro w' ⟨s0, s1, s2, s3, s4, s5, s6⟩; go_simp; with_reducible rfl
 rotate_left
 ·simp only [Act.put, sA, sB, sC, i64_w, i32_w]; rfl
 refine take_ (i := 4) (N := some 17) (v := ?_) (a' := ?_) #[Y,Y,Y,Y,Y,Y,N,Y,N,N] rfl rfl (take_ofW HT_.out HW_.out (by kernel_rfl)) (fun _ _ _ h => h) (Or.inl ⟨by rfl, ?_⟩) hHeld ?_ ?_; rotate_left
 ·rintro w' ⟨s0, s1, s2, s3, s4, s5, s6⟩; go_simp; with_reducible rfl
 rotate_left
 ·simp only [Act.put, sA, sB, sC, i64_w, i32_w]; rfl
 refine one_ (i := 6) (N := some 19) #[Y,Y,Y,Y,Y,Y,Y,Y,N,N] rfl rfl (one_of HT_.out (by kernel_rfl)) (by decide) (fun K hK => ?_); refine goesA_ Tryd.func27 rfl #[.agg #[.bool a0_0, .int .i64 a0_1, .int .i64 a0_2, .int .i64 a0_3, .int .i64 a0_4, .int .i64 a0_5], .int .i64 H] (by rfl) rfl rfl ?_
 with_reducible refine (cubic_lawS.calls a0_0 a0_1 a0_2 a0_3 a0_4 a0_5 H t286 _ A5.out).mono ?_
 rintro e w11 ⟨rfl, hb⟩; refine ⟨_, rfl, ?_⟩; replace BK284 := bbZ BK284 hb; replace BW := bbZ BW hb; replace HB := Aside0.mk (below_step HB.out hb); clear hb; refine hK.out _ _ ⟨(blk_cell BK284.out 0).trans rfl, (blk_cell BK284.out 1).trans rfl, (blk_cell BK284.out 2).trans rfl, (blk_cell BK284.out 3).trans rfl, (blk_cell BK284.out 4).trans rfl, (blk_cell BK284.out 5).trans rfl, (blk_cell BW.out 0).trans rfl⟩ (fun hHeld => ?_); clear hK K; refine normA_ (some 19) ?_; refine pureA_ (i := 8) (N := some 21) #[Y,Y,Y,Y,Y,Y,Y,Y,Y,N] rfl rfl (any_of HT_.out (by kernel_rfl)) ?_; refine pureA_ (i := 9) (N := some 22) #[Y,Y,Y,Y,Y,Y,Y,Y,Y,Y] rfl rfl (any_of HT_.out (by kernel_rfl)) ?_; refine done_ (done_of HT_.out (by kernel_rfl)) ?_
 try go_wp2
 go_ret2
 exact ⟨rfl, (by repeat (first | (with_reducible first | apply below_drew1 | exact HB.out | apply below_alloc | apply pw_below_drewN) | exact HB.out))⟩
set_option maxHeartbeats 8000000 in
set_option maxRecDepth 100000 in
theorem cubic_Reach.walk (a0_0 : Bool) (a0_1 a0_2 a0_3 a0_4 a0_5 a1 : Int) (t286 H Nn : Int) (A3 : Aside0 (cubic_isS.f a0_0 a0_1 a0_2 a0_3 a0_4 a0_5 = some true)) (hH : wrap64 (2147483648 + a0_4) = H) (A5 : Aside0 (cubic_lawS.f a0_0 a0_1 a0_2 a0_3 a0_4 a0_5 H = some t286)) (c6b0 : decide (t286 < a1) = false)
  (HN : Aside0 (0 ≤ Nn ∧ Nn ≤ H ∧ H ≤ 4294967296 ∧ ∀ n, 0 ≤ n → n ≤ H → ∃ u, cubic_lawS.f a0_0 a0_1 a0_2 a0_3 a0_4 a0_5 n = some u ∧ decide (a1 ≤ u) = decide (Nn ≤ n))) (w : World) (hL : Tens w) :
  Calls Tryd.prog 11 #[.agg #[.bool a0_0, .int .i64 a0_1, .int .i64 a0_2, .int .i64 a0_3, .int .i64 a0_4, .int .i64 a0_5], .int .i64 a1] w fun e w' => e = .returned (.tuple #[.int .i64 Nn, .bool true]) ∧ Below w.heap.size w w' := by
 have hu23 := Tryd.underlying23
 have hmf : ∀ (fn : Fn) (first cap : Array Value) (w : World), (Instr.makeFunc fn first cap).run Tryd.prog w = .ok (.func fn first cap) w := fun _ _ _ _ => rfl
 have HB := Aside0.mk (Below.refl w.heap.size w)
 go_enter Tryd.func11, Tryd.ntmps11
 try go_wp2_with (first | ((with_reducible refine gate_dst (N := 2) rfl ?_); refine box_event ?hg (N := 2) ?hd (cs := #[.bool a0_0, .int .i64 a0_1, .int .i64 a0_2, .int .i64 a0_3, .int .i64 a0_4, .int .i64 a0_5]) (t := 23) ?hr ?_; (case hd => rfl); (case hg => rfl); (case hr => first | (go_simp; done) | (go_simp; rfl)); intro gb284 hg w7 hbox hb; have BK284 := Aside0.mk (hbox); obtain ⟨GW284, nHB⟩ := geA hg hb; have GE284 := GW284; replace HB := nHB; clear nHB; clear hb hbox hg) | ((with_reducible refine gate_dst (N := 3) rfl ?_); refine box_event ?hg (N := 3) ?hd (cs := #[.int .i64 a1]) (t := 3) ?hr ?_; (case hd => rfl); (case hg => rfl); (case hr => first | (go_simp; done) | (go_simp; rfl)); intro gw hg w3 hbox hb; have BW := Aside0.mk hbox; obtain ⟨GW3, nHB⟩ := geA hg hb; have GEW := GW3; obtain ⟨NB1, NB2, nBK⟩ := nbA BK284 hg hb; replace BK284 := nBK; clear nBK; replace HB := nHB; clear nHB; clear hb hbox hg))
 replace BK284 := Aside0.mk (blk_drew BK284.out); replace BW := Aside0.mk (blk_drew BW.out); replace HB := Aside0.mk (below_drew1 HB.out); refine start_ (n := 5) (S := fun w' => w'.cell? ⟨gb284, 0, none⟩ = some (.bool a0_0) ∧ w'.cell? ⟨gb284, 1, none⟩ = some (.int .i64 a0_1) ∧ w'.cell? ⟨gb284, 2, none⟩ = some (.int .i64 a0_2) ∧ w'.cell? ⟨gb284, 3, none⟩ = some (.int .i64 a0_3) ∧ w'.cell? ⟨gb284, 4, none⟩ = some (.int .i64 a0_4) ∧ w'.cell? ⟨gb284, 5, none⟩ = some (.int .i64 a0_5) ∧ w'.cell? ⟨gw, 0, none⟩ = some (.int .i64 a1)) (ds := []) #[N,N,N,N,N] (by kernel_rfl) rfl rfl ⟨(blk_cell BK284.out 0).trans rfl, (blk_cell BK284.out 1).trans rfl, (blk_cell BK284.out 2).trans rfl, (blk_cell BK284.out 3).trans rfl, (blk_cell BK284.out 4).trans rfl, (blk_cell BK284.out 5).trans rfl, (blk_cell BW.out 0).trans rfl⟩ (fun hHeld => ?_)
 generalize w7.drew = w8 at BK284 BW HB hHeld ⊢
 refine pureA_ (i := 0) (N := some 10) #[Y,N,N,N,N] rfl rfl (by kernel_rfl) ?_; refine pureA_ (i := 3) (N := some 6) #[Y,N,N,Y,N] rfl rfl (by kernel_rfl) ?_; refine take_ (i := 1) (N := some 11) (v := ?_) (a' := ?_) #[Y,Y,N,Y,N] rfl rfl (by kernel_rfl) (fun _ _ _ h => h) (Or.inl ⟨by rfl, ?_⟩) hHeld ?_ ?_; rotate_left
 ·rintro w' ⟨s0, s1, s2, s3, s4, s5, s6⟩; go_simp; with_reducible rfl
 rotate_left
 ·simp only [Act.put, sA, sB, sC, i64_w, i32_w]; rfl
 refine pureA_ (i := 2) (N := some 12) #[Y,Y,Y,Y,N] rfl rfl (by kernel_rfl) ?_; refine pureA_ (i := 4) (N := some 7) #[Y,Y,Y,Y,Y] rfl rfl (by kernel_rfl) ?_; refine done_ (by kernel_rfl) ?_
 rw [hH]
 try go_wp2
 replace BK284 := Aside0.mk (blk_drew BK284.out); replace BW := Aside0.mk (blk_drew BW.out); replace HB := Aside0.mk (below_drew1 HB.out); refine start_ (n := 10) (S := fun w' => w'.cell? ⟨gb284, 0, none⟩ = some (.bool a0_0) ∧ w'.cell? ⟨gb284, 1, none⟩ = some (.int .i64 a0_1) ∧ w'.cell? ⟨gb284, 2, none⟩ = some (.int .i64 a0_2) ∧ w'.cell? ⟨gb284, 3, none⟩ = some (.int .i64 a0_3) ∧ w'.cell? ⟨gb284, 4, none⟩ = some (.int .i64 a0_4) ∧ w'.cell? ⟨gb284, 5, none⟩ = some (.int .i64 a0_5) ∧ w'.cell? ⟨gw, 0, none⟩ = some (.int .i64 a1)) (ds := []) #[N,N,N,N,N,N,N,N,N,N] (by kernel_rfl) rfl rfl ⟨(blk_cell BK284.out 0).trans rfl, (blk_cell BK284.out 1).trans rfl, (blk_cell BK284.out 2).trans rfl, (blk_cell BK284.out 3).trans rfl, (blk_cell BK284.out 4).trans rfl, (blk_cell BK284.out 5).trans rfl, (blk_cell BW.out 0).trans rfl⟩ (fun hHeld => ?_); refine with_tabW cubic_Reach.tab2 cubic_Reach.bits2 (fun HT_ HW_ => ?_)
 generalize w8.drew = w9 at BK284 BW HB hHeld ⊢
 refine take_ (i := 0) (N := some 13) (v := ?_) (a' := ?_) #[Y,N,N,N,N,N,N,N,N,N] rfl rfl (take_ofW HT_.out HW_.out (by kernel_rfl)) (fun _ _ _ h => h) (Or.inl ⟨by rfl, ?_⟩) hHeld ?_ ?_; rotate_left
 ·rintro w' ⟨s0, s1, s2, s3, s4, s5, s6⟩; go_simp; with_reducible rfl
 rotate_left
 ·simp only [Act.put, sA, sB, sC, i64_w, i32_w]; rfl
 refine one_ (i := 1) (N := some 14) #[Y,Y,N,N,N,N,N,N,N,N] rfl rfl (one_of HT_.out (by kernel_rfl)) (by decide) (fun K hK => ?_); refine goesA_ Tryd.func26 rfl #[.agg #[.bool a0_0, .int .i64 a0_1, .int .i64 a0_2, .int .i64 a0_3, .int .i64 a0_4, .int .i64 a0_5]] (by rfl) rfl rfl ?_
 (with_reducible refine (cubic_isS.calls a0_0 a0_1 a0_2 a0_3 a0_4 a0_5 true _ A3.out ?hT_).mono ?_); (case hT_ => exact tensB hL (by repeat (first | (with_reducible first | exact HB.out | apply below_alloc | apply pw_below_drewN | apply below_drew1 | refine below_set ?_ (Aside0.out (by assumption))) | exact HB.out)))
 rintro e w10 ⟨rfl, hb⟩; refine ⟨_, rfl, ?_⟩; replace BK284 := bbZ BK284 hb; replace BW := bbZ BW hb; replace HB := Aside0.mk (below_step HB.out hb); clear hb; refine hK.out _ _ ⟨(blk_cell BK284.out 0).trans rfl, (blk_cell BK284.out 1).trans rfl, (blk_cell BK284.out 2).trans rfl, (blk_cell BK284.out 3).trans rfl, (blk_cell BK284.out 4).trans rfl, (blk_cell BK284.out 5).trans rfl, (blk_cell BW.out 0).trans rfl⟩ (fun hHeld => ?_); clear hK K; refine normA_ (some 14) ?_; refine pureA_ (i := 2) (N := some 15) #[Y,Y,Y,N,N,N,N,N,N,N] rfl rfl (any_of HT_.out (by kernel_rfl)) ?_; refine pureA_ (i := 3) (N := some 16) #[Y,Y,Y,Y,N,N,N,N,N,N] rfl rfl (any_of HT_.out (by kernel_rfl)) ?_; refine pureA_ (i := 5) (N := some 18) #[Y,Y,Y,Y,N,Y,N,N,N,N] rfl rfl (any_of HT_.out (by kernel_rfl)) ?_; refine take_ (i := 7) (N := some 20) (v := ?_) (a' := ?_) #[Y,Y,Y,Y,N,Y,N,Y,N,N] rfl rfl (take_ofW HT_.out HW_.out (by kernel_rfl)) (fun _ _ _ h => h) (Or.inl ⟨by rfl, ?_⟩) hHeld ?_ ?_; rotate_left
 ·rintro w' ⟨s0, s1, s2, s3, s4, s5, s6⟩; go_simp; with_reducible rfl
 rotate_left
 ·simp only [Act.put, sA, sB, sC, i64_w, i32_w]; rfl
 refine take_ (i := 4) (N := some 17) (v := ?_) (a' := ?_) #[Y,Y,Y,Y,Y,Y,N,Y,N,N] rfl rfl (take_ofW HT_.out HW_.out (by kernel_rfl)) (fun _ _ _ h => h) (Or.inl ⟨by rfl, ?_⟩) hHeld ?_ ?_; rotate_left
 ·rintro w' ⟨s0, s1, s2, s3, s4, s5, s6⟩; go_simp; with_reducible rfl
 rotate_left
 ·simp only [Act.put, sA, sB, sC, i64_w, i32_w]; rfl
 refine one_ (i := 6) (N := some 19) #[Y,Y,Y,Y,Y,Y,Y,Y,N,N] rfl rfl (one_of HT_.out (by kernel_rfl)) (by decide) (fun K hK => ?_); refine goesA_ Tryd.func27 rfl #[.agg #[.bool a0_0, .int .i64 a0_1, .int .i64 a0_2, .int .i64 a0_3, .int .i64 a0_4, .int .i64 a0_5], .int .i64 H] (by rfl) rfl rfl ?_
 with_reducible refine (cubic_lawS.calls a0_0 a0_1 a0_2 a0_3 a0_4 a0_5 H t286 _ A5.out).mono ?_
 rintro e w11 ⟨rfl, hb⟩; refine ⟨_, rfl, ?_⟩; replace BK284 := bbZ BK284 hb; replace BW := bbZ BW hb; replace HB := Aside0.mk (below_step HB.out hb); clear hb; refine hK.out _ _ ⟨(blk_cell BK284.out 0).trans rfl, (blk_cell BK284.out 1).trans rfl, (blk_cell BK284.out 2).trans rfl, (blk_cell BK284.out 3).trans rfl, (blk_cell BK284.out 4).trans rfl, (blk_cell BK284.out 5).trans rfl, (blk_cell BW.out 0).trans rfl⟩ (fun hHeld => ?_); clear hK K; refine normA_ (some 19) ?_; refine pureA_ (i := 8) (N := some 21) #[Y,Y,Y,Y,Y,Y,Y,Y,Y,N] rfl rfl (any_of HT_.out (by kernel_rfl)) ?_; refine pureA_ (i := 9) (N := some 22) #[Y,Y,Y,Y,Y,Y,Y,Y,Y,Y] rfl rfl (any_of HT_.out (by kernel_rfl)) ?_; refine done_ (done_of HT_.out (by kernel_rfl)) ?_
 go_wp2_with (fail)
 go_loopg [6, 7] (H + 1).toNat (fun kq v6 v7 wr => ∃ lo hi : Int, v6 = .int .i64 lo ∧ v7 = .int .i64 hi ∧ Aside0 (0 ≤ lo ∧ lo ≤ Nn ∧ Nn ≤ hi ∧ hi ≤ H ∧ hi - lo < (kq : Int)) ∧ Aside0 (wr.heap[gb284]? = some (.cells #[.bool a0_0, .int .i64 a0_1, .int .i64 a0_2, .int .i64 a0_3, .int .i64 a0_4, .int .i64 a0_5] 23 (0, 0))) ∧ Aside0 (wr.heap[gw]? = some (.cells #[.int .i64 a1] 3 (0, 0))) ∧ Aside0 (Below w.heap.size w wr))
 case atStart =>
  exact ⟨0, H, rfl, rfl, ⟨by have a := HN.out; omega⟩, ⟨by (with_reducible repeat first | apply blk_drewN | apply blk_drew | apply blk_alloc); exact BK284.out⟩, ⟨by (with_reducible repeat first | apply blk_drewN | apply blk_drew | apply blk_alloc); exact BW.out⟩, ⟨(by repeat (first | (with_reducible first | apply below_drew1 | exact HB.out | apply below_alloc | apply pw_below_drewN) | exact HB.out))⟩⟩
 case round =>
  clear HB BK284 BW; obtain ⟨lo, hi, rfl, rfl, HA, BK284, BW, HB⟩ := hrel
  by_cases e : lo < hi
  ·have c1 : decide (lo < hi) = true := decide_eq_true e; have e1 := Aside0.mk e; clear e
   obtain ⟨n, hn⟩ : ∃ n, wrap64 (lo + wrap64 ((wrap64 (hi - lo)).tdiv 2)) = n := ⟨_, rfl⟩
   obtain ⟨n1, hn1⟩ : ∃ n1, wrap64 (n + 1) = n1 := ⟨_, rfl⟩
   have hn' : Aside0 (lo ≤ n ∧ n < hi ∧ n1 = n + 1) := ⟨by
    have a := HA.out; have b := e1.out; have c := HN.out; have hn2 := hn
    rw [Sp.w64 (x := hi - lo) (by omega), Int.tdiv_eq_ediv_of_nonneg (by omega), Sp.w64 (x := (hi - lo) / 2) (by omega), Sp.w64 (x := lo + (hi - lo) / 2) (by omega)] at hn2
    have hn3 := hn1
    rw [Sp.w64 (x := n + 1) (by omega)] at hn3
    omega⟩
   have hcl : Aside0 (∃ u, cubic_lawS.f a0_0 a0_1 a0_2 a0_3 a0_4 a0_5 n = some u ∧ decide (a1 ≤ u) = decide (Nn ≤ n)) := ⟨HN.out.2.2.2 n (by have a := HA.out; have b := hn'.out; omega) (by have a := HA.out; have b := hn'.out; omega)⟩
   cases gk with
   | zero => exact absurd HA.out (by have := e1.out; simp; omega)
   | succ k1 =>
    by_cases cr : Nn ≤ n
    ·have cr' := Aside0.mk cr; clear cr
     go_wp2_with (first | (go_at_call 28; refine (cubic_Reach.closure0 gb284 gw n a0_1 a0_2 a0_3 a0_4 a0_5 a1 a0_0 true ⟨by obtain ⟨u, hu, hd⟩ := hcl.out; exact ⟨u, hu, by rw [hd]; exact decide_eq_true cr'.out⟩⟩ _ (by (with_reducible repeat first | apply blk_drewN | apply blk_drew | apply blk_alloc); exact BK284.out) (by (with_reducible repeat first | apply blk_drewN | apply blk_drew | apply blk_alloc); exact BW.out)).mono ?_; rintro e9 w9 ⟨rfl, hb⟩; replace BK284 := bdZ BK284 hb; replace BW := bdZ BW hb; replace HB := Aside0.mk (below_step (by repeat (first | (with_reducible first | apply below_drew1 | exact HB.out | apply below_alloc | apply pw_below_drewN) | exact HB.out)) hb); clear hb) | fail)
     go_roundg k1
     case rel =>
      exact ⟨lo, n, rfl, rfl, ⟨by have a := HA.out; have b := hn'.out; have c := cr'.out; omega⟩, ⟨by (with_reducible repeat first | apply blk_drewN | apply blk_drew | apply blk_alloc); exact BK284.out⟩, ⟨by (with_reducible repeat first | apply blk_drewN | apply blk_drew | apply blk_alloc); exact BW.out⟩, ⟨(by repeat (first | (with_reducible first | apply below_drew1 | exact HB.out | apply below_alloc | apply pw_below_drewN) | exact HB.out))⟩⟩
     case measure => omega
    ·have cr' := Aside0.mk cr; clear cr
     go_wp2_with (first | (go_at_call 28; refine (cubic_Reach.closure0 gb284 gw n a0_1 a0_2 a0_3 a0_4 a0_5 a1 a0_0 false ⟨by obtain ⟨u, hu, hd⟩ := hcl.out; exact ⟨u, hu, by rw [hd]; exact decide_eq_false cr'.out⟩⟩ _ (by (with_reducible repeat first | apply blk_drewN | apply blk_drew | apply blk_alloc); exact BK284.out) (by (with_reducible repeat first | apply blk_drewN | apply blk_drew | apply blk_alloc); exact BW.out)).mono ?_; rintro e9 w9 ⟨rfl, hb⟩; replace BK284 := bdZ BK284 hb; replace BW := bdZ BW hb; replace HB := Aside0.mk (below_step (by repeat (first | (with_reducible first | apply below_drew1 | exact HB.out | apply below_alloc | apply pw_below_drewN) | exact HB.out)) hb); clear hb) | fail)
     go_roundg k1
     case rel =>
      exact ⟨n1, hi, congrArg (Value.int .i64) hn1, rfl, ⟨by have a := HA.out; have b := hn'.out; have c := cr'.out; omega⟩, ⟨by (with_reducible repeat first | apply blk_drewN | apply blk_drew | apply blk_alloc); exact BK284.out⟩, ⟨by (with_reducible repeat first | apply blk_drewN | apply blk_drew | apply blk_alloc); exact BW.out⟩, ⟨(by repeat (first | (with_reducible first | apply below_drew1 | exact HB.out | apply below_alloc | apply pw_below_drewN) | exact HB.out))⟩⟩
     case measure => omega
  ·have c1 : decide (lo < hi) = false := decide_eq_false e
   have e1 : Aside0 (lo = Nn) := ⟨by have := HA.out; omega⟩
   clear e
   go_wp2
   (try rw [Exit.noGoto_ret])
   go_ret2
   exact ⟨by rw [e1.out]; rfl, (by repeat (first | (with_reducible first | apply below_drew1 | exact HB.out | apply below_alloc | apply pw_below_drewN) | exact HB.out))⟩
theorem cubic_Reach.calls (a0_0 : Bool) (a0_1 a0_2 a0_3 a0_4 a0_5 a1 r1 : Int) (r2 : Bool) (w : World) (h : cubic_Reach.f a0_0 a0_1 a0_2 a0_3 a0_4 a0_5 a1 = some (r1, r2)) (hL : Tens w) :
  Calls Tryd.prog 11 #[.agg #[.bool a0_0, .int .i64 a0_1, .int .i64 a0_2, .int .i64 a0_3, .int .i64 a0_4, .int .i64 a0_5], .int .i64 a1] w fun e w' => e = .returned (.tuple #[.int .i64 r1, .bool r2]) ∧ Below w.heap.size w w' := by
 obtain ⟨⟨h1, h2, h3, h4, h5, h6⟩, h⟩ := Sp.need_some h; have h := Option.some.inj h; have hI := cubic_isS.eq (on := a0_0) (s := a0_1) (f := a0_2) (m := a0_3) (k := a0_4) (e := a0_5) h1 h2 h3
 unfold Sp.reachQ at h
 by_cases c : a0_0 = true ∧ Sp.eOk a0_0 a0_1 a0_2 a0_3 a0_4 a0_5 = true
 ·have c' := c; obtain ⟨rfl, c2⟩ := c'
  rw [c2] at hI
  have hk := Sp.eOn_k (Sp.eOk_on.1 c2)
  obtain ⟨H, hH⟩ : ∃ H, wrap64 (2147483648 + a0_4) = H := ⟨_, rfl⟩
  have hH' : H = 2147483648 + a0_4 := by rw [← hH]; exact Sp.w64 (by omega)
  have hlaw : ∀ n, 0 ≤ n → n ≤ H → cubic_lawS.f true a0_1 a0_2 a0_3 a0_4 a0_5 n = some (Sp.lawQ a0_3 a0_4 n) := fun n n0 n1 => by
   rw [cubic_lawS.eq h3 h4 (by omega), Sp.near_clamp, Sp.riseQ_near]
   rfl
  by_cases d : a1 ≤ Sp.lawQ a0_3 a0_4 (2147483648 + a0_4)
  ·rw [if_pos ⟨c, d⟩] at h
   obtain ⟨rfl, rfl⟩ := Prod.mk.inj h
   rw [← hH'] at d
   obtain ⟨s1, s2, s3, s4⟩ := Sp.reachN_spec (h := H) (by omega) d; refine cubic_Reach.walk true a0_1 a0_2 a0_3 a0_4 a0_5 a1 _ H _ ⟨hI⟩ hH ⟨hlaw H (by omega) (by omega)⟩ (decide_eq_false (by omega)) ⟨⟨s1, s2, by omega, fun n n0 n1 => ⟨_, hlaw n n0 n1, ?_⟩⟩⟩ w hL
   rw [decide_eq_decide]
   constructor
   ·intro x
    rcases Int.lt_or_le n (Sp.reachN a0_3 a0_4 a1) with y | y
    ·have := s4 n n0 y; omega
    ·exact y
   ·intro x; have := Sp.lawQ_mono (m := a0_3) (k := a0_4) x
    omega
  ·rw [if_neg (fun x => d x.2)] at h
   obtain ⟨rfl, rfl⟩ := Prod.mk.inj h
   rw [← hH'] at d
   exact cubic_Reach.low true a0_1 a0_2 a0_3 a0_4 a0_5 a1 _ H ⟨hI⟩ hH ⟨hlaw H (by omega) (by omega)⟩ (decide_eq_true (by omega)) w hL
 ·rw [if_neg (fun x => c x.1)] at h
  obtain ⟨rfl, rfl⟩ := Prod.mk.inj h
  have hb : (a0_0 && Sp.eOk a0_0 a0_1 a0_2 a0_3 a0_4 a0_5) = false := by
   rw [Bool.and_eq_false_iff]
   by_cases x : a0_0 = true
   ·exact Or.inr (Bool.eq_false_iff.mpr fun y => c ⟨x, y⟩)
   ·exact Or.inl (Bool.eq_false_iff.mpr x)
  rw [hb] at hI
  exact cubic_Reach.no a0_0 a0_1 a0_2 a0_3 a0_4 a0_5 a1 ⟨hI⟩ w hL

end Go.Proofs.YtgakpcfmgcpeaaaDoor.Px
