/- Printed by px.py, over the kit's print. Conditions: none beside the theorems' own. -/
import Derived.Test.YtfahbgkoldoflaaGreatDoorEng0
import Derived.Test.YtfahbgkoldoflaaGreatDoorPx0
import Derived.Test.YtfahbgkoldoflaaGreatDoorPx11
import Derived.Test.YtfahbgkoldoflaaGreatDoorPx12
import Derived.Test.YtfahbgkoldoflaaGreatDoorPx16
import Derived.Test.YtfahbgkoldoflaaGreatDoorPx18
import Derived.Test.YtfahbgkoldoflaaGreatDoorSpec
namespace Go.Proofs.YtfahbgkoldoflaaGreatDoor.Px
open Go.RowKit Go.Proofs.YtfahbgkoldoflaaGreatDoorW.PrintWords Go.Proofs.YtfahbgkoldoflaaGreatDoorW.PrintLast Go.Proofs.YtfahbgkoldoflaaGreatDoorW.PrintMore
attribute [local go_sem] max2_int min2_int max_two min_two max_three min_three max_four min_four
set_option linter.unusedVariables false
set_option linter.unusedSimpArgs false

/-! ### rtt_known_next: function 156 -/
noncomputable def rtt_known_next.f (a0_0 : Bool) (a0_1 : Int) (a0_2 : Int) (a1 : Int) : Option (Bool × Int × Int) := (rtt_Mean.f a0_0 a0_1 a0_2).bind fun t455 => ((rtt_Far.f a0_0 a0_1 a0_2).bind fun t456 => (some (a0_0, wrap64 (a0_1 + (wrap64 (a1 - t455))), wrap64 (a0_2 + (wrap64 ((mx (wrap64 (a1 - t455)) (wrap64 (t455 - a1))) - t456))))))
def rtt_known_next.T1 : Bool × List (List Nat × List Nat) := (true, [([], []), ([0], [0]), ([1], [1]), ([], []), ([3], [3]), ([4, 2], [4]), ([2, 5, 0, 1, 2], [2]), ([5, 6, 0, 1, 2, 3, 4, 5, 6], [5])])
def rtt_known_next.B1 : List Nat := [0, 1, 3, 0, 8, 31, 63, 127]
theorem rtt_known_next.tab1 : rtab .any (opsOf Tryz.f156 1) = rtt_known_next.T1 := by kernel_rfl
theorem rtt_known_next.bits1 : waitsOk rtt_known_next.T1.2 rtt_known_next.B1 = true := by kernel_rfl
set_option maxHeartbeats 8000000 in
set_option maxRecDepth 100000 in
theorem rtt_known_next.calls (a0_0 : Bool) (a0_1 : Int) (a0_2 : Int) (a1 : Int) (r1 : Bool) (r2 : Int) (r3 : Int) (w : World) (h : rtt_known_next.f a0_0 a0_1 a0_2 a1 = some (r1, r2, r3)) :
  Calls Tryz.prog 156 #[.agg #[.bool a0_0, .int .i64 a0_1, .int .i64 a0_2], .int .i64 a1] w fun e w' => e = .returned (.agg #[.bool r1, .int .i64 r2, .int .i64 r3]) ∧ Below w.heap.size w w' := by
 have hu203 := Tryz.underlying203; have hu39 := Tryz.underlying39; have HB := Aside0.mk (Below.refl w.heap.size w); have H : ((rtt_Mean.f a0_0 a0_1 a0_2).bind fun t455 => ((rtt_Far.f a0_0 a0_1 a0_2).bind fun t456 => (some (a0_0, wrap64 (a0_1 + (wrap64 (a1 - t455))), wrap64 (a0_2 + (wrap64 ((mx (wrap64 (a1 - t455)) (wrap64 (t455 - a1))) - t456))))))) = some (r1, r2, r3) := h; clear h; replace H := Option.bind_eq_some_iff.mp H; obtain ⟨t455, A30, H⟩ := H; replace H : ((rtt_Far.f a0_0 a0_1 a0_2).bind fun t456 => (some (a0_0, wrap64 (a0_1 + (wrap64 (a1 - t455))), wrap64 (a0_2 + (wrap64 ((mx (wrap64 (a1 - t455)) (wrap64 (t455 - a1))) - t456)))))) = some (r1, r2, r3) := H; have A3 := Aside0.mk A30; clear A30; replace H := Option.bind_eq_some_iff.mp H; obtain ⟨t456, A40, H⟩ := H; replace H : (some (a0_0, wrap64 (a0_1 + (wrap64 (a1 - t455))), wrap64 (a0_2 + (wrap64 ((mx (wrap64 (a1 - t455)) (wrap64 (t455 - a1))) - t456))))) = some (r1, r2, r3) := H; have A4 := Aside0.mk A40; clear A40
 obtain ⟨ji5, hji5⟩ : ∃ j_ : Int, (mx (wrap64 (a1 - t455)) (wrap64 (t455 - a1))) = j_ := ⟨_, rfl⟩
 replace H : (some (a0_0, wrap64 (a0_1 + (wrap64 (a1 - t455))), wrap64 (a0_2 + (wrap64 ((ji5) - t456))))) = some (r1, r2, r3) := by first | (rw [hji5] at H; exact H) | (simp only [hji5] at H ⊢; exact H)
 (try rw [hji5] at A3)
 (try rw [hji5] at A4)
 have hji5_ : (if (wrap64 (a1 - t455)) < (wrap64 (t455 - a1)) then (wrap64 (t455 - a1)) else (wrap64 (a1 - t455))) = ji5 := hji5; simp only [Option.some.injEq, Prod.mk.injEq] at H; obtain ⟨rfl, rfl, rfl⟩ := H
 go_enter Tryz.func156, Tryz.ntmps156
 try go_wp2_with (first | ((with_reducible refine gate_dst (N := 2) rfl ?_); refine box_event ?hg (N := 2) ?hd (cs := #[.bool a0_0, .int .i64 a0_1, .int .i64 a0_2]) (t := 203) ?hr ?_; (case hd => rfl); (case hg => rfl); (case hr => first | (go_simp; done) | (go_simp; rfl)); intro gb453 hg w6 hbox hb; have BK453 := Aside0.mk (hbox); obtain ⟨GW453, nHB⟩ := geA hg hb; have GE453 := GW453; replace HB := nHB; clear nHB; clear hb hbox hg) | ((with_reducible refine gate_dst (N := 4) rfl ?_); refine box_event ?hg (N := 4) ?hd (cs := #[.bool false, .int .i64 0, .int .i64 0]) (t := 203) ?hr ?_; (case hd => rfl); (case hg => rfl); (case hr => first | (go_simp; done) | (go_simp; rfl)); intro gb454 hg w7 hbox hb; have BK454 := Aside0.mk (hbox); obtain ⟨GW454, nHB⟩ := geA hg hb; have GE454 := GW454; obtain ⟨NB453_454, NB454_453, nBK⟩ := nbA BK453 hg hb; replace BK453 := nBK; clear nBK; replace HB := nHB; clear nHB; clear hb hbox hg))
 replace BK453 := Aside0.mk (blk_drew BK453.out); replace BK454 := Aside0.mk (blk_drew BK454.out); replace HB := Aside0.mk (below_drew1 HB.out); refine start_ (n := 8) (S := fun w' => w'.cell? ⟨gb453, 0, none⟩ = some (.bool a0_0) ∧ w'.cell? ⟨gb453, 1, none⟩ = some (.int .i64 a0_1) ∧ w'.cell? ⟨gb453, 2, none⟩ = some (.int .i64 a0_2)) (ds := []) #[N,N,N,N,N,N,N,N] (by kernel_rfl) rfl rfl ⟨(blk_cell BK453.out 0).trans rfl, (blk_cell BK453.out 1).trans rfl, (blk_cell BK453.out 2).trans rfl⟩ (fun hHeld => ?_); refine with_tabW rtt_known_next.tab1 rtt_known_next.bits1 (fun HT_ HW_ => ?_)
 generalize w7.drew = w8 at BK453 BK454 HB hHeld ⊢
 refine pureA_ (i := 0) (N := some 7) #[Y,N,N,N,N,N,N,N] rfl rfl (any_of HT_.out (by kernel_rfl)) ?_
 refine pureA_ (i := 3) (N := some 10) #[Y,N,N,Y,N,N,N,N] rfl rfl (any_of HT_.out (by kernel_rfl)) ?_
 refine take_ (i := 1) (N := some 8) (v := ?_) (a' := ?_) #[Y,Y,N,Y,N,N,N,N] rfl rfl (take_ofW HT_.out HW_.out (by kernel_rfl)) (fun _ _ _ h => h) (Or.inl ⟨by rfl, ?_⟩) hHeld ?_ ?_; rotate_left
 ·rintro w' ⟨s0, s1, s2⟩; go_simp
  with_reducible rfl
 rotate_left
 ·simp only [Act.put, sA, sB, sC, i64_w, i32_w]
  rfl
 refine take_ (i := 4) (N := some 11) (v := ?_) (a' := ?_) #[Y,Y,N,Y,Y,N,N,N] rfl rfl (take_ofW HT_.out HW_.out (by kernel_rfl)) (fun _ _ _ h => h) (Or.inl ⟨by rfl, ?_⟩) hHeld ?_ ?_; rotate_left
 ·rintro w' ⟨s0, s1, s2⟩; go_simp
  with_reducible rfl
 rotate_left
 ·simp only [Act.put, sA, sB, sC, i64_w, i32_w]
  rfl
 refine one_ (i := 2) (N := some 9) #[Y,Y,Y,Y,Y,N,N,N] rfl rfl (one_of HT_.out (by kernel_rfl)) (by decide) (fun K hK => ?_); refine goesA_ Tryz.func142 rfl #[.agg #[.bool a0_0, .int .i64 a0_1, .int .i64 a0_2]] (by rfl) rfl rfl ?_
 with_reducible refine (rtt_Mean.calls a0_0 a0_1 a0_2 t455 _ A3.out).mono ?_
 rintro e w9 ⟨rfl, hb⟩; refine ⟨_, rfl, ?_⟩; replace BK453 := bbZ BK453 hb; replace BK454 := bbZ BK454 hb; replace HB := Aside0.mk (below_step HB.out hb); clear hb; refine hK.out _ _ ⟨(blk_cell BK453.out 0).trans rfl, (blk_cell BK453.out 1).trans rfl, (blk_cell BK453.out 2).trans rfl⟩ (fun hHeld => ?_); clear hK K; refine normA_ (some 9) ?_
 refine one_ (i := 5) (N := some 12) #[Y,Y,Y,Y,Y,Y,N,N] rfl rfl (one_of HT_.out (by kernel_rfl)) (by decide) (fun K hK => ?_); refine goesA_ Tryz.func171 rfl #[.agg #[.bool a0_0, .int .i64 a0_1, .int .i64 a0_2]] (by rfl) rfl rfl ?_
 with_reducible refine (rtt_Far.calls a0_0 a0_1 a0_2 t456 _ A4.out).mono ?_
 rintro e w10 ⟨rfl, hb⟩; refine ⟨_, rfl, ?_⟩; replace BK453 := bbZ BK453 hb; replace BK454 := bbZ BK454 hb; replace HB := Aside0.mk (below_step HB.out hb); clear hb; refine hK.out _ _ ⟨(blk_cell BK453.out 0).trans rfl, (blk_cell BK453.out 1).trans rfl, (blk_cell BK453.out 2).trans rfl⟩ (fun hHeld => ?_); clear hK K; refine normA_ (some 12) ?_
 refine pureA_ (i := 6) (N := some 5) #[Y,Y,Y,Y,Y,Y,Y,N] rfl rfl (any_of HT_.out (by kernel_rfl)) ?_
 refine pureA_ (i := 7) (N := some 6) #[Y,Y,Y,Y,Y,Y,Y,Y] rfl rfl (any_of HT_.out (by kernel_rfl)) ?_
 refine done_ (done_of HT_.out (by kernel_rfl)) ?_; have hnb11 := NB453_454.out; have hnc11 := NB454_453.out; have hcz12_0 := czZ BK453 0 (.bool a0_0); have hcz12_1 := czZ BK453 1 (.int .i64 a0_1); have hcz12_2 := czZ BK453 2 (.int .i64 a0_2); have hfz12_0 := blk_frozen BK453.out 0; have hfz12_1 := blk_frozen BK453.out 1; have hfz12_2 := blk_frozen BK453.out 2; have hcz13_0 := czZ BK454 0 (.bool false); have hcz13_1 := czZ BK454 1 (.int .i64 0); have hcz13_2 := czZ BK454 2 (.int .i64 0); have hfz13_0 := blk_frozen BK454.out 0; have hfz13_1 := blk_frozen BK454.out 1; have hfz13_2 := blk_frozen BK454.out 2
 try go_wp2
 refine bodyPost_ret (results_cell_row rfl _ _ gb454 203 #[.bool a0_0, .int .i64 (wrap64 (a0_1 + (wrap64 (a1 - t455)))), .int .i64 (wrap64 (a0_2 + (wrap64 ((ji5) - t456))))] (0, 0) _ rfl (by (with_reducible repeat first | apply blk_drewN | apply blk_drew | apply blk_alloc); refine blk_put (cs := #[.bool a0_0, .int .i64 (wrap64 (a0_1 + (wrap64 (a1 - t455)))), .int .i64 0]) ?_ 2 _ rfl; (with_reducible repeat first | apply blk_drewN | apply blk_drew | apply blk_alloc); refine blk_put (cs := #[.bool a0_0, .int .i64 0, .int .i64 0]) ?_ 1 _ rfl; (with_reducible repeat first | apply blk_drewN | apply blk_drew | apply blk_alloc); refine blk_put (cs := #[.bool false, .int .i64 0, .int .i64 0]) ?_ 0 _ rfl; (with_reducible repeat first | apply blk_drewN | apply blk_drew | apply blk_alloc); refine blk_far ?_ NB454_453.out _; (with_reducible repeat first | apply blk_drewN | apply blk_drew | apply blk_alloc); refine blk_far ?_ NB454_453.out _; (with_reducible repeat first | apply blk_drewN | apply blk_drew | apply blk_alloc); exact BK454.out) Tryz.underlying203 rfl (by kernel_rfl)) rfl ?_; exact ⟨by first | rfl | (simp [errW_none, errW_some] <;> rfl) | (simp only [← hji5]; first | rfl | (simp [errW_none, errW_some] <;> rfl)) | (simp [*, errW_none, errW_some] <;> rfl), by repeat (first | (with_reducible first | exact HB.out | apply below_alloc | apply pw_below_drewN | apply below_drew1 | refine below_set ?_ (Aside0.out (by assumption))) | exact HB.out)⟩

/-! ### rtt_Sample: function 134 -/
noncomputable def rtt_Sample.j0 : Nat → Int → Bool → Bool → Int → Int → Bool → Int → Int → Option (Bool × Int × Int × Int)
 | 0, _, _, _, _, _, _, _, _ => none
 | k + 1, x1, x12, x458000, x458001, x458002, x460000, x460001, x460002 => if x12 = true then (some (x458000, x458001, x458002, 201)) else (if x460000 = true then ((rtt_known_next.f x460000 x460001 x460002 x1).bind fun bt461 => (some (bt461.1, bt461.2.1, bt461.2.2, 0))) else ((rtt_first.f x1).bind fun bt464 => (some (bt464.1, bt464.2.1, bt464.2.2, 0))))
noncomputable def rtt_Sample.f (k : Nat) (a0_0 : Bool) (a0_1 : Int) (a0_2 : Int) (a1 : Int) : Option (Bool × Int × Int × Int) := (rtt_Check.f a0_0 a0_1 a0_2).bind fun t460 => (if t460 = true then (if a1 < 1 then (rtt_Sample.j0 k a1 true a0_0 a0_1 a0_2 a0_0 a0_1 a0_2) else (rtt_Sample.j0 k a1 (decide (a1 > 1073741824)) a0_0 a0_1 a0_2 a0_0 a0_1 a0_2)) else (rtt_Sample.j0 k a1 true a0_0 a0_1 a0_2 a0_0 a0_1 a0_2))
set_option maxHeartbeats 4000000 in
set_option maxRecDepth 100000 in
theorem rtt_Sample.calls (k : Nat) (a0_0 : Bool) (a0_1 : Int) (a0_2 : Int) (a1 : Int) (r1 : Bool) (r2 : Int) (r3 : Int) (r4 : Int) (w : World) (h : rtt_Sample.f k a0_0 a0_1 a0_2 a1 = some (r1, r2, r3, r4)) :
  Calls Tryz.prog 134 #[.agg #[.bool a0_0, .int .i64 a0_1, .int .i64 a0_2], .int .i64 a1] w fun e w' => e = .returned (.tuple #[.agg #[.bool r1, .int .i64 r2, .int .i64 r3], .int .i64 r4]) ∧ Below w.heap.size w w' := by
  have H := Aside0.mk (Bx.start w)
  obtain ⟨t, hT, h⟩ := Option.bind_eq_some_iff.1 h
  have HC := Aside0.mk hT
  clear hT
  cases k with
  | zero => cases t <;> simp [rtt_Sample.j0] at h
  | succ k =>
  obtain ⟨u1, u2, u3, hu⟩ : ∃ u1 u2 u3, rtt_known_next.f a0_0 a0_1 a0_2 a1 = some (u1, u2, u3) := ⟨_, _, _, rfl⟩
  obtain ⟨v1, v2, v3, hv⟩ : ∃ v1 v2 v3, rtt_first.f a1 = some (v1, v2, v3) := ⟨_, _, _, rfl⟩
  have HU := Aside0.mk hu
  have HV := Aside0.mk hv
  by_cases p1 : a1 < 1 <;> by_cases p2 : 1073741824 < a1 <;> cases t <;> cases a0_0 <;> simp [rtt_Sample.j0, p1, p2, hu, hv] at h <;> obtain ⟨rfl, rfl, rfl, rfl⟩ := h
  all_goals (first | have c1 := decide_eq_false p1 | have c1 := decide_eq_true p1)
  all_goals (first | have c2 := decide_eq_false p2 | have c2 := decide_eq_true p2)
  all_goals clear p1 p2 hu hv
  all_goals (go_enter Tryz.func134, Tryz.ntmps134)
  all_goals (go_wp2_with (first
    | ((with_reducible refine gate_dst (N := 2) rfl ?_); refine bxB 2 39 (.tmp 0) H ?_; clear H; intro b2 _ H)
    | ((with_reducible refine gate_dst (N := 4) rfl ?_); refine bxV 4 39 #[.bool false, .int .i64 0, .int .i64 0] H (fun _ => by kernel_rfl) ?_; clear H; intro b4 _ H)
    | (refine bxR 39 2 7 0 Tryz.underlying39 H ?_)
    | ((with_reducible refine gate_dst (N := 6) rfl ?_); refine bxV 6 203 #[.bool false, .int .i64 0, .int .i64 0] H (fun _ => by kernel_rfl) ?_; clear H; intro b6 _ H)
    | (refine bxP 203 6 8 2 H ?_; clear H; intro _ H)
    | (refine bxR 39 2 13 0 Tryz.underlying39 H ?_)
    | (go_at_call 66; (with_reducible refine (rtt_Check.calls _ a0_1 a0_2 _ _ HC.out).mono ?_); rintro e wc ⟨rfl, hb⟩; replace H := Aside0.mk (H.out.below hb); clear hb)
    | (refine bxR 39 2 24 0 Tryz.underlying39 H ?_)
    | (refine bxP 39 4 24 1 H ?_; clear H; intro _ H)
    | (refine bxL 27 28 2 0 l4 H ?_)
    | (go_at_call 155; (with_reducible refine (rtt_first.calls a1 v1 v2 v3 _ HV.out).mono ?_); rintro e wc ⟨rfl, hb⟩; replace H := Aside0.mk (H.out.below hb); clear hb)
    | (refine bxP 203 6 31 2 H ?_; clear H; intro _ H)
    | (refine bxR 203 6 9 2 Tryz.underlying203 H ?_)
    | (go_at_call 156; (with_reducible refine (rtt_known_next.calls _ a0_1 a0_2 a1 u1 u2 u3 _ HU.out).mono ?_); rintro e wc ⟨rfl, hb⟩; replace H := Aside0.mk (H.out.below hb); clear hb)
    | (refine bxP 203 6 11 2 H ?_; clear H; intro _ H)
    | (refine bxR 39 32 33 2 Tryz.underlying39 H ?_)
    | (refine bxP 39 4 33 1 H ?_; clear H; intro _ H)
    | fail))
  all_goals (refine bodyPost_ret (results_row_tmp rfl b4 39 _ _ rfl rfl (H.out.get 1 rfl) Tryz.underlying39 (by kernel_rfl)) rfl ⟨rfl, H.out.lo⟩)

/-! ### reno_Part: function 163 -/
noncomputable def reno_Part.f (a0 : Int) (a1 : Int) : Option (Int × Int) := if a0 < a1 then (some (9, 17)) else (some (1, 1))
set_option maxHeartbeats 8000000 in
set_option maxRecDepth 100000 in
theorem reno_Part.calls (a0 : Int) (a1 : Int) (r1 : Int) (r2 : Int) (w : World) (h : reno_Part.f a0 a1 = some (r1, r2)) :
  Calls Tryz.prog 163 #[.int .i64 a0, .int .i64 a1] w fun e w' => e = .returned (.tuple #[.int .i64 r1, .int .i64 r2]) ∧ Drawn0 w w' := by
 have H : (if a0 < a1 then (some (9, 17)) else (some (1, 1))) = some (r1, r2) := h; clear h
 by_cases c3 : a0 < a1
 ·rw [if_pos c3] at H
  have c3b0 : decide (a0 < a1) = true := decide_eq_true c3; clear c3; simp only [Option.some.injEq, Prod.mk.injEq] at H; obtain ⟨rfl, rfl⟩ := H
  go_enter Tryz.func163, Tryz.ntmps163
  go_wp2
  go_ret2
  exact ⟨by first | rfl | (simp; done) | (simp [*]; done), by repeat (first | exact Drawn0.refl _ | apply Drawn0.step)⟩
 ·rw [if_neg c3] at H
  have c3b0 : decide (a0 < a1) = false := decide_eq_false c3; clear c3; simp only [Option.some.injEq, Prod.mk.injEq] at H; obtain ⟨rfl, rfl⟩ := H
  go_enter Tryz.func163, Tryz.ntmps163
  go_wp2
  go_ret2
  exact ⟨by first | rfl | (simp; done) | (simp [*]; done), by repeat (first | exact Drawn0.refl _ | apply Drawn0.step)⟩

/-! ### reno_between_int: function 164 -/
noncomputable def reno_between_int.f (a0 : Int) (a1 : Int) (a2 : Int) : Option (Int) := some (mn (mx a0 a1) a2)
set_option maxHeartbeats 8000000 in
set_option maxRecDepth 100000 in
theorem reno_between_int.calls (a0 : Int) (a1 : Int) (a2 : Int) (r : Int) (w : World) (h : reno_between_int.f a0 a1 a2 = some r) :
  Calls Tryz.prog 164 #[.int .i64 a0, .int .i64 a1, .int .i64 a2] w fun e w' => e = .returned (.int .i64 r) ∧ Below w.heap.size w w' := by
 have HB := Aside0.mk (Below.refl w.heap.size w); have H : (some (mn (mx a0 a1) a2)) = some r := h; clear h
 obtain ⟨ji4, hji4⟩ : ∃ j_ : Int, (mx a0 a1) = j_ := ⟨_, rfl⟩
 replace H : (some (mn (ji4) a2)) = some r := by first | (rw [hji4] at H; exact H) | (simp only [hji4] at H ⊢; exact H)
 have hji4_ : (if a0 < a1 then a1 else a0) = ji4 := hji4
 obtain ⟨ji5, hji5⟩ : ∃ j_ : Int, (mn (ji4) a2) = j_ := ⟨_, rfl⟩
 replace H : (some ji5) = some r := by first | (rw [hji5] at H; exact H) | (simp only [hji5] at H ⊢; exact H)
 have hji5_ : (if a2 < (ji4) then a2 else (ji4)) = ji5 := hji5; obtain rfl := Option.some.inj H
 go_enter Tryz.func164, Tryz.ntmps164
 go_wp2
 go_ret
 exact ⟨by first | rfl | (simp [errW_none, errW_some] <;> rfl) | (simp only [← hji4, ← hji5]; first | rfl | (simp [errW_none, errW_some] <;> rfl)) | (simp [*, errW_none, errW_some] <;> rfl), by repeat (first | (with_reducible first | exact HB.out | apply below_alloc | apply pw_below_drewN | apply below_drew1) | exact HB.out)⟩

/-! ### reno_Step: function 140 -/
noncomputable def reno_Step.f (a0 : Int) (a1 : Int) (a2 : Int) (a3 : Int) : Option (Int) := (reno_Part.f a0 a1).bind fun bt467 => ((reno_between_int.f a0 0 68719476736).bind fun t469 => ((reno_between_int.f a2 65536 68719476736).bind fun t470 => ((reno_between_int.f a3 0 68719476736).bind fun t471 => ((frac_FloorS.f (wrap64 (t471 * bt467.1)) 65536 (wrap64 (t470 * bt467.2))).bind fun bt472 => ((safe_Add.f t469 bt472.1).bind fun t474 => ((reno_between_int.f t474 0 68719476736).bind fun t475 => (some t475)))))))
set_option maxHeartbeats 8000000 in
set_option maxRecDepth 100000 in
theorem reno_Step.calls (a0 : Int) (a1 : Int) (a2 : Int) (a3 : Int) (r : Int) (w : World) (h : reno_Step.f a0 a1 a2 a3 = some r) :
  Calls Tryz.prog 140 #[.int .i64 a0, .int .i64 a1, .int .i64 a2, .int .i64 a3] w fun e w' => e = .returned (.int .i64 r) ∧ Below w.heap.size w w' := by
 have HB := Aside0.mk (Below.refl w.heap.size w); have H : ((reno_Part.f a0 a1).bind fun bt467 => ((reno_between_int.f a0 0 68719476736).bind fun t469 => ((reno_between_int.f a2 65536 68719476736).bind fun t470 => ((reno_between_int.f a3 0 68719476736).bind fun t471 => ((frac_FloorS.f (wrap64 (t471 * bt467.1)) 65536 (wrap64 (t470 * bt467.2))).bind fun bt472 => ((safe_Add.f t469 bt472.1).bind fun t474 => ((reno_between_int.f t474 0 68719476736).bind fun t475 => (some t475)))))))) = some r := h; clear h; replace H := Option.bind_eq_some_iff.mp H; obtain ⟨⟨t467, t468⟩, A50, H⟩ := H; (try dsimp only at H); have A5 := Aside0.mk A50; clear A50; replace H := Option.bind_eq_some_iff.mp H; obtain ⟨t469, A60, H⟩ := H; (try dsimp only at H); have A6 := Aside0.mk A60; clear A60; replace H := Option.bind_eq_some_iff.mp H; obtain ⟨t470, A70, H⟩ := H; (try dsimp only at H); have A7 := Aside0.mk A70; clear A70; replace H := Option.bind_eq_some_iff.mp H; obtain ⟨t471, A80, H⟩ := H; (try dsimp only at H); have A8 := Aside0.mk A80; clear A80; replace H := Option.bind_eq_some_iff.mp H; obtain ⟨⟨t472, t473⟩, A90, H⟩ := H; replace H : ((safe_Add.f t469 t472).bind fun t474 => ((reno_between_int.f t474 0 68719476736).bind fun t475 => (some t475))) = some r := H; have A9 := Aside0.mk A90; clear A90; replace H := Option.bind_eq_some_iff.mp H; obtain ⟨t474, A100, H⟩ := H; replace H : ((reno_between_int.f t474 0 68719476736).bind fun t475 => (some t475)) = some r := H; have A10 := Aside0.mk A100; clear A100; replace H := Option.bind_eq_some_iff.mp H; obtain ⟨t475, A110, H⟩ := H; replace H : (some t475) = some r := H; have A11 := Aside0.mk A110; clear A110; obtain rfl := Option.some.inj H
 go_enter Tryz.func140, Tryz.ntmps140
 go_wp2_with (first | ((with_reducible refine gate_callee (f := 163) rfl ?_); refine goesLA_ (some 16) rfl rfl Tryz.func163 rfl #[.int .i64 a0, .int .i64 a1] rfl ?_; (with_reducible refine (reno_Part.calls a0 a1 t467 t468 _ A5.out).mono ?_); rintro e w' ⟨rfl, ⟨nd, rfl⟩⟩; refine ⟨_, rfl, ?_⟩) | ((with_reducible refine gate_callee (f := 164) rfl ?_); refine goesLA_ (some 20) rfl rfl Tryz.func164 rfl #[.int .i64 a0, .int .i64 0, .int .i64 68719476736] rfl ?_; (with_reducible refine (reno_between_int.calls a0 0 68719476736 t469 _ A6.out).mono ?_); rintro e w12 ⟨rfl, hb⟩; refine ⟨_, rfl, ?_⟩; replace HB := stA hb; clear hb) | ((with_reducible refine gate_callee (f := 164) rfl ?_); refine goesLA_ (some 22) rfl rfl Tryz.func164 rfl #[.int .i64 a2, .int .i64 65536, .int .i64 68719476736] rfl ?_; (with_reducible refine (reno_between_int.calls a2 65536 68719476736 t470 _ A7.out).mono ?_); rintro e w13 ⟨rfl, hb⟩; refine ⟨_, rfl, ?_⟩; replace HB := stA hb; clear hb) | ((with_reducible refine gate_callee (f := 164) rfl ?_); refine goesLA_ (some 24) rfl rfl Tryz.func164 rfl #[.int .i64 a3, .int .i64 0, .int .i64 68719476736] rfl ?_; (with_reducible refine (reno_between_int.calls a3 0 68719476736 t471 _ A8.out).mono ?_); rintro e w14 ⟨rfl, hb⟩; refine ⟨_, rfl, ?_⟩; replace HB := stA hb; clear hb) | ((with_reducible refine gate_callee (f := 45) rfl ?_); refine goesLA_ (some 32) rfl rfl Tryz.func45 rfl #[.int .i64 (wrap64 (t471 * t467)), .int .i64 65536, .int .i64 (wrap64 (t470 * t468))] rfl ?_; (with_reducible refine (frac_FloorS.calls (wrap64 (t471 * t467)) 65536 (wrap64 (t470 * t468)) t472 t473 _ A9.out).mono ?_); rintro e w15 ⟨rfl, hb⟩; refine ⟨_, rfl, ?_⟩; replace HB := stA hb; clear hb) | ((with_reducible refine gate_callee (f := 24) rfl ?_); refine goesLA_ (some 37) rfl rfl Tryz.func24 rfl #[.int .i64 t469, .int .i64 t472] rfl ?_; (with_reducible refine (safe_Add.calls t469 t472 t474 _ A10.out).mono ?_); rintro e w16 ⟨rfl, hb⟩; refine ⟨_, rfl, ?_⟩; replace HB := stA hb; clear hb) | ((with_reducible refine gate_callee (f := 164) rfl ?_); refine goesLA_ (some 38) rfl rfl Tryz.func164 rfl #[.int .i64 t474, .int .i64 0, .int .i64 68719476736] rfl ?_; (with_reducible refine (reno_between_int.calls t474 0 68719476736 t475 _ A11.out).mono ?_); rintro e w17 ⟨rfl, hb⟩; refine ⟨_, rfl, ?_⟩; replace HB := stA hb; clear hb))
 go_ret
 exact ⟨by first | rfl | (simp [errW_none, errW_some] <;> rfl) | (simp [*, errW_none, errW_some] <;> rfl), by repeat (first | (with_reducible first | exact HB.out | apply below_alloc | apply pw_below_drewN | apply below_drew1) | exact HB.out)⟩

/-! ### reno_StepS: pure, behind function 140 -/
noncomputable def reno_StepS.f (a b c d : Int) : Option Int := Sp.need (Sp.I a ∧ Sp.I b ∧ Sp.I c ∧ Sp.I d) (some (Sp.stepQ a b c d))
theorem reno_StepS.eq {a b c d : Int} (h1 : Sp.I a) (h2 : Sp.I b) (h3 : Sp.I c) (h4 : Sp.I d) : reno_StepS.f a b c d = some (Sp.stepQ a b c d) := Sp.need_pos ⟨h1, h2, h3, h4⟩
section
open Go.Proofs.YtfahbgkoldoflaaGreatDoor.Sp
theorem reno_Step.main {a b c d : Int} (h1 : Sp.I a) (h2 : Sp.I b) (h3 : Sp.I c) (h4 : Sp.I d) : reno_Step.f a b c d = some (Sp.stepQ a b c d) := by
 unfold reno_Step.f reno_Part.f reno_between_int.f stepQ
 have e0 : ∀ x l u : Int, l ≤ u → mn (mx x l) u = clamp x l u := by
  intro x l u h; unfold mn mx clamp; split <;> split <;> (try split) <;> omega
 simp only [Option.bind_some, e0 _ 0 68719476736 (by omega), e0 _ 65536 68719476736 (by omega)]; have b1 := clamp_bd (a := a) (low := 0) (high := 68719476736) (by omega); have b2 := clamp_bd (a := c) (low := 65536) (high := 68719476736) (by omega); have b3 := clamp_bd (a := d) (low := 0) (high := 68719476736) (by omega)
 generalize clamp a 0 68719476736 = x at b1 ⊢
 generalize clamp c 65536 68719476736 = y at b2 ⊢
 generalize clamp d 0 68719476736 = z at b3 ⊢
 have key : ∀ p q : Int, 1 ≤ p → p ≤ 9 → 1 ≤ q → q ≤ 17 → I (z * p) ∧ I (y * q) ∧ 0 < y * q ∧ I (z * p * 65536 / (y * q)) ∧ I (x + z * p * 65536 / (y * q)) := by
  intro p q hp1 hp2 hq1 hq2; have m1 : 0 ≤ z * p := Int.mul_nonneg (by omega) (by omega); have m2 : z * p ≤ 68719476736 * 9 := Int.mul_le_mul (by omega) (by omega) (by omega) (by omega); have m3 : 65536 * 1 ≤ y * q := Int.mul_le_mul (by omega) (by omega) (by omega) (by omega); have m4 : y * q ≤ 68719476736 * 17 := Int.mul_le_mul (by omega) (by omega) (by omega) (by omega)
  generalize z * p = u at *
  generalize y * q = v at *
  have d1 : 0 ≤ u * 65536 / v := Int.ediv_nonneg (by omega) (by omega)
  have d2 : u * 65536 / v ≤ u := by
   apply Int.ediv_le_of_le_mul (by omega)
   exact Int.mul_le_mul_of_nonneg_left (by omega) (by omega)
  omega
 have fin : ∀ p q : Int, I (z * p) ∧ I (y * q) ∧ 0 < y * q ∧ I (z * p * 65536 / (y * q)) ∧ I (x + z * p * 65536 / (y * q)) → ((frac_FloorS.f (wrap64 (z * p)) 65536 (wrap64 (y * q))).bind fun bt => (safe_Add.f x bt.1).bind fun t => some (clamp t 0 68719476736)) = some (clamp (x + z * p * 65536 / (y * q)) 0 68719476736) := by
  intro p q ⟨k1, k2, k3, k4, k5⟩
  rw [w64 k1, w64 k2, frac_FloorS.eq k1 (by omega) k2, floorQ_in k3 k4]
  simp only [Option.bind_some]
  rw [safe_Add.eq (by omega) k4, near_in k5]
  rfl
 by_cases c : a < b
 ·simp only [if_pos c]; exact fin 9 17 (key 9 17 (by omega) (by omega) (by omega) (by omega))
 ·simp only [if_neg c]; exact fin 1 1 (key 1 1 (by omega) (by omega) (by omega) (by omega))
end
theorem reno_StepS.calls (a b c d r : Int) (w : World) (h : reno_StepS.f a b c d = some r) :
  Calls Tryz.prog 140 #[.int .i64 a, .int .i64 b, .int .i64 c, .int .i64 d] w fun e w' => e = .returned (.int .i64 r) ∧ Below w.heap.size w w' := by
 obtain ⟨hc, h⟩ := Sp.need_some h; obtain ⟨h1, h2, h3, h4⟩ := hc; exact reno_Step.calls a b c d r w (by rw [reno_Step.main h1 h2 h3 h4]; exact h)

/-! ### clock_After: function 141 -/
noncomputable def clock_After.j0 : Nat → Int → Int → Bool → Option (Int)
 | 0, _, _, _ => none
 | k + 1, x0, x1, x12 => if x12 = true then (some 1099511627776) else (if x1 < 0 then (if x0 < (wrap64 ((-9223372036854775807) - x1)) then (some 0) else (some (mx (mn (wrap64 (x0 + x1)) 1099511627776) 0))) else (some (mx (mn (wrap64 (x0 + x1)) 1099511627776) 0)))
noncomputable def clock_After.f (k : Nat) (a0 : Int) (a1 : Int) : Option (Int) := if a1 > 0 then (clock_After.j0 k a0 a1 (decide (a0 > (wrap64 (9223372036854775807 - a1))))) else (clock_After.j0 k a0 a1 false)
set_option maxHeartbeats 8000000 in
set_option maxRecDepth 100000 in
theorem clock_After.calls (k : Nat) (a0 : Int) (a1 : Int) (r : Int) (w : World) (h : clock_After.f k a0 a1 = some r) :
  Calls Tryz.prog 141 #[.int .i64 a0, .int .i64 a1] w fun e w' => e = .returned (.int .i64 r) ∧ Below w.heap.size w w' := by
 have HB := Aside0.mk (Below.refl w.heap.size w); have H : (if a1 > 0 then (clock_After.j0 k a0 a1 (decide (a0 > (wrap64 (9223372036854775807 - a1))))) else (clock_After.j0 k a0 a1 false)) = some r := h; clear h; have HC3 := Aside0.mk H; clear H
 go_enter Tryz.func141, Tryz.ntmps141
 go_upto_region 1 with (fail)
 go_cut [12] (fun v12 wc => ∃ (kq : Nat) (x12_2 : Bool), v12 = .bool x12_2 ∧ Aside0 (clock_After.j0 kq a0 a1 x12_2 = some r) ∧ Aside0 (kq ≤ k) ∧ Aside0 (Below w.heap.size w wc))
 case first =>
  have H := HC3.out; clear HC3
  by_cases c4 : a1 > 0
  ·rw [if_pos c4] at H
   have c4b0 : decide (0 < a1) = true := decide_eq_true c4; clear c4
   (first | rw [c4b0] | (simp only [i64_w, i32_w]; rw [c4b0]) | skip)
   have H' := Aside0.mk H; clear H
   go_wp2
   go_meet
   case rel => exact ⟨_, (decide (a0 > (wrap64 (9223372036854775807 - a1)))), (by first | rfl | (simp; done) | (simp [*]; done)), H', ⟨by first | omega | exact Nat.le_refl _⟩, ⟨by repeat (first | (with_reducible first | exact HB.out | apply below_alloc | apply pw_below_drewN | apply below_drew1) | exact HB.out)⟩⟩
  ·rw [if_neg c4] at H
   have c4b0 : decide (0 < a1) = false := decide_eq_false c4; clear c4
   (first | rw [c4b0] | (simp only [i64_w, i32_w]; rw [c4b0]) | skip)
   have H' := Aside0.mk H; clear H
   go_wp2
   go_meet
   case rel => exact ⟨_, (false), (by first | rfl | (simp; done) | (simp [*]; done)), H', ⟨by first | omega | exact Nat.le_refl _⟩, ⟨by repeat (first | (with_reducible first | exact HB.out | apply below_alloc | apply pw_below_drewN | apply below_drew1) | exact HB.out)⟩⟩
 case rest =>
  clear HC3
  try clear c1
  try clear p2
  try clear c4
  try clear c4b0
  obtain ⟨kq, x12_2, rfl, HA, HJ2, HB⟩ := hcut
  cases kq with
  | zero => exact absurd HA.out (by simp [clock_After.j0])
  | succ kj2 =>
   have H := HA.out; clear HA; simp only [clock_After.j0] at H
   by_cases c5 : x12_2 = true
   ·subst c5
    have H1 : (some 1099511627776) = some r := by rw [if_pos rfl] at H; exact H
    clear H; have H := H1; clear H1; obtain rfl := Option.some.inj H
    go_wp2
    go_ret
    exact ⟨by first | rfl | (simp [errW_none, errW_some] <;> rfl) | (simp [*, errW_none, errW_some] <;> rfl), by repeat (first | (with_reducible first | exact HB.out | apply below_alloc | apply pw_below_drewN | apply below_drew1) | exact HB.out)⟩
   ·replace c5 := Bool.eq_false_iff.mpr c5
    subst c5
    have H1 : (if a1 < 0 then (if a0 < (wrap64 ((-9223372036854775807) - a1)) then (some 0) else (some (mx (mn (wrap64 (a0 + a1)) 1099511627776) 0))) else (some (mx (mn (wrap64 (a0 + a1)) 1099511627776) 0))) = some r := by rw [if_neg (show ¬ (false = true) by decide)] at H; exact H
    clear H; have H := H1; clear H1
    by_cases c6 : a1 < 0
    ·rw [if_pos c6] at H
     have c6b0 : decide (a1 < 0) = true := decide_eq_true c6; clear c6
     by_cases c7 : a0 < (wrap64 ((-9223372036854775807) - a1))
     ·rw [if_pos c7] at H
      have c7b0 : decide (a0 < (wrap64 ((-9223372036854775807) - a1))) = true := decide_eq_true c7; clear c7; obtain rfl := Option.some.inj H
      go_wp2
      go_ret
      exact ⟨by first | rfl | (simp [errW_none, errW_some] <;> rfl) | (simp [*, errW_none, errW_some] <;> rfl), by repeat (first | (with_reducible first | exact HB.out | apply below_alloc | apply pw_below_drewN | apply below_drew1) | exact HB.out)⟩
     ·rw [if_neg c7] at H
      have c7b0 : decide (a0 < (wrap64 ((-9223372036854775807) - a1))) = false := decide_eq_false c7; clear c7
      obtain ⟨ji8, hji8⟩ : ∃ j_ : Int, (mn (wrap64 (a0 + a1)) 1099511627776) = j_ := ⟨_, rfl⟩
      replace H : (some (mx (ji8) 0)) = some r := by first | (rw [hji8] at H; exact H) | (simp only [hji8] at H ⊢; exact H)
      have hji8_ : (if 1099511627776 < (wrap64 (a0 + a1)) then 1099511627776 else (wrap64 (a0 + a1))) = ji8 := hji8
      obtain ⟨ji9, hji9⟩ : ∃ j_ : Int, (mx (ji8) 0) = j_ := ⟨_, rfl⟩
      replace H : (some ji9) = some r := by first | (rw [hji9] at H; exact H) | (simp only [hji9] at H ⊢; exact H)
      have hji9_ : (if (ji8) < 0 then 0 else (ji8)) = ji9 := hji9; obtain rfl := Option.some.inj H
      go_wp2
      go_ret
      exact ⟨by first | rfl | (simp [errW_none, errW_some] <;> rfl) | (simp only [← hji8, ← hji9]; first | rfl | (simp [errW_none, errW_some] <;> rfl)) | (simp [*, errW_none, errW_some] <;> rfl), by repeat (first | (with_reducible first | exact HB.out | apply below_alloc | apply pw_below_drewN | apply below_drew1) | exact HB.out)⟩
    ·rw [if_neg c6] at H
     have c6b0 : decide (a1 < 0) = false := decide_eq_false c6; clear c6
     obtain ⟨ji10, hji10⟩ : ∃ j_ : Int, (mn (wrap64 (a0 + a1)) 1099511627776) = j_ := ⟨_, rfl⟩
     replace H : (some (mx (ji10) 0)) = some r := by first | (rw [hji10] at H; exact H) | (simp only [hji10] at H ⊢; exact H)
     have hji10_ : (if 1099511627776 < (wrap64 (a0 + a1)) then 1099511627776 else (wrap64 (a0 + a1))) = ji10 := hji10
     obtain ⟨ji11, hji11⟩ : ∃ j_ : Int, (mx (ji10) 0) = j_ := ⟨_, rfl⟩
     replace H : (some ji11) = some r := by first | (rw [hji11] at H; exact H) | (simp only [hji11] at H ⊢; exact H)
     have hji11_ : (if (ji10) < 0 then 0 else (ji10)) = ji11 := hji11; obtain rfl := Option.some.inj H
     go_wp2
     go_ret
     exact ⟨by first | rfl | (simp [errW_none, errW_some] <;> rfl) | (simp only [← hji10, ← hji11]; first | rfl | (simp [errW_none, errW_some] <;> rfl)) | (simp [*, errW_none, errW_some] <;> rfl), by repeat (first | (with_reducible first | exact HB.out | apply below_alloc | apply pw_below_drewN | apply below_drew1) | exact HB.out)⟩

-- NOT PRINTED: function 4 (sawtoothtop_TopWindow)

end Go.Proofs.YtfahbgkoldoflaaGreatDoor.Px
