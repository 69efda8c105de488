/- The engine, by hand: part D. Conditions: none beside the theorems' own. -/
import Derived.Test.YtfahbgkoldoflaaGreatDoorEngA
namespace Go.Proofs.YtfahbgkoldoflaaGreatDoor.Px
open Go.RowKit Go.Proofs.YtfahbgkoldoflaaGreatDoorW.PrintWords Go.Proofs.YtfahbgkoldoflaaGreatDoorW.PrintLast Go.Proofs.YtfahbgkoldoflaaGreatDoorW.PrintMore
attribute [local go_sem] max2_int min2_int max_two min_two max_three min_three max_four min_four
set_option linter.unusedVariables false
set_option linter.unusedSimpArgs false
def hyThresh (x : Int) : Int := if 16000 < (if wrap64 (x.tdiv 8) < 4000 then 4000 else wrap64 (x.tdiv 8)) then 16000 else (if wrap64 (x.tdiv 8) < 4000 then 4000 else wrap64 (x.tdiv 8))
theorem hyThresh_n (x : Int) (w : World) : Calls Tryz.prog 172 #[.int .i64 x] w fun e w' => e = .returned (.int .i64 (hyThresh x)) ∧ ∃ n, w' = w.drewN n := by
  go_enter Tryz.func172, Tryz.ntmps172
  go_wp2
  all_goals (go_ret; refine ⟨congrArg (fun n => Ending.returned (Value.int .i64 n)) ?_, 0, rfl⟩; unfold hyThresh; (repeat' split) <;> first | rfl | omega)
/-- Whether it grows too slowly. -/
def hyLate (a0 a1 : Int) : Bool := decide (a0 > 0) && decide (wrap64 (a0 + hyThresh a0) ≤ a1)
set_option maxRecDepth 100000 in
set_option maxHeartbeats 4000000 in
theorem hySwift_w (a0 a1 a2 : Int) (a3 a4 : Bool) (a5 a6 : Int) (w : World) : Calls Tryz.prog 160 #[.agg #[.int .i64 a0, .int .i64 a1, .int .i64 a2, .bool a3, .bool a4, .int .i64 a5, .int .i64 a6]] w fun e w' => e = .returned (.agg #[.int .i64 a0, .int .i64 a1, .int .i64 a2, .bool (cond (hyLate a0 a1) true a3), .bool a4, .int .i64 (cond (hyLate a0 a1) a1 a5), .int .i64 a6]) ∧ Below w.heap.size w w' := by
  have H := Aside0.mk (Bx.start w)
  obtain ⟨l, hl⟩ : ∃ l, hyLate a0 a1 = l := ⟨_, rfl⟩
  rw [hl]
  by_cases c0 : a0 > 0
  · have c1 := decide_eq_true c0
    simp only [hyLate, c1, Bool.true_and] at hl
    go_enter Tryz.func160, Tryz.ntmps160
    go_upto_region 1 with (first
    | ((with_reducible refine gate_dst (N := 1) rfl ?_); refine bxB 1 169 (.tmp 0) H ?_; clear H; intro b1 _ H)
    | ((with_reducible refine gate_dst (N := 2) rfl ?_); refine bxV 2 169 #[.int .i64 0, .int .i64 0, .int .i64 0, .bool false, .bool false, .int .i64 0, .int .i64 0] H (fun _ => by kernel_rfl) ?_; clear H; intro b2 _ H)
    | fail)
    have z0 := (blk_cell (H.out.get 0 rfl) 0).trans (show _ = some (.int .i64 a0) from rfl)
    have z1 := (blk_cell (H.out.get 0 rfl) 1).trans (show _ = some (.int .i64 a1) from rfl)
    go_quiet (first | (go_at_call 172; exact Calls.quiet_of (hyThresh_n _ _)) | fail)
    replace H := Aside0.mk (H.out.drewN nq)
    clear z0 z1
    rw [i64_w, hl]
    clear hl c1
    obtain rfl | rfl := Bool.eq_false_or_eq_true l <;> go_wp2_with (first
    | (refine bxL 17 18 0 1 l3 H ?_)
    | (refine bxS 19 (.const (.bool true)) 0 3 s4 H ?_; clear H; intro _ H)
    | (refine bxS 20 (.tmp 18) 0 5 s3 H ?_; clear H; intro _ H)
    | (refine bxR 169 1 21 0 Tryz.underlying169 H ?_)
    | (refine bxP 169 2 21 1 H ?_; clear H; intro _ H)
    | fail)
    all_goals (refine bodyPost_ret (results_cell_row (fn := Tryz.f160) (p := 2) (ty := 169) rfl _ _ b2 169 _ (0, 0) _ rfl (H.out.get 1 rfl) Tryz.underlying169 rfl (by kernel_rfl)) rfl ⟨rfl, H.out.lo⟩)
  · have c1 := decide_eq_false c0
    obtain rfl : false = l := by simpa only [hyLate, c1, Bool.false_and] using hl
    go_enter Tryz.func160, Tryz.ntmps160
    go_upto_region 1 with (first
    | ((with_reducible refine gate_dst (N := 1) rfl ?_); refine bxB 1 169 (.tmp 0) H ?_; clear H; intro b1 _ H)
    | ((with_reducible refine gate_dst (N := 2) rfl ?_); refine bxV 2 169 #[.int .i64 0, .int .i64 0, .int .i64 0, .bool false, .bool false, .int .i64 0, .int .i64 0] H (fun _ => by kernel_rfl) ?_; clear H; intro b2 _ H)
    | fail)
    refine rgB #[N,N,N,N,N,N,N,N,N,N,N,N,N,N] [] H ?_; clear H; intro _ H
    refine pG 0 (some 3) #[Y,N,N,N,N,N,N,N,N,N,N,N,N,N] ?_
    refine lB 1 (some 4) #[Y,Y,N,N,N,N,N,N,N,N,N,N,N,N] 0 0 l3 H ?_
    refine pG (v := .bool false) 2 (some 5) #[Y,Y,Y,N,N,N,N,N,N,N,N,N,N,N] ?_ rfl rfl (by kernel_rfl) (.inl ⟨by rfl, fun w => by first | (go_simp; done) | (go_simp; rw [c1]; done) | (go_simp; simp [c0]; done) | (go_simp; omega) | (go_simp; trace_state; fail)⟩)
    refine pG 3 (some 6) #[Y,Y,Y,Y,N,N,N,N,N,N,N,N,N,N] ?_
    refine uG 4 (some 7) #[Y,Y,Y,Y,Y,N,N,N,N,N,N,N,N,N] ?_
    refine uG 5 (some 8) #[Y,Y,Y,Y,Y,Y,N,N,N,N,N,N,N,N] ?_
    refine uG 6 (some 9) #[Y,Y,Y,Y,Y,Y,Y,N,N,N,N,N,N,N] ?_
    refine uG 7 (some 10) #[Y,Y,Y,Y,Y,Y,Y,Y,N,N,N,N,N,N] ?_
    refine uG 8 (some 11) #[Y,Y,Y,Y,Y,Y,Y,Y,Y,N,N,N,N,N] ?_
    refine uG 9 (some 12) #[Y,Y,Y,Y,Y,Y,Y,Y,Y,Y,N,N,N,N] ?_
    refine uG 10 (some 13) #[Y,Y,Y,Y,Y,Y,Y,Y,Y,Y,Y,N,N,N] ?_
    refine uG 11 (some 14) #[Y,Y,Y,Y,Y,Y,Y,Y,Y,Y,Y,Y,N,N] ?_
    refine uG 12 (some 15) #[Y,Y,Y,Y,Y,Y,Y,Y,Y,Y,Y,Y,Y,N] ?_
    refine pG 13 (some 16) #[Y,Y,Y,Y,Y,Y,Y,Y,Y,Y,Y,Y,Y,Y] ?_
    refine done_ (by kernel_rfl) ?_
    clear hl c1
    go_wp2_with (first
    | (refine bxR 169 1 21 0 Tryz.underlying169 H ?_)
    | (refine bxP 169 2 21 1 H ?_; clear H; intro _ H)
    | fail)
    refine bodyPost_ret (results_cell_row (fn := Tryz.f160) (p := 2) (ty := 169) rfl _ _ b2 169 _ (0, 0) _ rfl (H.out.get 1 rfl) Tryz.underlying169 rfl (by kernel_rfl)) rfl ⟨rfl, H.out.lo⟩
set_option maxRecDepth 100000 in
set_option maxHeartbeats 4000000 in
theorem hyMild_w (a0 a1 a2 : Int) (a3 a4 : Bool) (a5 a6 : Int) (w : World) : Calls Tryz.prog 161 #[.agg #[.int .i64 a0, .int .i64 a1, .int .i64 a2, .bool a3, .bool a4, .int .i64 a5, .int .i64 a6]] w fun e w' => e = .returned (.agg #[.int .i64 a0, .int .i64 a1, .int .i64 a2, .bool (cond (decide (a1 < a5)) false a3), .bool a4, .int .i64 (cond (decide (a1 < a5)) 0 a5), .int .i64 (cond (decide (a1 < a5)) 0 a6)]) ∧ Below w.heap.size w w' := by
  have H := Aside0.mk (Bx.start w)
  rcases c : decide (a1 < a5) with _ | _ <;> go_enter Tryz.func161, Tryz.ntmps161 <;> go_wp2_with (first
    | ((with_reducible refine gate_dst (N := 1) rfl ?_); refine bxB 1 169 (.tmp 0) H ?_; clear H; intro b1 _ H)
    | ((with_reducible refine gate_dst (N := 2) rfl ?_); refine bxV 2 169 #[.int .i64 0, .int .i64 0, .int .i64 0, .bool false, .bool false, .int .i64 0, .int .i64 0] H (fun _ => by kernel_rfl) ?_; clear H; intro b2 _ H)
    | (refine bxL 3 4 0 1 l3 H ?_)
    | (refine bxL 5 6 0 5 l3 H ?_)
    | (refine bxS 8 (.const (.bool false)) 0 3 s4 H ?_; clear H; intro _ H)
    | (refine bxS 9 (.const (.int .i64 0)) 0 5 s3 H ?_; clear H; intro _ H)
    | (refine bxS 10 (.const (.int .i64 0)) 0 6 s3 H ?_; clear H; intro _ H)
    | (refine bxR 169 1 11 0 Tryz.underlying169 H ?_)
    | (refine bxP 169 2 11 1 H ?_; clear H; intro _ H)
    | fail)
  all_goals (refine bodyPost_ret (results_cell_row (fn := Tryz.f161) (p := 2) (ty := 169) rfl _ _ b2 169 _ (0, 0) _ rfl (H.out.get 1 rfl) Tryz.underlying169 rfl (by kernel_rfl)) rfl ⟨rfl, H.out.lo⟩)
set_option maxRecDepth 100000 in
theorem hyOver_w (a0 a1 a2 : Int) (a3 a4 : Bool) (a5 a6 : Int) (w : World) : Calls Tryz.prog 162 #[.agg #[.int .i64 a0, .int .i64 a1, .int .i64 a2, .bool a3, .bool a4, .int .i64 a5, .int .i64 a6]] w fun e w' => e = .returned (.agg #[.int .i64 a0, .int .i64 a1, .int .i64 a2, .bool a3, .bool a4, .int .i64 a5, .int .i64 a6]) ∧ Below w.heap.size w w' := by
  have H := Aside0.mk (Bx.start w)
  go_enter Tryz.func162, Tryz.ntmps162
  go_wp2_with (first
    | ((with_reducible refine gate_dst (N := 1) rfl ?_); refine bxB 1 169 (.tmp 0) H ?_; clear H; intro b1 _ H)
    | ((with_reducible refine gate_dst (N := 2) rfl ?_); refine bxV 2 169 #[.int .i64 0, .int .i64 0, .int .i64 0, .bool false, .bool false, .int .i64 0, .int .i64 0] H (fun _ => by kernel_rfl) ?_; clear H; intro b2 _ H)
    | (refine bxR 169 1 3 0 Tryz.underlying169 H ?_)
    | (refine bxP 169 2 3 1 H ?_; clear H; intro _ H)
    | fail)
  refine bodyPost_ret (results_cell_row (fn := Tryz.f162) (p := 2) (ty := 169) rfl _ _ b2 169 _ (0, 0) _ rfl (H.out.get 1 rfl) Tryz.underlying169 rfl (by kernel_rfl)) rfl ⟨rfl, H.out.lo⟩
def hyMin8 (x : Int) : Int := if 8 < x then 8 else x
/-- What a time makes of slow start, the least one being l, and the m-th. -/
def hyTime (a0 l m : Int) (a3 a4 : Bool) (a5 a6 : Int) : Value :=
  cond (m == 8) (cond a4 (.agg #[.int .i64 a0, .int .i64 l, .int .i64 m, .bool a3, .bool a4, .int .i64 a5, .int .i64 a6]) (cond a3 (.agg #[.int .i64 a0, .int .i64 l, .int .i64 m, .bool (cond (decide (l < a5)) false a3), .bool a4, .int .i64 (cond (decide (l < a5)) 0 a5), .int .i64 (cond (decide (l < a5)) 0 a6)]) (.agg #[.int .i64 a0, .int .i64 l, .int .i64 m, .bool (cond (hyLate a0 l) true a3), .bool a4, .int .i64 (cond (hyLate a0 l) l a5), .int .i64 a6]))) (.agg #[.int .i64 a0, .int .i64 l, .int .i64 m, .bool a3, .bool a4, .int .i64 a5, .int .i64 a6])
def hySample (a0 a1 a2 : Int) (a3 a4 : Bool) (a5 a6 : Int) (t : Int) : Value :=
  cond (hyCheck a0 a1 a2 a3 a4 a5 a6 && !(decide (t < 1)) && hyMay t) (.tuple #[hyTime a0 (cond (a1 == 0 || decide (t < a1)) t a1) (hyMin8 (wrap64 (a2 + 1))) a3 a4 a5 a6, .int .i64 0]) (.tuple #[.agg #[.int .i64 a0, .int .i64 a1, .int .i64 a2, .bool a3, .bool a4, .int .i64 a5, .int .i64 a6], .int .i64 201])
set_option maxRecDepth 100000 in
set_option maxHeartbeats 8000000 in
theorem hsample_w (a0 a1 a2 : Int) (a3 a4 : Bool) (a5 a6 : Int) (t : Int) (w : World) : Calls Tryz.prog 137 #[.agg #[.int .i64 a0, .int .i64 a1, .int .i64 a2, .bool a3, .bool a4, .int .i64 a5, .int .i64 a6], .int .i64 t] w fun e w' => e = .returned (hySample a0 a1 a2 a3 a4 a5 a6 t) ∧ Below w.heap.size w w' := by
  have H := Aside0.mk (Bx.start w)
  rcases k : hyCheck a0 a1 a2 a3 a4 a5 a6 with _ | _
  · rw [show hySample a0 a1 a2 a3 a4 a5 a6 t = .tuple #[.agg #[.int .i64 a0, .int .i64 a1, .int .i64 a2, .bool a3, .bool a4, .int .i64 a5, .int .i64 a6], .int .i64 201] by simp [hySample, k]]
    go_enter Tryz.func137, Tryz.ntmps137
    go_wp2_with (first
    | (go_at_call 70; (with_reducible refine (hcheck_w _ _ _ _ _ _ _ _).mono ?_); rintro e w9 ⟨rfl, hb⟩; rw [k]; replace H := Aside0.mk (H.out.below hb); clear hb)
    | (go_at_call 122; (with_reducible refine (hyMay_w _ _).mono ?_); rintro e w9 ⟨rfl, hb⟩; rw [q]; replace H := Aside0.mk (H.out.below hb); clear hb)
    | ((with_reducible refine gate_dst (N := 2) rfl ?_); refine bxB 2 44 (.tmp 0) H ?_; clear H; intro b2 _ H)
    | ((with_reducible refine gate_dst (N := 4) rfl ?_); refine bxV 4 44 #[.int .i64 0, .int .i64 0, .int .i64 0, .bool false, .bool false, .int .i64 0, .int .i64 0] H (fun _ => by kernel_rfl) ?_; clear H; intro b4 _ H)
    | (refine bxR 44 2 8 0 Tryz.underlying44 H ?_)
    | (refine bxR 44 2 20 0 Tryz.underlying44 H ?_)
    | (refine bxP 44 4 20 1 H ?_; clear H; intro _ H)
    | (refine bxR 44 2 21 0 Tryz.underlying44 H ?_)
    | ((with_reducible refine gate_dst (N := 6) rfl ?_); refine bxV 6 169 #[.int .i64 0, .int .i64 0, .int .i64 0, .bool false, .bool false, .int .i64 0, .int .i64 0] H (fun _ => by kernel_rfl) ?_; clear H; intro b6 _ H)
    | (refine bxP 169 6 21 2 H ?_; clear H; intro _ H)
    | fail)
    refine bodyPost_ret (results_row_tmp rfl b4 44 _ _ rfl rfl (H.out.get 1 rfl) Tryz.underlying44 (by kernel_rfl)) rfl ⟨rfl, H.out.lo⟩
  rcases c1 : decide (t < 1) with _ | _
  rotate_left
  · rw [show hySample a0 a1 a2 a3 a4 a5 a6 t = .tuple #[.agg #[.int .i64 a0, .int .i64 a1, .int .i64 a2, .bool a3, .bool a4, .int .i64 a5, .int .i64 a6], .int .i64 201] by simp [hySample, k, c1]]
    go_enter Tryz.func137, Tryz.ntmps137
    go_wp2_with (first
    | (go_at_call 70; (with_reducible refine (hcheck_w _ _ _ _ _ _ _ _).mono ?_); rintro e w9 ⟨rfl, hb⟩; rw [k]; replace H := Aside0.mk (H.out.below hb); clear hb)
    | (go_at_call 122; (with_reducible refine (hyMay_w _ _).mono ?_); rintro e w9 ⟨rfl, hb⟩; rw [q]; replace H := Aside0.mk (H.out.below hb); clear hb)
    | ((with_reducible refine gate_dst (N := 2) rfl ?_); refine bxB 2 44 (.tmp 0) H ?_; clear H; intro b2 _ H)
    | ((with_reducible refine gate_dst (N := 4) rfl ?_); refine bxV 4 44 #[.int .i64 0, .int .i64 0, .int .i64 0, .bool false, .bool false, .int .i64 0, .int .i64 0] H (fun _ => by kernel_rfl) ?_; clear H; intro b4 _ H)
    | (refine bxR 44 2 8 0 Tryz.underlying44 H ?_)
    | (refine bxR 44 2 20 0 Tryz.underlying44 H ?_)
    | (refine bxP 44 4 20 1 H ?_; clear H; intro _ H)
    | (refine bxR 44 2 21 0 Tryz.underlying44 H ?_)
    | ((with_reducible refine gate_dst (N := 6) rfl ?_); refine bxV 6 169 #[.int .i64 0, .int .i64 0, .int .i64 0, .bool false, .bool false, .int .i64 0, .int .i64 0] H (fun _ => by kernel_rfl) ?_; clear H; intro b6 _ H)
    | (refine bxP 169 6 21 2 H ?_; clear H; intro _ H)
    | fail)
    refine bodyPost_ret (results_row_tmp rfl b4 44 _ _ rfl rfl (H.out.get 1 rfl) Tryz.underlying44 (by kernel_rfl)) rfl ⟨rfl, H.out.lo⟩
  rcases q : hyMay t with _ | _
  · rw [show hySample a0 a1 a2 a3 a4 a5 a6 t = .tuple #[.agg #[.int .i64 a0, .int .i64 a1, .int .i64 a2, .bool a3, .bool a4, .int .i64 a5, .int .i64 a6], .int .i64 201] by simp [hySample, k, c1, q]]
    go_enter Tryz.func137, Tryz.ntmps137
    go_wp2_with (first
    | (go_at_call 70; (with_reducible refine (hcheck_w _ _ _ _ _ _ _ _).mono ?_); rintro e w9 ⟨rfl, hb⟩; rw [k]; replace H := Aside0.mk (H.out.below hb); clear hb)
    | (go_at_call 122; (with_reducible refine (hyMay_w _ _).mono ?_); rintro e w9 ⟨rfl, hb⟩; rw [q]; replace H := Aside0.mk (H.out.below hb); clear hb)
    | ((with_reducible refine gate_dst (N := 2) rfl ?_); refine bxB 2 44 (.tmp 0) H ?_; clear H; intro b2 _ H)
    | ((with_reducible refine gate_dst (N := 4) rfl ?_); refine bxV 4 44 #[.int .i64 0, .int .i64 0, .int .i64 0, .bool false, .bool false, .int .i64 0, .int .i64 0] H (fun _ => by kernel_rfl) ?_; clear H; intro b4 _ H)
    | (refine bxR 44 2 8 0 Tryz.underlying44 H ?_)
    | (refine bxR 44 2 20 0 Tryz.underlying44 H ?_)
    | (refine bxP 44 4 20 1 H ?_; clear H; intro _ H)
    | (refine bxR 44 2 21 0 Tryz.underlying44 H ?_)
    | ((with_reducible refine gate_dst (N := 6) rfl ?_); refine bxV 6 169 #[.int .i64 0, .int .i64 0, .int .i64 0, .bool false, .bool false, .int .i64 0, .int .i64 0] H (fun _ => by kernel_rfl) ?_; clear H; intro b6 _ H)
    | (refine bxP 169 6 21 2 H ?_; clear H; intro _ H)
    | fail)
    refine bodyPost_ret (results_row_tmp rfl b4 44 _ _ rfl rfl (H.out.get 1 rfl) Tryz.underlying44 (by kernel_rfl)) rfl ⟨rfl, H.out.lo⟩
  rw [show hySample a0 a1 a2 a3 a4 a5 a6 t = .tuple #[hyTime a0 (cond (a1 == 0 || decide (t < a1)) t a1) (hyMin8 (wrap64 (a2 + 1))) a3 a4 a5 a6, .int .i64 0] by simp [hySample, k, c1, q]]
  obtain ⟨b, hb⟩ : ∃ b, (a1 == 0 || decide (t < a1)) = b := ⟨_, rfl⟩
  obtain ⟨m, hm⟩ : ∃ m, (hyMin8 (wrap64 (a2 + 1))) = m := ⟨_, rfl⟩
  rw [hb, hm]
  obtain ⟨l, hl⟩ : ∃ l, cond b t a1 = l := ⟨_, rfl⟩
  rw [hl]
  go_enter Tryz.func137, Tryz.ntmps137
  go_upto_region 4 with (first
    | (go_at_call 70; (with_reducible refine (hcheck_w _ _ _ _ _ _ _ _).mono ?_); rintro e w9 ⟨rfl, hb⟩; rw [k]; replace H := Aside0.mk (H.out.below hb); clear hb)
    | (go_at_call 122; (with_reducible refine (hyMay_w _ _).mono ?_); rintro e w9 ⟨rfl, hb⟩; rw [q]; replace H := Aside0.mk (H.out.below hb); clear hb)
    | ((with_reducible refine gate_dst (N := 2) rfl ?_); refine bxB 2 44 (.tmp 0) H ?_; clear H; intro b2 _ H)
    | ((with_reducible refine gate_dst (N := 4) rfl ?_); refine bxV 4 44 #[.int .i64 0, .int .i64 0, .int .i64 0, .bool false, .bool false, .int .i64 0, .int .i64 0] H (fun _ => by kernel_rfl) ?_; clear H; intro b4 _ H)
    | (refine bxR 44 2 8 0 Tryz.underlying44 H ?_)
    | (refine bxR 44 2 20 0 Tryz.underlying44 H ?_)
    | (refine bxP 44 4 20 1 H ?_; clear H; intro _ H)
    | (refine bxR 44 2 21 0 Tryz.underlying44 H ?_)
    | ((with_reducible refine gate_dst (N := 6) rfl ?_); refine bxV 6 169 #[.int .i64 0, .int .i64 0, .int .i64 0, .bool false, .bool false, .int .i64 0, .int .i64 0] H (fun _ => by kernel_rfl) ?_; clear H; intro b6 _ H)
    | (refine bxP 169 6 21 2 H ?_; clear H; intro _ H)
    | fail)
  clear k c1 q
  simp only [Act.put, sA, sB, sC]
  go_cut [30] (fun v30 wc => v30 = .bool b ∧ Aside0 (Bx w [(b2, .cells #[.int .i64 a0, .int .i64 a1, .int .i64 a2, .bool a3, .bool a4, .int .i64 a5, .int .i64 a6] 44 (0, 0)), (b4, .cells #[.int .i64 0, .int .i64 0, .int .i64 0, .bool false, .bool false, .int .i64 0, .int .i64 0] 44 (0, 0)), (b6, .cells #[.int .i64 a0, .int .i64 a1, .int .i64 a2, .bool a3, .bool a4, .int .i64 a5, .int .i64 a6] 169 (0, 0))] wc))
  case first =>
    rcases e0 : (a1 == 0) with _ | _
    · rw [e0, Bool.false_or] at hb
      rcases e1 : decide (t < a1) with _ | _ <;> (rw [e1] at hb; subst hb)
      all_goals (go_wp2_with (first
        | (refine bxL 22 23 2 1 l3 H ?_)
        | (refine bxL 27 28 2 1 l3 H ?_)
        | fail))
      all_goals (go_meet; exact ⟨rfl, H⟩)
    · obtain rfl : true = b := by simpa [e0] using hb
      go_wp2_with (first
        | (refine bxL 22 23 2 1 l3 H ?_)
        | (refine bxL 27 28 2 1 l3 H ?_)
        | fail)
      go_meet
      exact ⟨rfl, H⟩
  case rest =>
    obtain ⟨rfl, H⟩ := hcut
    clear hb
    go_upto_if 30 with fail
    go_cut [1] (fun v1 wc => v1 = .int .i64 t ∧ Aside0 (Bx w [(b2, .cells #[.int .i64 a0, .int .i64 a1, .int .i64 a2, .bool a3, .bool a4, .int .i64 a5, .int .i64 a6] 44 (0, 0)), (b4, .cells #[.int .i64 0, .int .i64 0, .int .i64 0, .bool false, .bool false, .int .i64 0, .int .i64 0] 44 (0, 0)), (b6, .cells #[.int .i64 a0, .int .i64 l, .int .i64 a2, .bool a3, .bool a4, .int .i64 a5, .int .i64 a6] 169 (0, 0))] wc))
    case first =>
      obtain rfl | rfl := Bool.eq_false_or_eq_true b
      · obtain rfl : t = l := hl
        go_wp2_with (first
          | (refine bxS 32 (.tmp 31) 2 1 s3 H ?_; clear H; intro _ H)
          | fail)
        go_meet
        exact ⟨rfl, H⟩
      · obtain rfl : a1 = l := hl
        go_wp2
        go_meet
        exact ⟨rfl, H⟩
    case rest =>
      obtain ⟨rfl, H⟩ := hcut
      clear hl
      go_upto_region 6 with fail
      go_cut [1] (fun v1 wc => v1 = .int .i64 t ∧ Aside0 (Bx w [(b2, .cells #[.int .i64 a0, .int .i64 a1, .int .i64 a2, .bool a3, .bool a4, .int .i64 a5, .int .i64 a6] 44 (0, 0)), (b4, .cells #[.int .i64 0, .int .i64 0, .int .i64 0, .bool false, .bool false, .int .i64 0, .int .i64 0] 44 (0, 0)), (b6, .cells #[.int .i64 a0, .int .i64 l, .int .i64 m, .bool a3, .bool a4, .int .i64 a5, .int .i64 a6] 169 (0, 0))] wc))
      case first =>
        by_cases c8 : 8 < wrap64 (a2 + 1)
        · obtain rfl : 8 = m := by rw [← hm, hyMin8, if_pos c8]
          go_wp2_with (first
            | (refine bxL 33 34 2 2 l3 H ?_)
            | (refine bxS 37 (.tmp 36) 2 2 s3 H ?_; clear H; intro _ H)
            | fail)
          go_meet
          exact ⟨rfl, H⟩
        · obtain rfl : wrap64 (a2 + 1) = m := by rw [← hm, hyMin8, if_neg c8]
          go_wp2_with (first
            | (refine bxL 33 34 2 2 l3 H ?_)
            | (refine bxS 37 (.tmp 36) 2 2 s3 H ?_; clear H; intro _ H)
            | fail)
          go_meet
          exact ⟨rfl, H⟩
      case rest =>
        obtain ⟨rfl, H⟩ := hcut
        clear hm
        rcases e8 : (m == 8) with _ | _
        · have hv : hyTime a0 l m a3 a4 a5 a6 = .agg #[.int .i64 a0, .int .i64 l, .int .i64 m, .bool a3, .bool a4, .int .i64 a5, .int .i64 a6] := by simp [hyTime, e8]
          go_wp2_with (first
            | (refine bxL 38 39 2 2 l3 H ?_)
            | (refine bxR 169 6 49 2 Tryz.underlying169 H ?_)
            | (refine bxP 44 4 49 1 H ?_; clear H; intro _ H)
            | fail)
          refine bodyPost_ret (results_row_tmp rfl b4 44 _ _ rfl rfl (H.out.get 1 rfl) Tryz.underlying44 (by kernel_rfl)) rfl ⟨by rw [hv]; rfl, H.out.lo⟩
        rcases Bool.eq_false_or_eq_true a4 with rfl | rfl
        · have hv : hyTime a0 l m a3 true a5 a6 = .agg #[.int .i64 a0, .int .i64 l, .int .i64 m, .bool a3, .bool true, .int .i64 a5, .int .i64 a6] := by simp [hyTime, e8]
          go_upto_region 9 with (first
            | ((with_reducible refine gate_dst (N := 41) rfl ?_); refine bxM 41 207 H ?_; clear H; intro r _ H)
            | (refine bxI 207 170 205 41 (.const (.int .i64 1)) (.func 160) 3 1 Tryz.underlying207 Tryz.underlying170 H ?_; clear H; intro _ H)
            | (refine bxI 207 170 205 41 (.const (.int .i64 2)) (.func 161) 3 2 Tryz.underlying207 Tryz.underlying170 H ?_; clear H; intro _ H)
            | (refine bxI 207 170 205 41 (.const (.int .i64 3)) (.func 162) 3 3 Tryz.underlying207 Tryz.underlying170 H ?_; clear H; intro _ H)
            | (refine bxL 38 39 2 2 l3 H ?_)
            | fail)
          refine rgB #[N,N,N,N,N,N,N] [6] H ?_; clear H; intro _ H
          refine pG 0 (some 43) #[Y,N,N,N,N,N,N] ?_
          refine rB 1 (some 44) #[Y,Y,N,N,N,N,N] 2 Tryz.underlying169 H ?_
          refine rB 4 (some 47) #[Y,Y,N,N,Y,N,N] 2 Tryz.underlying169 H ?_
          refine cB (v := .int .i64 3) 2 (some 45) #[Y,Y,Y,N,Y,N,N] Tryz.func121 H (hyPhase_w a0 l m a3 true a5 a6 _) ?_; clear H; intro _ H
          refine kB 3 (some 46) #[Y,Y,Y,Y,Y,N,N] 3 Tryz.underlying207 Tryz.underlying170 H ?_
          refine fB 5 (some 48) #[Y,Y,Y,Y,Y,Y,N] Tryz.func162 H (hyOver_w a0 l m a3 true a5 a6 _) ?_; clear H; intro _ H
          refine sB' 6 #[Y,Y,Y,Y,Y,Y,Y] 2 H ?_; clear H; intro _ H
          refine done_ (by kernel_rfl) ?_
          go_wp2_with (first
            | (refine bxR 169 6 49 2 Tryz.underlying169 H ?_)
            | (refine bxP 44 4 49 1 H ?_; clear H; intro _ H)
            | fail)
          refine bodyPost_ret (results_row_tmp rfl b4 44 _ _ rfl rfl (H.out.get 1 rfl) Tryz.underlying44 (by kernel_rfl)) rfl ⟨by rw [hv]; rfl, H.out.lo⟩
        rcases Bool.eq_false_or_eq_true a3 with rfl | rfl
        · have hv : hyTime a0 l m true false a5 a6 = .agg #[.int .i64 a0, .int .i64 l, .int .i64 m, .bool (cond (decide (l < a5)) false true), .bool false, .int .i64 (cond (decide (l < a5)) 0 a5), .int .i64 (cond (decide (l < a5)) 0 a6)] := by simp [hyTime, e8]
          go_upto_region 9 with (first
            | ((with_reducible refine gate_dst (N := 41) rfl ?_); refine bxM 41 207 H ?_; clear H; intro r _ H)
            | (refine bxI 207 170 205 41 (.const (.int .i64 1)) (.func 160) 3 1 Tryz.underlying207 Tryz.underlying170 H ?_; clear H; intro _ H)
            | (refine bxI 207 170 205 41 (.const (.int .i64 2)) (.func 161) 3 2 Tryz.underlying207 Tryz.underlying170 H ?_; clear H; intro _ H)
            | (refine bxI 207 170 205 41 (.const (.int .i64 3)) (.func 162) 3 3 Tryz.underlying207 Tryz.underlying170 H ?_; clear H; intro _ H)
            | (refine bxL 38 39 2 2 l3 H ?_)
            | fail)
          refine rgB #[N,N,N,N,N,N,N] [6] H ?_; clear H; intro _ H
          refine pG 0 (some 43) #[Y,N,N,N,N,N,N] ?_
          refine rB 1 (some 44) #[Y,Y,N,N,N,N,N] 2 Tryz.underlying169 H ?_
          refine rB 4 (some 47) #[Y,Y,N,N,Y,N,N] 2 Tryz.underlying169 H ?_
          refine cB (v := .int .i64 2) 2 (some 45) #[Y,Y,Y,N,Y,N,N] Tryz.func121 H (hyPhase_w a0 l m true false a5 a6 _) ?_; clear H; intro _ H
          refine kB 3 (some 46) #[Y,Y,Y,Y,Y,N,N] 3 Tryz.underlying207 Tryz.underlying170 H ?_
          refine fB 5 (some 48) #[Y,Y,Y,Y,Y,Y,N] Tryz.func161 H (hyMild_w a0 l m true false a5 a6 _) ?_; clear H; intro _ H
          refine sB' 6 #[Y,Y,Y,Y,Y,Y,Y] 2 H ?_; clear H; intro _ H
          refine done_ (by kernel_rfl) ?_
          go_wp2_with (first
            | (refine bxR 169 6 49 2 Tryz.underlying169 H ?_)
            | (refine bxP 44 4 49 1 H ?_; clear H; intro _ H)
            | fail)
          refine bodyPost_ret (results_row_tmp rfl b4 44 _ _ rfl rfl (H.out.get 1 rfl) Tryz.underlying44 (by kernel_rfl)) rfl ⟨by rw [hv]; rfl, H.out.lo⟩
        · have hv : hyTime a0 l m false false a5 a6 = .agg #[.int .i64 a0, .int .i64 l, .int .i64 m, .bool (cond (hyLate a0 l) true false), .bool false, .int .i64 (cond (hyLate a0 l) l a5), .int .i64 a6] := by simp [hyTime, e8]
          go_upto_region 9 with (first
            | ((with_reducible refine gate_dst (N := 41) rfl ?_); refine bxM 41 207 H ?_; clear H; intro r _ H)
            | (refine bxI 207 170 205 41 (.const (.int .i64 1)) (.func 160) 3 1 Tryz.underlying207 Tryz.underlying170 H ?_; clear H; intro _ H)
            | (refine bxI 207 170 205 41 (.const (.int .i64 2)) (.func 161) 3 2 Tryz.underlying207 Tryz.underlying170 H ?_; clear H; intro _ H)
            | (refine bxI 207 170 205 41 (.const (.int .i64 3)) (.func 162) 3 3 Tryz.underlying207 Tryz.underlying170 H ?_; clear H; intro _ H)
            | (refine bxL 38 39 2 2 l3 H ?_)
            | fail)
          refine rgB #[N,N,N,N,N,N,N] [6] H ?_; clear H; intro _ H
          refine pG 0 (some 43) #[Y,N,N,N,N,N,N] ?_
          refine rB 1 (some 44) #[Y,Y,N,N,N,N,N] 2 Tryz.underlying169 H ?_
          refine rB 4 (some 47) #[Y,Y,N,N,Y,N,N] 2 Tryz.underlying169 H ?_
          refine cB (v := .int .i64 1) 2 (some 45) #[Y,Y,Y,N,Y,N,N] Tryz.func121 H (hyPhase_w a0 l m false false a5 a6 _) ?_; clear H; intro _ H
          refine kB 3 (some 46) #[Y,Y,Y,Y,Y,N,N] 3 Tryz.underlying207 Tryz.underlying170 H ?_
          refine fB 5 (some 48) #[Y,Y,Y,Y,Y,Y,N] Tryz.func160 H (hySwift_w a0 l m false false a5 a6 _) ?_; clear H; intro _ H
          refine sB' 6 #[Y,Y,Y,Y,Y,Y,Y] 2 H ?_; clear H; intro _ H
          refine done_ (by kernel_rfl) ?_
          go_wp2_with (first
            | (refine bxR 169 6 49 2 Tryz.underlying169 H ?_)
            | (refine bxP 44 4 49 1 H ?_; clear H; intro _ H)
            | fail)
          refine bodyPost_ret (results_row_tmp rfl b4 44 _ _ rfl rfl (H.out.get 1 rfl) Tryz.underlying44 (by kernel_rfl)) rfl ⟨by rw [hv]; rfl, H.out.lo⟩
/-- What a round's end makes of slow start. -/
def hyRound (k : Bool) (a0 a1 a2 : Int) (a3 a4 : Bool) (a5 a6 : Int) : Value :=
  cond k (if (if a3 = true then wrap64 (a6 + 1) else a6) ≥ 5 then .tuple #[.agg #[.int .i64 a1, .int .i64 0, .int .i64 0, .bool false, .bool true, .int .i64 0, .int .i64 0], .int .i64 0] else .tuple #[.agg #[.int .i64 a1, .int .i64 0, .int .i64 0, .bool a3, .bool a4, .int .i64 a5, .int .i64 (if a3 = true then wrap64 (a6 + 1) else a6)], .int .i64 0]) (.tuple #[.agg #[.int .i64 a0, .int .i64 a1, .int .i64 a2, .bool a3, .bool a4, .int .i64 a5, .int .i64 a6], .int .i64 201])
set_option maxRecDepth 100000 in
set_option maxHeartbeats 4000000 in
theorem hround_w (k : Bool) (a0 a1 a2 : Int) (a3 a4 : Bool) (a5 a6 : Int) (hk : Aside0 (∀ W : World, Calls Tryz.prog 70 #[.agg #[.int .i64 a0, .int .i64 a1, .int .i64 a2, .bool a3, .bool a4, .int .i64 a5, .int .i64 a6]] W fun e W' => e = .returned (.bool k) ∧ Below W.heap.size W W')) (w : World) :
    Calls Tryz.prog 88 #[.agg #[.int .i64 a0, .int .i64 a1, .int .i64 a2, .bool a3, .bool a4, .int .i64 a5, .int .i64 a6]] w fun e w' => e = .returned (hyRound k a0 a1 a2 a3 a4 a5 a6) ∧ Below w.heap.size w w' := by
  have H := Aside0.mk (Bx.start w)
  obtain rfl | rfl := Bool.eq_false_or_eq_true k <;> go_enter Tryz.func88, Tryz.ntmps88 <;> go_wp2_with (first
    | (go_at_call 70; (with_reducible refine (hk.out _).mono ?_); rintro e w9 ⟨rfl, hb⟩; replace H := Aside0.mk (H.out.below hb); clear hb)
    | ((with_reducible refine gate_dst (N := 1) rfl ?_); refine bxB 1 44 (.tmp 0) H ?_; clear H; intro b1 _ H)
    | ((with_reducible refine gate_dst (N := 2) rfl ?_); refine bxV 2 44 #[.int .i64 0, .int .i64 0, .int .i64 0, .bool false, .bool false, .int .i64 0, .int .i64 0] H (fun _ => by kernel_rfl) ?_; clear H; intro b2 _ H)
    | (refine bxR 44 1 4 0 Tryz.underlying44 H ?_)
    | (refine bxR 44 1 7 0 Tryz.underlying44 H ?_)
    | (refine bxP 44 2 7 1 H ?_; clear H; intro _ H)
    | (refine bxL 8 9 0 1 l3 H ?_)
    | (refine bxS 10 (.tmp 9) 0 0 s3 H ?_; clear H; intro _ H)
    | (refine bxS 11 (.const (.int .i64 0)) 0 1 s3 H ?_; clear H; intro _ H)
    | (refine bxS 12 (.const (.int .i64 0)) 0 2 s3 H ?_; clear H; intro _ H)
    | (refine bxL 13 14 0 3 l4 H ?_)
    | (refine bxL 15 16 0 6 l3 H ?_)
    | (refine bxS 18 (.tmp 17) 0 6 s3 H ?_; clear H; intro _ H)
    | (refine bxL 19 20 0 6 l3 H ?_)
    | (refine bxS 22 (.const (.bool false)) 0 3 s4 H ?_; clear H; intro _ H)
    | (refine bxS 23 (.const (.bool true)) 0 4 s4 H ?_; clear H; intro _ H)
    | (refine bxS 24 (.const (.int .i64 0)) 0 5 s3 H ?_; clear H; intro _ H)
    | (refine bxS 25 (.const (.int .i64 0)) 0 6 s3 H ?_; clear H; intro _ H)
    | (refine bxR 44 1 26 0 Tryz.underlying44 H ?_)
    | (refine bxP 44 2 26 1 H ?_; clear H; intro _ H)
    | fail)
  all_goals (refine bodyPost_ret (results_row_tmp rfl b2 44 _ _ rfl rfl (H.out.get 1 rfl) Tryz.underlying44 (by kernel_rfl)) rfl ⟨?_, H.out.lo⟩; first | (simp [hyRound, *]; done) | (simp [hyRound, *]; intros; omega))
theorem ne51 {p : Prop} : (51 : Int) = 0 → p := fun h => absurd h (by decide)
theorem ne50 {p : Prop} : (50 : Int) = 0 → p := fun h => absurd h (by decide)
theorem Own.of_block {B g : Nat} {W : World} {l : List S119} (hg : B ≤ g) (h : W.heap[g]? = some (.cells (flatM l).toArray 119 (0, 0))) (hl : l.length ≤ 2000000) : Own B W ⟨some ⟨g, 0, none⟩, l.length, l.length⟩ l :=
  ⟨rfl, Nat.le_refl _, fun e => (by cases e), fun a e => (by cases e; exact hg), fun a e => (by cases e; exact blk_lt h), C_of_flat (c := 0) (by omega) h⟩
set_option maxRecDepth 100000 in
set_option maxHeartbeats 8000000 in
theorem put_w (A : Option Addr) (c : Nat) (l : List S119) (k : Bool) (at_ n : Int) (w : World) (hC : Kd.C k119 w A l.length l) (hc : l.length ≤ c) (hl : l.length ≤ 1000000) (hk : ∀ W : World, Kd.C k119 W A l.length l → Calls Tryz.prog 67 #[.slice A l.length c] W fun e W' => e = .returned (.bool k) ∧ Below W.heap.size W W') :
    Calls Tryz.prog 136 #[.slice A l.length c, .int .i64 10000000, .int .i64 at_, .int .i64 n] w fun e w' => (∃ y : Sl × Int, e = .returned (.tuple #[y.1.val, .int .i64 y.2]) ∧ (y.2 = 0 → ∃ l', l'.length ≤ l.length + 1 ∧ Own w.heap.size w' y.1 l') ∧ (y.2 ≠ 0 → ¬ (l = [] ∧ k = true ∧ 0 ≤ at_ ∧ at_ ≤ 1099511627776))) ∧ Below w.heap.size w w' := by
  have H := Aside0.mk (Bx.start w)
  have HC := Aside0.mk hC
  have HL := Aside0.mk hl
  have HK := Aside0.mk hk
  have HCc := Aside0.mk hc
  clear hC hl hk hc
  go_enter Tryz.func136, Tryz.ntmps136
  go_upto_block 0 with (first
    | ((with_reducible refine gate_dst (N := 5) rfl ?_); refine bxN 5 (.tmp 1) 10000000 H ?_; clear H; intro b5 _ H)
    | ((with_reducible refine gate_dst (N := 6) rfl ?_); refine bxN 6 (.tmp 2) at_ H ?_; clear H; intro b6 _ H)
    | ((with_reducible refine gate_dst (N := 7) rfl ?_); refine bxN 7 (.tmp 3) n H ?_; clear H; intro b7 _ H)
    | fail)
  go_cut [0] (fun v0 wc => v0 = .slice A l.length c ∧ Aside0 (0 ≤ at_ ∧ at_ ≤ 1099511627776) ∧ Aside0 (Bx w [(b5, .cells #[.int .i64 10000000] 3 (0, 0)), (b6, .cells #[.int .i64 at_] 3 (0, 0)), (b7, .cells #[.int .i64 n] 3 (0, 0))] wc))
  case first =>
    obtain rfl | rfl := Bool.eq_false_or_eq_true k
    rotate_left
    · go_wp2_with (first
        | (go_at_call 67; (with_reducible refine (HK.out _ (Kd.C_below HC.out H.out.lo)).mono ?_); rintro e w9 ⟨rfl, hb⟩; replace H := Aside0.mk (H.out.below hb); clear hb; have z6 := (blk_cell (H.out.get 1 rfl) 0).trans (show _ = some (.int .i64 at_) from rfl); have z5 := (blk_cell (H.out.get 0 rfl) 0).trans (show _ = some (.int .i64 10000000) from rfl))
        | (go_at_call 157; (with_reducible refine (least_own_w A c l _ (Kd.C_below HC.out H.out.lo) (by have := HL.out; omega)).mono ?_); rintro e wo ⟨go, rfl, hge, hbo, hb⟩; have HO := Aside0.mk (Own.of_block (Nat.le_trans H.out.lo.size hge) hbo (by have := HL.out; omega)); replace H := Aside0.mk (H.out.below hb); clear hbo hb hge)
        | fail)
      all_goals (go_ret2; first | exact ⟨⟨(⟨_, _, _⟩, 51), rfl, ne51, fun _ q => by cases q.2.1⟩, H.out.lo⟩ | exact ⟨⟨⟨_, _, _⟩, 51, rfl, ne51, fun _ q => by cases q.2.1⟩, H.out.lo⟩)
    rcases q : (decide (at_ ≥ 0) && decide (at_ ≤ 1099511627776)) with _ | _
    · go_wp2_with (first
        | (go_at_call 67; (with_reducible refine (HK.out _ (Kd.C_below HC.out H.out.lo)).mono ?_); rintro e w9 ⟨rfl, hb⟩; replace H := Aside0.mk (H.out.below hb); clear hb; have z6 := (blk_cell (H.out.get 1 rfl) 0).trans (show _ = some (.int .i64 at_) from rfl); have z5 := (blk_cell (H.out.get 0 rfl) 0).trans (show _ = some (.int .i64 10000000) from rfl))
        | (go_at_call 119; (with_reducible refine (isT_w _ _).mono ?_); rintro e w9 ⟨rfl, nd, rfl⟩; rw [q]; replace H := Aside0.mk (H.out.drewN nd))
        | (go_at_call 157; (with_reducible refine (least_own_w A c l _ (Kd.C_below HC.out H.out.lo) (by have := HL.out; omega)).mono ?_); rintro e wo ⟨go, rfl, hge, hbo, hb⟩; have HO := Aside0.mk (Own.of_block (Nat.le_trans H.out.lo.size hge) hbo (by have := HL.out; omega)); replace H := Aside0.mk (H.out.below hb); clear hbo hb hge)
        | fail)
      all_goals (go_ret2; first | exact ⟨⟨(⟨_, _, _⟩, 51), rfl, ne51, fun _ z => by simp at q; omega⟩, H.out.lo⟩ | exact ⟨⟨⟨_, _, _⟩, 51, rfl, ne51, fun _ z => by simp at q; omega⟩, H.out.lo⟩)
    have QQ : Aside0 (0 ≤ at_ ∧ at_ ≤ 1099511627776) := ⟨by simpa using q⟩
    go_upto_region 3 with (first
        | (go_at_call 67; (with_reducible refine (HK.out _ (Kd.C_below HC.out H.out.lo)).mono ?_); rintro e w9 ⟨rfl, hb⟩; replace H := Aside0.mk (H.out.below hb); clear hb; have z6 := (blk_cell (H.out.get 1 rfl) 0).trans (show _ = some (.int .i64 at_) from rfl); have z5 := (blk_cell (H.out.get 0 rfl) 0).trans (show _ = some (.int .i64 10000000) from rfl))
        | (go_at_call 119; (with_reducible refine (isT_w _ _).mono ?_); rintro e w9 ⟨rfl, nd, rfl⟩; rw [q]; replace H := Aside0.mk (H.out.drewN nd))
        | fail)
    by_cases h0 : l = []
    · subst h0
      simp only [List.length_nil]
      go_quiet (fail)
      replace H := Aside0.mk (H.out.drewN nq)
      clear z5 z6
      go_wp2
      go_meet
      exact ⟨rfl, QQ, H⟩
    · have h1 : 0 < l.length := List.length_pos_iff.2 h0
      have e1 : IntKind.i64.wrap ((l.length : Int) - 1) = (l.length : Int) - 1 := by rw [i64_w]; exact Sp.w64 (by have := HL.out; omega)
      have p1 : 0 ≤ IntKind.i64.wrap ((l.length : Int) - 1) := by omega
      have q1 : IntKind.i64.wrap ((l.length : Int) - 1) < (l.length : Int) := by omega
      obtain ⟨ad, rfl, x0, _⟩ := at_T119 (Kd.C_below HC.out H.out.lo) _ p1 q1
      have c0 : decide ((l.length : Int) > 0) = true := decide_eq_true (by omega)
      generalize rd_T119 l (IntKind.i64.wrap ((l.length : Int) - 1)) = m at *
      replace x0 : w9.cell? (ad.add ((IntKind.i64.wrap ((l.length : Int) - 1)).toNat * 2)) = some (.int .i64 m.f0) := x0
      clear e1 h0
      go_quiet (fail)
      replace H := Aside0.mk (H.out.drewN nq)
      clear z5 z6 x0 p1 q1 c0
      generalize (w9.drewN nd).drewN nq = wq at H ⊢
      rcases b : decide (at_ < m.f0) with _ | _
      · go_wp2
        go_meet
        exact ⟨rfl, QQ, H⟩
      · go_wp2_with (first
          | (go_at_call 157; (with_reducible refine (least_own_w (some ad) c l _ (Kd.C_below HC.out H.out.lo) (by have := HL.out; omega)).mono ?_); rintro e wo ⟨go, rfl, hge, hbo, hb⟩; have HO := Aside0.mk (Own.of_block (Nat.le_trans H.out.lo.size hge) hbo (by have := HL.out; omega)); replace H := Aside0.mk (H.out.below hb); clear hbo hb hge)
          | fail)
        all_goals (go_ret2; first | exact ⟨⟨(⟨_, _, _⟩, 50), rfl, ne50, fun _ q => by have e : l = [] := (by first | exact q.1 | exact q); rw [e] at h1; simp at h1⟩, H.out.lo⟩ | exact ⟨⟨⟨_, _, _⟩, 50, rfl, ne50, fun _ q => by have e : l = [] := (by first | exact q.1 | exact q); rw [e] at h1; simp at h1⟩, H.out.lo⟩)
  case rest =>
    obtain ⟨rfl, QQ, H⟩ := hcut
    clear HK
    obtain ⟨j, hj, hx⟩ := firstIx_le (fun m => decide (m.f1 ≥ n)) l
    have HJ := Aside0.mk hj
    have HX := Aside0.mk hx
    have HI := Aside0.mk (marks_index (fun m => decide (m.f1 ≥ n)) 158 Tryz.f158 Tryz.func158 rfl (by kernel_rfl) #[.pointer (some ⟨b7, 0, none⟩)] A c l wc (Kd.C_below HC.out H.out.lo) ⟨by have := HL.out; omega⟩ (fun W m hb => put_ge b7 n m W (blk_below (H.out.get 2 rfl) hb)))
    clear hj hx
    go_upto_if 49 with (first | (go_at_call 120; (with_reducible refine HI.out.mono ?_); rintro e w9 ⟨rfl, hb9⟩; replace H := Aside0.mk (H.out.below hb9); clear hb9) | fail)
    clear HI
    go_cut [10] (fun v10 wc => v10 = .int .i64 (j : Int) ∧ Aside0 (Bx w [(b5, .cells #[.int .i64 10000000] 3 (0, 0)), (b6, .cells #[.int .i64 at_] 3 (0, 0)), (b7, .cells #[.int .i64 n] 3 (0, 0))] wc))
    case first =>
      rcases HX.out with ⟨_, h2, h3⟩ | h1
      · rw [h2]
        go_wp2
        go_meet
        exact ⟨by rw [h3], H⟩
      · have h0 : decide ((j : Int) < 0) = false := decide_eq_false (by omega)
        rw [h1]
        go_wp2
        go_meet
        exact ⟨rfl, H⟩
    case rest =>
      obtain ⟨rfl, H⟩ := hcut
      clear HX
      go_upto_region 8 with fail
      have q0 : (0 : Int) ≤ (j : Int) := by omega
      have q1 : (j : Int) ≤ (c : Int) := by have := HJ.out; have := HCc.out; omega
      obtain ⟨n2, hn2⟩ : ∃ n2, (l.take j ++ [(⟨at_, n⟩ : S119)]).length = n2 := ⟨_, rfl⟩
      refine rgB #[N,N,N,N,N,N,N,N,N,N,N] [] H ?_; clear H; intro _ H
      refine pG 0 (some 52) #[Y,N,N,N,N,N,N,N,N,N,N] ?_
      refine pG 1 (some 53) #[Y,Y,N,N,N,N,N,N,N,N,N] ?_
      refine pG 2 (some 54) #[Y,Y,Y,N,N,N,N,N,N,N,N] ?_
      refine pG (v := .slice A j j) 3 (some 55) #[Y,Y,Y,Y,N,N,N,N,N,N,N] ?_
      refine lB 5 (some 57) #[Y,Y,Y,Y,N,Y,N,N,N,N,N] 1 0 l3 H ?_
      refine lB 6 (some 58) #[Y,Y,Y,Y,N,Y,Y,N,N,N,N] 2 0 l3 H ?_
      refine pG (v := .agg #[.int .i64 at_, .int .i64 n]) 7 (some 59) #[Y,Y,Y,Y,N,Y,Y,Y,N,N,N] ?_
      refine twoB (args := #[.slice A j j]) 4 8 56 60 #[Y,Y,Y,Y,Y,Y,Y,Y,N,N,N] #[Y,Y,Y,Y,N,Y,Y,Y,Y,N,N] #[Y,Y,Y,Y,Y,Y,Y,Y,Y,N,N] j 1 (flatM (l.take j)).toArray #[.int .i64 at_, .int .i64 n] H (fun W hW => ?_) ?_
      · have ht : (l.take j).length = j := by rw [List.length_take]; have := HJ.out; omega
        have := least_own_w A j (l.take j) W (C_take (Kd.C_below HC.out hW.lo) j) (by rw [ht]; have := HL.out; have := HJ.out; omega)
        rw [ht] at this
        exact this
      clear H; intro go gn _ H
      refine aB 9 61 #[Y,Y,Y,Y,Y,Y,Y,Y,Y,Y,N] (l.take j) ⟨at_, n⟩ n2 hn2 H (by rw [List.length_take]; have := HL.out; omega) ?_ (hx := by show _ = Value.slice _ (l.take j).length (l.take j).length; rw [List.length_take, Nat.min_eq_left HJ.out]; rfl); clear H; intro zA zc W9 H HZ
      refine pG 10 (some 11) #[Y,Y,Y,Y,Y,Y,Y,Y,Y,Y,Y] ?_
      refine done_ (by kernel_rfl) ?_
      have ht : (l.take j).length ≤ l.length := by rw [List.length_take]; omega
      generalize l.take j = l1 at *
      have hz : ∃ ad, zA = some ad := by
        obtain ⟨_, _, h3⟩ := HZ.out.C
        obtain ⟨ad, e, _⟩ := h3 (by show 0 < n2; rw [← hn2]; simp)
        exact ⟨ad, e⟩
      obtain ⟨ad, rfl⟩ := hz
      have HT := Aside0.mk ht
      obtain ⟨f, hf, hfx⟩ := firstIx_last (p := fun m => decide (m.f0 ≥ wrap64 (at_ - 10000000))) (l := l1) (m := ⟨at_, n⟩) (decide_eq_true (by show at_ ≥ wrap64 (at_ - 10000000); have := QQ.out; rw [Sp.w64 (x := at_ - 10000000) (by omega)]; omega))
      have HI := Aside0.mk (marks_index (fun m => decide (m.f0 ≥ wrap64 (at_ - 10000000))) 159 Tryz.f159 Tryz.func159 rfl (by kernel_rfl) #[.pointer (some ⟨b6, 0, none⟩), .pointer (some ⟨b5, 0, none⟩)] (some ad) zc (l1 ++ [⟨at_, n⟩]) W9 (hn2 ▸ HZ.out.C) ⟨by have := HL.out; simp; omega⟩ (fun W m hb => put_since b6 b5 at_ 10000000 m W (blk_below (H.out.get 1 rfl) hb) (blk_below (H.out.get 0 rfl) hb)))
      rw [hfx, hn2] at HI
      have HF := Aside0.mk hf
      clear hf hfx ht q0 q1 HJ QQ
      have q0 : (0 : Int) ≤ (f : Int) := by omega
      have q1 : (f : Int) ≤ (n2 : Int) := by have := HF.out; rw [← hn2]; simp; omega
      have q2 : (n2 : Int) ≤ (zc : Int) := Int.ofNat_le.2 HZ.out.le
      have HN := Aside0.mk hn2
      clear hn2
      go_upto_region 10 with (first | (go_at_call 120; (with_reducible refine HI.out.mono ?_); rintro e w9 ⟨rfl, hb9⟩; replace H := Aside0.mk (H.out.below hb9); replace HZ := Aside0.mk (HZ.out.below hb9); clear hb9) | fail)
      clear HI
      have q3 : ¬ zc = f := by have := HF.out; have h1 := HN.out; simp at h1; omega
      go_wp2
      go_ret2
      have HD := HZ.out.drop f (by omega)
      have hle : ((l1 ++ [(⟨at_, n⟩ : S119)]).drop f).length ≤ l.length + 1 := by have := HT.out; rw [List.length_drop]; simp; omega
      first | exact ⟨⟨⟨some (ad.add (f * 2)), n2 - f, zc - f⟩, 0, rfl, (fun _ => ⟨_, hle, HD⟩), fun q => absurd rfl q⟩, H.out.lo⟩ | exact ⟨⟨(⟨some (ad.add (f * 2)), n2 - f, zc - f⟩, 0), rfl, (fun _ => ⟨_, hle, HD⟩), fun q => absurd rfl q⟩, H.out.lo⟩
end Go.Proofs.YtfahbgkoldoflaaGreatDoor.Px
