/- Printed by px.py, over the kit's print. Conditions: none beside the theorems' own. -/
import Derived.Test.YtfahbgkoldoflaaGreatDoorEng0
import Derived.Test.YtfahbgkoldoflaaGreatDoorPx0
import Derived.Test.YtfahbgkoldoflaaGreatDoorPx3
import Derived.Test.YtfahbgkoldoflaaGreatDoorPx6
import Derived.Test.YtfahbgkoldoflaaGreatDoorPx10
import Derived.Test.YtfahbgkoldoflaaGreatDoorPx11
import Derived.Test.YtfahbgkoldoflaaGreatDoorPx12
import Derived.Test.YtfahbgkoldoflaaGreatDoorPx13
import Derived.Test.YtfahbgkoldoflaaGreatDoorPx16
import Derived.Test.YtfahbgkoldoflaaGreatDoorSpec
namespace Go.Proofs.YtfahbgkoldoflaaGreatDoor.Px
open Go.RowKit Go.Proofs.YtfahbgkoldoflaaGreatDoorW.PrintWords Go.Proofs.YtfahbgkoldoflaaGreatDoorW.PrintLast Go.Proofs.YtfahbgkoldoflaaGreatDoorW.PrintMore
attribute [local go_sem] max2_int min2_int max_two min_two max_three min_three max_four min_four
set_option linter.unusedVariables false
set_option linter.unusedSimpArgs false

attribute [local go_sem high] eqA46
/-! ### flight_Send: function 80 -/
noncomputable def flight_Send.j0 : Nat → Int → Int → Bool → Int → Int → Int → Option (Int × Int × Int × Int)
 | 0, _, _, _, _, _, _ => none
 | k + 1, x1, x2, x8, x382000, x382001, x382002 => if x8 = true then (some (x382000, x382001, x382002, 201)) else (if x382000 > (wrap64 (9223372036854775807 - x1)) then (some (x382000, x382001, x382002, 10)) else ((flight_Room.f x382000 x382001 x382002 x2).bind fun t384 => (if x1 > t384 then (some (x382000, x382001, x382002, 203)) else (some (wrap64 (x382000 + x1), x382001, wrap64 (x382002 + x1), 0)))))
noncomputable def flight_Send.f (k : Nat) (a0_0 : Int) (a0_1 : Int) (a0_2 : Int) (a1 : Int) (a2 : Int) : Option (Int × Int × Int × Int) := (flight_Check.f a0_0 a0_1 a0_2).bind fun t383 => (if t383 = true then (flight_Send.j0 k a1 a2 (decide (a1 < 1)) a0_0 a0_1 a0_2) else (flight_Send.j0 k a1 a2 true a0_0 a0_1 a0_2))
set_option maxHeartbeats 4000000 in
set_option maxRecDepth 100000 in
theorem flight_Send.calls (k : Nat) (a0_0 : Int) (a0_1 : Int) (a0_2 : Int) (a1 : Int) (a2 : Int) (r1 : Int) (r2 : Int) (r3 : Int) (r4 : Int) (w : World) (h : flight_Send.f k a0_0 a0_1 a0_2 a1 a2 = some (r1, r2, r3, r4)) :
  Calls Tryz.prog 80 #[.agg #[.int .i64 a0_0, .int .i64 a0_1, .int .i64 a0_2], .int .i64 a1, .int .i64 a2] w fun e w' => e = .returned (.tuple #[.agg #[.int .i64 r1, .int .i64 r2, .int .i64 r3], .int .i64 r4]) ∧ Below w.heap.size w w' := by
  have H := Aside0.mk (Bx.start w)
  obtain ⟨t, hT, h⟩ := Option.bind_eq_some_iff.1 h
  have HC := Aside0.mk hT
  clear hT
  cases k with
  | zero => cases t <;> simp [flight_Send.j0] at h
  | succ k =>
  obtain ⟨u, hu⟩ : ∃ u, flight_Room.f a0_0 a0_1 a0_2 a2 = some u := by
    unfold flight_Room.f
    rw [HC.out]
    simp only [Option.bind_some]
    (repeat' split) <;> exact ⟨_, rfl⟩
  have HU := Aside0.mk hu
  by_cases p1 : a1 < 1 <;> by_cases p2 : wrap64 (9223372036854775807 - a1) < a0_0 <;> by_cases p3 : u < a1 <;> cases t <;> simp [flight_Send.j0, p1, p2, p3, hu] at h <;> obtain ⟨rfl, rfl, rfl, rfl⟩ := h
  all_goals (first | have c1 := decide_eq_false p1 | have c1 := decide_eq_true p1)
  all_goals (first | have c2 := decide_eq_false p2 | have c2 := decide_eq_true p2)
  all_goals (first | have c3 := decide_eq_false p3 | have c3 := decide_eq_true p3)
  all_goals clear p1 p2 p3 hu
  all_goals (go_enter Tryz.func80, Tryz.ntmps80)
  all_goals (go_wp2_with (first
    | ((with_reducible refine gate_dst (N := 3) rfl ?_); refine bxB 3 37 (.tmp 0) H ?_; clear H; intro b3 _ H)
    | ((with_reducible refine gate_dst (N := 6) rfl ?_); refine bxV 6 37 #[.int .i64 0, .int .i64 0, .int .i64 0] H (fun _ => by kernel_rfl) ?_; clear H; intro b6 _ H)
    | (refine bxR 37 3 9 0 Tryz.underlying37 H ?_)
    | (go_at_call 65; (with_reducible refine (flight_Check.calls a0_0 a0_1 a0_2 _ _ HC.out).mono ?_); rintro e wc ⟨rfl, hb⟩; replace H := Aside0.mk (H.out.below hb); clear hb)
    | (refine bxR 37 3 16 0 Tryz.underlying37 H ?_)
    | (refine bxP 37 6 16 1 H ?_; clear H; intro _ H)
    | (refine bxL 18 19 0 0 l3 H ?_)
    | (refine bxR 37 3 23 0 Tryz.underlying37 H ?_)
    | (refine bxP 37 6 23 1 H ?_; clear H; intro _ H)
    | (refine bxR 37 3 26 0 Tryz.underlying37 H ?_)
    | (go_at_call 129; (with_reducible refine (flight_Room.calls a0_0 a0_1 a0_2 a2 u _ HU.out).mono ?_); rintro e wc ⟨rfl, hb⟩; replace H := Aside0.mk (H.out.below hb); clear hb)
    | (refine bxR 37 3 30 0 Tryz.underlying37 H ?_)
    | (refine bxP 37 6 30 1 H ?_; clear H; intro _ H)
    | (refine bxL 31 32 0 0 l3 H ?_)
    | (refine bxS 35 (.tmp 34) 0 0 s3 H ?_; clear H; intro _ H)
    | (refine bxL 36 37 0 2 l3 H ?_)
    | (refine bxS 40 (.tmp 39) 0 2 s3 H ?_; clear H; intro _ H)
    | (refine bxR 37 3 41 0 Tryz.underlying37 H ?_)
    | (refine bxP 37 6 41 1 H ?_; clear H; intro _ H)
    | fail))
  all_goals (refine bodyPost_ret (results_row_tmp rfl b6 37 _ _ rfl rfl (H.out.get 1 rfl) Tryz.underlying37 (by kernel_rfl)) rfl ⟨rfl, H.out.lo⟩)

/-! ### bucket_Bytes: function 130 -/
noncomputable def bucket_Bytes.f (a0_0 : Int) (a0_1 : Int) : Option (Int) := if (a0_0 == 0 && (a0_1 == 0)) = true then (some 0) else ((bucket_CheckS.f a0_0 a0_1).bind fun t386 => (if t386 = true then (some (wrap64 (Int.tdiv a0_1 1000000))) else (some 0)))
set_option maxHeartbeats 8000000 in
set_option maxRecDepth 100000 in
theorem bucket_Bytes.calls (a0_0 : Int) (a0_1 : Int) (r : Int) (w : World) (h : bucket_Bytes.f a0_0 a0_1 = some r) :
  Calls Tryz.prog 130 #[.agg #[.int .i64 a0_0, .int .i64 a0_1]] w fun e w' => e = .returned (.int .i64 r) ∧ Below w.heap.size w w' := by
 have hu46 := Tryz.underlying46; have HB := Aside0.mk (Below.refl w.heap.size w); have H : (if (a0_0 == 0 && (a0_1 == 0)) = true then (some 0) else ((bucket_CheckS.f a0_0 a0_1).bind fun t386 => (if t386 = true then (some (wrap64 (Int.tdiv a0_1 1000000))) else (some 0)))) = some r := h; clear h
 by_cases c2 : (a0_0 == 0 && (a0_1 == 0)) = true
 ·rw [if_pos c2] at H
  have c2b0 : (a0_0 == 0 && (a0_1 == 0)) = true := c2
  (try (have c2b1 : decide (a0_0 = 0 && (a0_1 == 0)) = true := by simpa using c2))
  (try (have c2b2 : (a0_0 == 0 && (a0_1 == 0)) = true := by simpa using c2))
  clear c2; obtain rfl := Option.some.inj H
  go_enter Tryz.func130, Tryz.ntmps130
  go_wp2_with (first | ((with_reducible refine gate_dst (N := 1) rfl ?_); refine box_event ?hg (N := 1) ?hd (cs := #[.int .i64 a0_0, .int .i64 a0_1]) (t := 46) ?hr ?_; (case hd => rfl); (case hg => rfl); (case hr => first | (go_simp; done) | (go_simp; rfl)); intro gb385 hg w3 hbox hb; have BK385 := Aside0.mk (hbox); obtain ⟨GW385, nHB⟩ := geA hg hb; have GE385 := GW385; replace HB := nHB; clear nHB; clear hb hbox hg; have hcz4_0 := czZ BK385 0 (.int .i64 a0_0); have hcz4_1 := czZ BK385 1 (.int .i64 a0_1); have hfz4_0 := blk_frozen BK385.out 0; have hfz4_1 := blk_frozen BK385.out 1))
  go_ret
  exact ⟨by first | rfl | (rw [Int.tdiv_eq_ediv_of_nonneg] <;> first | rfl | assumption | omega) | (simp [errW_none, errW_some] <;> rfl) | (simp [*, errW_none, errW_some] <;> rfl), by repeat (first | (with_reducible first | exact HB.out | apply below_alloc | apply pw_below_drewN | apply below_drew1 | refine below_set ?_ GE385.out) | exact HB.out)⟩
 ·rw [if_neg c2] at H
  have c2b0 : (a0_0 == 0 && (a0_1 == 0)) = false := by simpa using c2
  (try (have c2b1 : decide (a0_0 = 0 && (a0_1 == 0)) = false := by simpa using c2))
  (try (have c2b2 : (a0_0 == 0 && (a0_1 == 0)) = false := by simpa using c2))
  (try (have c2b3 : ¬ (a0_0 = 0 && (a0_1 == 0)) := by simpa using c2))
  clear c2; replace H := Option.bind_eq_some_iff.mp H; obtain ⟨t386, A50, H⟩ := H; replace H : (if t386 = true then (some (wrap64 (Int.tdiv a0_1 1000000))) else (some 0)) = some r := H; have A5 := Aside0.mk A50; clear A50
  by_cases c6 : t386 = true
  ·subst c6
   have H1 : (some (wrap64 (Int.tdiv a0_1 1000000))) = some r := by rw [if_pos rfl] at H; exact H
   clear H; have H := H1; clear H1; obtain rfl := Option.some.inj H
   go_enter Tryz.func130, Tryz.ntmps130
   go_wp2_with (first | ((with_reducible refine gate_dst (N := 1) rfl ?_); refine box_event ?hg (N := 1) ?hd (cs := #[.int .i64 a0_0, .int .i64 a0_1]) (t := 46) ?hr ?_; (case hd => rfl); (case hg => rfl); (case hr => first | (go_simp; done) | (go_simp; rfl)); intro gb385 hg w7 hbox hb; have BK385 := Aside0.mk (hbox); obtain ⟨GW385, nHB⟩ := geA hg hb; have GE385 := GW385; replace HB := nHB; clear nHB; clear hb hbox hg; have hcz8_0 := czZ BK385 0 (.int .i64 a0_0); have hcz8_1 := czZ BK385 1 (.int .i64 a0_1); have hfz8_0 := blk_frozen BK385.out 0; have hfz8_1 := blk_frozen BK385.out 1) | (go_at_call 71; (with_reducible refine (bucket_CheckS.calls a0_0 a0_1 true _ A5.out).mono ?_); rintro e w9 ⟨rfl, hb⟩; replace BK385 := bdZ BK385 hb; replace HB := stA hb; clear hb; have hcz10_0 := czZ BK385 0 (.int .i64 a0_0); have hcz10_1 := czZ BK385 1 (.int .i64 a0_1); have hfz10_0 := blk_frozen BK385.out 0; have hfz10_1 := blk_frozen BK385.out 1))
   go_ret
   exact ⟨by first | rfl | (rw [Int.tdiv_eq_ediv_of_nonneg] <;> first | rfl | assumption | omega) | (simp [errW_none, errW_some] <;> rfl) | (simp [*, errW_none, errW_some] <;> rfl), by repeat (first | (with_reducible first | exact HB.out | apply below_alloc | apply pw_below_drewN | apply below_drew1 | refine below_set ?_ GE385.out) | exact HB.out)⟩
  ·replace c6 := Bool.eq_false_iff.mpr c6
   subst c6
   have H1 : (some 0) = some r := by rw [if_neg (show ¬ (false = true) by decide)] at H; exact H
   clear H; have H := H1; clear H1; obtain rfl := Option.some.inj H
   go_enter Tryz.func130, Tryz.ntmps130
   go_wp2_with (first | ((with_reducible refine gate_dst (N := 1) rfl ?_); refine box_event ?hg (N := 1) ?hd (cs := #[.int .i64 a0_0, .int .i64 a0_1]) (t := 46) ?hr ?_; (case hd => rfl); (case hg => rfl); (case hr => first | (go_simp; done) | (go_simp; rfl)); intro gb385 hg w11 hbox hb; have BK385 := Aside0.mk (hbox); obtain ⟨GW385, nHB⟩ := geA hg hb; have GE385 := GW385; replace HB := nHB; clear nHB; clear hb hbox hg; have hcz12_0 := czZ BK385 0 (.int .i64 a0_0); have hcz12_1 := czZ BK385 1 (.int .i64 a0_1); have hfz12_0 := blk_frozen BK385.out 0; have hfz12_1 := blk_frozen BK385.out 1) | (go_at_call 71; (with_reducible refine (bucket_CheckS.calls a0_0 a0_1 false _ A5.out).mono ?_); rintro e w13 ⟨rfl, hb⟩; replace BK385 := bdZ BK385 hb; replace HB := stA hb; clear hb))
   go_ret
   exact ⟨by first | rfl | (rw [Int.tdiv_eq_ediv_of_nonneg] <;> first | rfl | assumption | omega) | (simp [errW_none, errW_some] <;> rfl) | (simp [*, errW_none, errW_some] <;> rfl), by repeat (first | (with_reducible first | exact HB.out | apply below_alloc | apply pw_below_drewN | apply below_drew1 | refine below_set ?_ GE385.out) | exact HB.out)⟩

/-! ### bucket_BytesS: pure, behind function 130 -/
section
open Go.Proofs.YtfahbgkoldoflaaGreatDoor.Sp
noncomputable def bucket_BytesS.f (t : Int) (h : Int) : Option (Int) := some (bytesB t h)
theorem bucket_BytesS.eq {t : Int} {h : Int}  : bucket_BytesS.f t h = some (bytesB t h) := rfl
theorem bucket_Bytes.main {t : Int} {h : Int}  : bucket_Bytes.f t h = some (bytesB t h) := by
 unfold bucket_Bytes.f bytesB
 rw [bucket_CheckS.eq]
 simp only [Option.bind_some]
 by_cases c : bOk t h = true
 ·obtain ⟨b1, b2, b3, b4⟩ := bOk_iff.1 c
  rw [if_pos c, if_pos c]
  have e : wrap64 (Int.tdiv h 1000000) = h / 1000000 := by rw [Int.tdiv_eq_ediv_of_nonneg b3, w64 (by omega)]
  rw [e]
  by_cases z : (t == 0 && h == 0) = true
  ·rw [if_pos z]; simp at z; obtain ⟨rfl, rfl⟩ := z; rfl
  ·rw [if_neg z]
 ·rw [if_neg c, if_neg c]; simp
end
theorem bucket_BytesS.calls (a0_0 : Int) (a0_1 : Int) (r : Int) (w : World) (h : bucket_BytesS.f a0_0 a0_1 = some r) :
  Calls Tryz.prog 130 #[.agg #[.int .i64 a0_0, .int .i64 a0_1]] w fun e w' => e = .returned (.int .i64 r) ∧ Below w.heap.size w w' := by
 exact bucket_Bytes.calls a0_0 a0_1 r w (by rw [bucket_Bytes.main ]; exact h)

/-! ### bucket_Take: function 81 -/
noncomputable def bucket_Take.j0 : Nat → Int → Bool → Int → Int → Option (Int × Int × Int)
 | 0, _, _, _, _ => none
 | k + 1, x1, x6, x388000, x388001 => if x6 = true then (some (x388000, x388001, 201)) else ((bucket_BytesS.f x388000 x388001).bind fun t390 => (if x1 > t390 then (some (x388000, x388001, 203)) else (some (x388000, wrap64 (x388001 - (wrap64 (x1 * 1000000))), 0))))
noncomputable def bucket_Take.f (k : Nat) (a0_0 : Int) (a0_1 : Int) (a1 : Int) : Option (Int × Int × Int) := (bucket_CheckS.f a0_0 a0_1).bind fun t389 => (if t389 = true then (bucket_Take.j0 k a1 (decide (a1 < 1)) a0_0 a0_1) else (bucket_Take.j0 k a1 true a0_0 a0_1))
set_option maxHeartbeats 4000000 in
set_option maxRecDepth 100000 in
theorem bucket_Take.calls (k : Nat) (a0_0 : Int) (a0_1 : Int) (a1 : Int) (r1 : Int) (r2 : Int) (r3 : Int) (w : World) (h : bucket_Take.f k a0_0 a0_1 a1 = some (r1, r2, r3)) :
  Calls Tryz.prog 81 #[.agg #[.int .i64 a0_0, .int .i64 a0_1], .int .i64 a1] w fun e w' => e = .returned (.tuple #[.agg #[.int .i64 r1, .int .i64 r2], .int .i64 r3]) ∧ Below w.heap.size w w' := by
  have H := Aside0.mk (Bx.start w)
  obtain ⟨t, hT, h⟩ := Option.bind_eq_some_iff.1 h
  have HC := Aside0.mk hT
  clear hT
  cases k with
  | zero => cases t <;> simp [bucket_Take.j0] at h
  | succ k =>
  obtain ⟨u, hu⟩ : ∃ u, bucket_BytesS.f a0_0 a0_1 = some u := ⟨_, rfl⟩
  have HU := Aside0.mk hu
  by_cases p1 : a1 < 1 <;> by_cases p3 : u < a1 <;> cases t <;> simp [bucket_Take.j0, p1, p3, hu] at h <;> obtain ⟨rfl, rfl, rfl⟩ := h
  all_goals (first | have c1 := decide_eq_false p1 | have c1 := decide_eq_true p1)
  all_goals (first | have c3 := decide_eq_false p3 | have c3 := decide_eq_true p3)
  all_goals clear p1 p3 hu
  all_goals (go_enter Tryz.func81, Tryz.ntmps81)
  all_goals (go_wp2_with (first
    | ((with_reducible refine gate_dst (N := 2) rfl ?_); refine bxB 2 46 (.tmp 0) H ?_; clear H; intro b2 _ H)
    | ((with_reducible refine gate_dst (N := 4) rfl ?_); refine bxV 4 46 #[.int .i64 0, .int .i64 0] H (fun _ => by kernel_rfl) ?_; clear H; intro b4 _ H)
    | (refine bxR 46 2 7 0 Tryz.underlying46 H ?_)
    | (go_at_call 71; (with_reducible refine (bucket_CheckS.calls a0_0 a0_1 _ _ HC.out).mono ?_); rintro e wc ⟨rfl, hb⟩; replace H := Aside0.mk (H.out.below hb); clear hb)
    | (refine bxR 46 2 14 0 Tryz.underlying46 H ?_)
    | (refine bxP 46 4 14 1 H ?_; clear H; intro _ H)
    | (refine bxR 46 2 17 0 Tryz.underlying46 H ?_)
    | (go_at_call 130; (with_reducible refine (bucket_BytesS.calls a0_0 a0_1 u _ HU.out).mono ?_); rintro e wc ⟨rfl, hb⟩; replace H := Aside0.mk (H.out.below hb); clear hb)
    | (refine bxR 46 2 20 0 Tryz.underlying46 H ?_)
    | (refine bxP 46 4 20 1 H ?_; clear H; intro _ H)
    | (refine bxL 21 22 0 1 l3 H ?_)
    | (refine bxS 26 (.tmp 25) 0 1 s3 H ?_; clear H; intro _ H)
    | (refine bxR 46 2 27 0 Tryz.underlying46 H ?_)
    | (refine bxP 46 4 27 1 H ?_; clear H; intro _ H)
    | fail))
  all_goals (refine bodyPost_ret (results_row_tmp rfl b4 46 _ _ rfl rfl (H.out.get 1 rfl) Tryz.underlying46 (by kernel_rfl)) rfl ⟨rfl, H.out.lo⟩)

/-! ### bucket_TakeS: pure, behind function 81 -/
section
open Go.Proofs.YtfahbgkoldoflaaGreatDoor.Sp
noncomputable def bucket_TakeS.f (t : Int) (h : Int) (n : Int) : Option (Int × Int × Int) := need (I n) (some (tkB t h n))
theorem bucket_TakeS.eq {t : Int} {h : Int} {n : Int} (h1 : I n) : bucket_TakeS.f t h n = some (tkB t h n) := need_pos h1
theorem bucket_Take.main {t : Int} {h : Int} {n : Int} (h1 : I n) : bucket_Take.f 1 t h n = some (tkB t h n) := by
 unfold bucket_Take.f
 simp only [bucket_Take.j0]
 rw [bucket_CheckS.eq, bucket_BytesS.eq]
 simp only [Option.bind_some]
 unfold tkB bytesB
 by_cases c : bOk t h = true
 ·obtain ⟨b1, b2, b3, b4⟩ := bOk_iff.1 c; simp only [if_pos c, if_pos rfl]
  by_cases n1 : n < 1
  ·rw [if_pos (decide_eq_true n1), if_pos n1]
  ·rw [if_neg (by simp; omega), if_neg n1]
   by_cases n2 : n > h / 1000000
   ·rw [if_pos n2, if_pos (by omega)]
   ·rw [if_neg n2, if_neg (by omega), w64 (x := n * 1000000) (by omega), w64 (by omega)]
 ·simp [c]
end
theorem bucket_TakeS.calls (a0_0 : Int) (a0_1 : Int) (a1 : Int) (r1 : Int) (r2 : Int) (r3 : Int) (w : World) (h : bucket_TakeS.f a0_0 a0_1 a1 = some (r1, r2, r3)) :
  Calls Tryz.prog 81 #[.agg #[.int .i64 a0_0, .int .i64 a0_1], .int .i64 a1] w fun e w' => e = .returned (.tuple #[.agg #[.int .i64 r1, .int .i64 r2], .int .i64 r3]) ∧ Below w.heap.size w w' := by
 obtain ⟨hc, h⟩ := Sp.need_some h; have h1 := hc; exact bucket_Take.calls 1 a0_0 a0_1 a1 r1 r2 r3 w (by rw [bucket_Take.main h1]; exact h)

/-! ### guide_Used: function 82 -/
noncomputable def guide_Used.f (a0 : Int) (a1 : Int) (a2 : Int) : Option (Bool) := if (mn (mn a0 a1) a2) ≥ 0 then ((big_MulS.f a1 131072).bind fun bt391 => ((big_MulS.f a0 a2).bind fun bt394 => ((big_CmpS.f bt391.1 bt391.2.1 bt391.2.2 bt394.1 bt394.2.1 bt394.2.2).bind fun t397 => (some (decide (t397 ≥ 0)))))) else (some false)
set_option maxHeartbeats 8000000 in
set_option maxRecDepth 100000 in
theorem guide_Used.calls (a0 : Int) (a1 : Int) (a2 : Int) (r : Bool) (w : World) (h : guide_Used.f a0 a1 a2 = some r) :
  Calls Tryz.prog 82 #[.int .i64 a0, .int .i64 a1, .int .i64 a2] w fun e w' => e = .returned (.bool r) ∧ Below w.heap.size w w' := by
 have HB := Aside0.mk (Below.refl w.heap.size w); have H : (if (mn (mn a0 a1) a2) ≥ 0 then ((big_MulS.f a1 131072).bind fun bt391 => ((big_MulS.f a0 a2).bind fun bt394 => ((big_CmpS.f bt391.1 bt391.2.1 bt391.2.2 bt394.1 bt394.2.1 bt394.2.2).bind fun t397 => (some (decide (t397 ≥ 0)))))) else (some false)) = some r := h; clear h
 obtain ⟨ji4, hji4⟩ : ∃ j_ : Int, (mn a0 a1) = j_ := ⟨_, rfl⟩
 replace H : (if (mn (ji4) a2) ≥ 0 then ((big_MulS.f a1 131072).bind fun bt391 => ((big_MulS.f a0 a2).bind fun bt394 => ((big_CmpS.f bt391.1 bt391.2.1 bt391.2.2 bt394.1 bt394.2.1 bt394.2.2).bind fun t397 => (some (decide (t397 ≥ 0)))))) else (some false)) = some r := by first | (rw [hji4] at H; exact H) | (simp only [hji4] at H ⊢; exact H)
 have hji4_ : (if a1 < a0 then a1 else a0) = ji4 := hji4
 obtain ⟨ji5, hji5⟩ : ∃ j_ : Int, (mn (ji4) a2) = j_ := ⟨_, rfl⟩
 replace H : (if (ji5) ≥ 0 then ((big_MulS.f a1 131072).bind fun bt391 => ((big_MulS.f a0 a2).bind fun bt394 => ((big_CmpS.f bt391.1 bt391.2.1 bt391.2.2 bt394.1 bt394.2.1 bt394.2.2).bind fun t397 => (some (decide (t397 ≥ 0)))))) else (some false)) = some r := by first | (rw [hji5] at H; exact H) | (simp only [hji5] at H ⊢; exact H)
 have hji5_ : (if a2 < (ji4) then a2 else (ji4)) = ji5 := hji5
 by_cases c6 : (ji5) ≥ 0
 ·rw [if_pos c6] at H
  have c6b0 : decide (0 ≤ (ji5)) = true := decide_eq_true c6; clear c6; replace H := Option.bind_eq_some_iff.mp H; obtain ⟨⟨t391, t392, t393⟩, A70, H⟩ := H; replace H : ((big_MulS.f a0 a2).bind fun bt394 => ((big_CmpS.f t391 t392 t393 bt394.1 bt394.2.1 bt394.2.2).bind fun t397 => (some (decide (t397 ≥ 0))))) = some r := H; have A7 := Aside0.mk A70; clear A70; replace H := Option.bind_eq_some_iff.mp H; obtain ⟨⟨t394, t395, t396⟩, A80, H⟩ := H; replace H : ((big_CmpS.f t391 t392 t393 t394 t395 t396).bind fun t397 => (some (decide (t397 ≥ 0)))) = some r := H; have A8 := Aside0.mk A80; clear A80; replace H := Option.bind_eq_some_iff.mp H; obtain ⟨t397, A90, H⟩ := H; replace H : (some (decide (t397 ≥ 0))) = some r := H; have A9 := Aside0.mk A90; clear A90; obtain rfl := Option.some.inj H
  go_enter Tryz.func82, Tryz.ntmps82
  go_wp2_with (first | (go_at_call 131; (with_reducible refine (big_MulS.calls a1 131072 t391 t392 t393 _ A7.out).mono ?_); rintro e w10 ⟨rfl, hb⟩; replace HB := stA hb; clear hb) | (go_at_call 131; (with_reducible refine (big_MulS.calls a0 a2 t394 t395 t396 _ A8.out).mono ?_); rintro e w11 ⟨rfl, hb⟩; replace HB := stA hb; clear hb) | (go_at_call 112; (with_reducible refine (big_CmpS.calls t391 t392 t393 t394 t395 t396 t397 _ A9.out).mono ?_); rintro e w12 ⟨rfl, hb⟩; replace HB := stA hb; clear hb))
  go_ret
  exact ⟨by first | rfl | (rw [Int.tdiv_eq_ediv_of_nonneg] <;> first | rfl | assumption | omega) | (simp [errW_none, errW_some] <;> rfl) | (simp only [← hji4, ← hji5]; first | rfl | (simp [errW_none, errW_some] <;> rfl)) | (simp [*, errW_none, errW_some] <;> rfl), by repeat (first | (with_reducible first | exact HB.out | apply below_alloc | apply pw_below_drewN | apply below_drew1) | exact HB.out)⟩
 ·rw [if_neg c6] at H
  have c6b0 : decide (0 ≤ (ji5)) = false := decide_eq_false c6; clear c6; obtain rfl := Option.some.inj H
  go_enter Tryz.func82, Tryz.ntmps82
  go_wp2
  go_ret
  exact ⟨by first | rfl | (rw [Int.tdiv_eq_ediv_of_nonneg] <;> first | rfl | assumption | omega) | (simp [errW_none, errW_some] <;> rfl) | (simp only [← hji4, ← hji5]; first | rfl | (simp [errW_none, errW_some] <;> rfl)) | (simp [*, errW_none, errW_some] <;> rfl), by repeat (first | (with_reducible first | exact HB.out | apply below_alloc | apply pw_below_drewN | apply below_drew1) | exact HB.out)⟩

/-! ### guide_UsedS: pure, behind function 82 -/
section
open Go.Proofs.YtfahbgkoldoflaaGreatDoor.Sp
noncomputable def guide_UsedS.f (a : Int) (b : Int) (c : Int) : Option (Bool) := need ((I a) ∧ (I b) ∧ (I c)) (some (usedQ a b c))
theorem guide_UsedS.eq {a : Int} {b : Int} {c : Int} (h1 : I a) (h2 : I b) (h3 : I c) : guide_UsedS.f a b c = some (usedQ a b c) := need_pos ⟨h1, h2, h3⟩
theorem guide_Used.main {a : Int} {b : Int} {c : Int} (h1 : I a) (h2 : I b) (h3 : I c) : guide_Used.f a b c = some (usedQ a b c) := by
 unfold guide_Used.f usedQ
 by_cases k : 0 ≤ a ∧ 0 ≤ b ∧ 0 ≤ c
 ·have m : mn (mn a b) c ≥ 0 := by unfold mn; (repeat' split) <;> omega
  have p1 := mul_le (A := 9223372036854775807) (C := 9223372036854775807) k.1 h1.2 k.2.2 h3.2
  rw [if_pos m, if_pos k, big_MulS.eq h2 (by omega), big_MulS.eq h1 h3]
  simp only [Option.bind_some]
  rw [big_CmpS.el (by omega) (encH_U (by omega)) encL_U, val_enc]
  simp only [Option.bind_some]
  congr 1
  rw [decide_eq_decide]
  unfold cmpI
  split
  ·omega
  ·split <;> omega
 ·have m : ¬ mn (mn a b) c ≥ 0 := by unfold mn; (repeat' split) <;> omega
  rw [if_neg m, if_neg k]
end
theorem guide_UsedS.calls (a0 : Int) (a1 : Int) (a2 : Int) (r : Bool) (w : World) (h : guide_UsedS.f a0 a1 a2 = some r) :
  Calls Tryz.prog 82 #[.int .i64 a0, .int .i64 a1, .int .i64 a2] w fun e w' => e = .returned (.bool r) ∧ Below w.heap.size w w' := by
 obtain ⟨hc, h⟩ := Sp.need_some h; obtain ⟨h1, h2, h3⟩ := hc; exact guide_Used.calls a0 a1 a2 r w (by rw [guide_Used.main h1 h2 h3]; exact h)

/-! ### flight_back: function 132 -/
noncomputable def flight_back.j0 : Nat → Int → Int → Bool → Int → Int → Int → Option (Int × Int × Int × Int)
 | 0, _, _, _, _, _, _ => none
 | k + 1, x1, x2, x8, x399000, x399001, x399002 => if x8 = true then (some (x399000, x399001, x399002, 201)) else (if x1 > x399002 then (some (x399000, x399001, x399002, 202)) else (some (x399000, wrap64 (x399001 + x2), wrap64 (x399002 - x1), 0)))
noncomputable def flight_back.f (k : Nat) (a0_0 : Int) (a0_1 : Int) (a0_2 : Int) (a1 : Int) (a2 : Int) : Option (Int × Int × Int × Int) := (flight_Check.f a0_0 a0_1 a0_2).bind fun t400 => (if t400 = true then (flight_back.j0 k a1 a2 (decide (a1 < 1)) a0_0 a0_1 a0_2) else (flight_back.j0 k a1 a2 true a0_0 a0_1 a0_2))
set_option maxHeartbeats 4000000 in
set_option maxRecDepth 100000 in
theorem flight_back.calls (k : Nat) (a0_0 : Int) (a0_1 : Int) (a0_2 : Int) (a1 : Int) (a2 : Int) (r1 : Int) (r2 : Int) (r3 : Int) (r4 : Int) (w : World) (h : flight_back.f k a0_0 a0_1 a0_2 a1 a2 = some (r1, r2, r3, r4)) :
  Calls Tryz.prog 132 #[.agg #[.int .i64 a0_0, .int .i64 a0_1, .int .i64 a0_2], .int .i64 a1, .int .i64 a2] w fun e w' => e = .returned (.tuple #[.agg #[.int .i64 r1, .int .i64 r2, .int .i64 r3], .int .i64 r4]) ∧ Below w.heap.size w w' := by
  have H := Aside0.mk (Bx.start w)
  obtain ⟨t, hT, h⟩ := Option.bind_eq_some_iff.1 h
  have HC := Aside0.mk hT
  clear hT
  cases k with
  | zero => cases t <;> simp [flight_back.j0] at h
  | succ k =>
  by_cases p1 : a1 < 1 <;> by_cases p2 : a0_2 < a1 <;> cases t <;> simp [flight_back.j0, p1, p2] at h <;> obtain ⟨rfl, rfl, rfl, rfl⟩ := h
  all_goals (first | have c1 := decide_eq_false p1 | have c1 := decide_eq_true p1)
  all_goals (first | have c2 := decide_eq_false p2 | have c2 := decide_eq_true p2)
  all_goals clear p1 p2
  all_goals (go_enter Tryz.func132, Tryz.ntmps132)
  all_goals (go_wp2_with (first
    | ((with_reducible refine gate_dst (N := 3) rfl ?_); refine bxB 3 37 (.tmp 0) H ?_; clear H; intro b3 _ H)
    | ((with_reducible refine gate_dst (N := 6) rfl ?_); refine bxV 6 37 #[.int .i64 0, .int .i64 0, .int .i64 0] H (fun _ => by kernel_rfl) ?_; clear H; intro b6 _ H)
    | (refine bxR 37 3 9 0 Tryz.underlying37 H ?_)
    | (go_at_call 65; (with_reducible refine (flight_Check.calls a0_0 a0_1 a0_2 _ _ HC.out).mono ?_); rintro e wc ⟨rfl, hb⟩; replace H := Aside0.mk (H.out.below hb); clear hb)
    | (refine bxR 37 3 16 0 Tryz.underlying37 H ?_)
    | (refine bxP 37 6 16 1 H ?_; clear H; intro _ H)
    | (refine bxL 19 20 0 2 l3 H ?_)
    | (refine bxR 37 3 22 0 Tryz.underlying37 H ?_)
    | (refine bxP 37 6 22 1 H ?_; clear H; intro _ H)
    | (refine bxL 23 24 0 2 l3 H ?_)
    | (refine bxS 27 (.tmp 26) 0 2 s3 H ?_; clear H; intro _ H)
    | (refine bxL 28 29 0 1 l3 H ?_)
    | (refine bxS 32 (.tmp 31) 0 1 s3 H ?_; clear H; intro _ H)
    | (refine bxR 37 3 33 0 Tryz.underlying37 H ?_)
    | (refine bxP 37 6 33 1 H ?_; clear H; intro _ H)
    | fail))
  all_goals (refine bodyPost_ret (results_row_tmp rfl b6 37 _ _ rfl rfl (H.out.get 1 rfl) Tryz.underlying37 (by kernel_rfl)) rfl ⟨rfl, H.out.lo⟩)

/-! ### flight_Ack: function 83 -/
noncomputable def flight_Ack.f (k : Nat) (a0_0 : Int) (a0_1 : Int) (a0_2 : Int) (a1 : Int) : Option (Int × Int × Int × Int) := (flight_back.f k a0_0 a0_1 a0_2 a1 a1).bind fun bt403 => (some (bt403.1, bt403.2.1, bt403.2.2.1, bt403.2.2.2))
set_option maxHeartbeats 8000000 in
set_option maxRecDepth 100000 in
theorem flight_Ack.calls (k : Nat) (a0_0 : Int) (a0_1 : Int) (a0_2 : Int) (a1 : Int) (r1 : Int) (r2 : Int) (r3 : Int) (r4 : Int) (w : World) (h : flight_Ack.f k a0_0 a0_1 a0_2 a1 = some (r1, r2, r3, r4)) :
  Calls Tryz.prog 83 #[.agg #[.int .i64 a0_0, .int .i64 a0_1, .int .i64 a0_2], .int .i64 a1] w fun e w' => e = .returned (.tuple #[.agg #[.int .i64 r1, .int .i64 r2, .int .i64 r3], .int .i64 r4]) ∧ Below w.heap.size w w' := by
 have hu37 := Tryz.underlying37; have HB := Aside0.mk (Below.refl w.heap.size w); have H : ((flight_back.f k a0_0 a0_1 a0_2 a1 a1).bind fun bt403 => (some (bt403.1, bt403.2.1, bt403.2.2.1, bt403.2.2.2))) = some (r1, r2, r3, r4) := h; clear h; replace H := Option.bind_eq_some_iff.mp H; obtain ⟨⟨t403, t404, t405, t406⟩, A30, H⟩ := H; replace H : (some (t403, t404, t405, t406)) = some (r1, r2, r3, r4) := H; have A3 := Aside0.mk A30; clear A30; simp only [Option.some.injEq, Prod.mk.injEq] at H; obtain ⟨rfl, rfl, rfl, rfl⟩ := H
 go_enter Tryz.func83, Tryz.ntmps83
 go_wp2_with (first | ((with_reducible refine gate_dst (N := 2) rfl ?_); refine box_event ?hg (N := 2) ?hd (cs := #[.int .i64 a0_0, .int .i64 a0_1, .int .i64 a0_2]) (t := 37) ?hr ?_; (case hd => rfl); (case hg => rfl); (case hr => first | (go_simp; done) | (go_simp; rfl)); intro gb401 hg w4 hbox hb; have BK401 := Aside0.mk (hbox); obtain ⟨GW401, nHB⟩ := geA hg hb; have GE401 := GW401; replace HB := nHB; clear nHB; clear hb hbox hg) | ((with_reducible refine gate_dst (N := 4) rfl ?_); refine box_event ?hg (N := 4) ?hd (cs := #[.int .i64 0, .int .i64 0, .int .i64 0]) (t := 37) ?hr ?_; (case hd => rfl); (case hg => rfl); (case hr => first | (go_simp; done) | (go_simp; rfl)); intro gb402 hg w5 hbox hb; have BK402 := Aside0.mk (hbox); obtain ⟨GW402, nHB⟩ := geA hg hb; have GE402 := GW402; obtain ⟨NB401_402, NB402_401, nBK⟩ := nbA BK401 hg hb; replace BK401 := nBK; clear nBK; replace HB := nHB; clear nHB; clear hb hbox hg; have hnb6 := NB401_402.out; have hnc6 := NB402_401.out; have hcz7_0 := czZ BK401 0 (.int .i64 a0_0); have hcz7_1 := czZ BK401 1 (.int .i64 a0_1); have hcz7_2 := czZ BK401 2 (.int .i64 a0_2); have hfz7_0 := blk_frozen BK401.out 0; have hfz7_1 := blk_frozen BK401.out 1; have hfz7_2 := blk_frozen BK401.out 2) | ((with_reducible refine gate_callee (f := 132) rfl ?_); refine goesLA_ (some 9) rfl rfl Tryz.func132 rfl #[.agg #[.int .i64 a0_0, .int .i64 a0_1, .int .i64 a0_2], .int .i64 a1, .int .i64 a1] rfl ?_; (with_reducible refine (flight_back.calls k a0_0 a0_1 a0_2 a1 a1 t403 t404 t405 t406 _ A3.out).mono ?_); rintro e w8 ⟨rfl, hb⟩; refine ⟨_, rfl, ?_⟩; replace BK401 := bdZ BK401 hb; replace BK402 := bdZ BK402 hb; replace HB := stA hb; clear hb; have hcz9_0 := czZ BK402 0 (.int .i64 0); have hcz9_1 := czZ BK402 1 (.int .i64 0); have hcz9_2 := czZ BK402 2 (.int .i64 0); have hfz9_0 := blk_frozen BK402.out 0; have hfz9_1 := blk_frozen BK402.out 1; have hfz9_2 := blk_frozen BK402.out 2))
 refine bodyPost_ret (results_ct rfl _ _ gb402 37 #[.int .i64 t403, .int .i64 t404, .int .i64 t405] (0, 0) _ rfl (by (with_reducible repeat first | apply blk_drewN | apply blk_drew | apply blk_alloc); refine blk_put (cs := #[.int .i64 t403, .int .i64 t404, .int .i64 0]) ?_ 2 _ rfl; (with_reducible repeat first | apply blk_drewN | apply blk_drew | apply blk_alloc); refine blk_put (cs := #[.int .i64 t403, .int .i64 0, .int .i64 0]) ?_ 1 _ rfl; (with_reducible repeat first | apply blk_drewN | apply blk_drew | apply blk_alloc); refine blk_put (cs := #[.int .i64 0, .int .i64 0, .int .i64 0]) ?_ 0 _ rfl; (with_reducible repeat first | apply blk_drewN | apply blk_drew | apply blk_alloc); exact BK402.out) Tryz.underlying37 rfl (by kernel_rfl)) rfl ?_; exact ⟨by first | rfl | (rw [Int.tdiv_eq_ediv_of_nonneg] <;> first | rfl | assumption | omega) | (simp [errW_none, errW_some] <;> rfl) | (simp [*, errW_none, errW_some] <;> rfl), by repeat (first | (with_reducible first | exact HB.out | apply below_alloc | apply pw_below_drewN | apply below_drew1 | refine below_set ?_ (Aside0.out (by assumption))) | exact HB.out)⟩

/-! ### frac_Segs: function 90 -/
noncomputable def frac_Segs.f (a0 : Int) (a1 : Int) : Option (Int × Int) := (frac_FloorS.f a0 65536 a1).bind fun bt407 => (some (bt407.1, bt407.2))
set_option maxHeartbeats 8000000 in
set_option maxRecDepth 100000 in
theorem frac_Segs.calls (a0 : Int) (a1 : Int) (r1 : Int) (r2 : Int) (w : World) (h : frac_Segs.f a0 a1 = some (r1, r2)) :
  Calls Tryz.prog 90 #[.int .i64 a0, .int .i64 a1] w fun e w' => e = .returned (.tuple #[.int .i64 r1, .int .i64 r2]) ∧ Below w.heap.size w w' := by
 have HB := Aside0.mk (Below.refl w.heap.size w); have H : ((frac_FloorS.f a0 65536 a1).bind fun bt407 => (some (bt407.1, bt407.2))) = some (r1, r2) := h; clear h; replace H := Option.bind_eq_some_iff.mp H; obtain ⟨⟨t407, t408⟩, A30, H⟩ := H; replace H : (some (t407, t408)) = some (r1, r2) := H; have A3 := Aside0.mk A30; clear A30; simp only [Option.some.injEq, Prod.mk.injEq] at H; obtain ⟨rfl, rfl⟩ := H
 go_enter Tryz.func90, Tryz.ntmps90
 go_wp2_with (first | ((with_reducible refine gate_callee (f := 45) rfl ?_); refine goesLA_ (some 8) rfl rfl Tryz.func45 rfl #[.int .i64 a0, .int .i64 65536, .int .i64 a1] rfl ?_; (with_reducible refine (frac_FloorS.calls a0 65536 a1 t407 t408 _ A3.out).mono ?_); rintro e w4 ⟨rfl, hb⟩; refine ⟨_, rfl, ?_⟩; replace HB := stA hb; clear hb))
 go_ret2
 exact ⟨by first | rfl | (rw [Int.tdiv_eq_ediv_of_nonneg] <;> first | rfl | assumption | omega) | (simp [errW_none, errW_some] <;> rfl) | (simp [*, errW_none, errW_some] <;> rfl), by repeat (first | (with_reducible first | exact HB.out | apply below_alloc | apply pw_below_drewN | apply below_drew1) | exact HB.out)⟩

/-! ### frac_SegsS: pure, behind function 90 -/
noncomputable def frac_SegsS.f (a c : Int) : Option (Int × Int) := Sp.need (Sp.I a ∧ Sp.I c) (Sp.floorQ a 65536 c)
theorem frac_SegsS.eq {a c : Int} (h1 : Sp.I a) (h2 : Sp.I c) : frac_SegsS.f a c = Sp.floorQ a 65536 c := Sp.need_pos ⟨h1, h2⟩
theorem frac_SegsS.calls (a0 a1 r1 r2 : Int) (w : World) (h : frac_SegsS.f a0 a1 = some (r1, r2)) :
  Calls Tryz.prog 90 #[.int .i64 a0, .int .i64 a1] w fun e w' => e = .returned (.tuple #[.int .i64 r1, .int .i64 r2]) ∧ Below w.heap.size w w' := by
 obtain ⟨hc, h⟩ := Sp.need_some h; refine frac_Segs.calls a0 a1 r1 r2 w ?_
 unfold frac_Segs.f
 rw [frac_FloorS.eq (by omega) (by omega) (by omega), h]
 rfl

/-! ### grow_Limit: function 91 -/
noncomputable def grow_Limit.f (a0 : Int) (a1 : Int) : Option (Int) := (grow_givenS.f a0).bind fun t409 => ((grow_givenS.f a1).bind fun t410 => (some (mn t409 t410)))
set_option maxHeartbeats 8000000 in
set_option maxRecDepth 100000 in
theorem grow_Limit.calls (a0 : Int) (a1 : Int) (r : Int) (w : World) (h : grow_Limit.f a0 a1 = some r) :
  Calls Tryz.prog 91 #[.int .i64 a0, .int .i64 a1] w fun e w' => e = .returned (.int .i64 r) ∧ Below w.heap.size w w' := by
 have HB := Aside0.mk (Below.refl w.heap.size w); have H : ((grow_givenS.f a0).bind fun t409 => ((grow_givenS.f a1).bind fun t410 => (some (mn t409 t410)))) = some r := h; clear h; replace H := Option.bind_eq_some_iff.mp H; obtain ⟨t409, A30, H⟩ := H; replace H : ((grow_givenS.f a1).bind fun t410 => (some (mn t409 t410))) = some r := H; have A3 := Aside0.mk A30; clear A30; replace H := Option.bind_eq_some_iff.mp H; obtain ⟨t410, A40, H⟩ := H; replace H : (some (mn t409 t410)) = some r := H; have A4 := Aside0.mk A40; clear A40
 obtain ⟨ji5, hji5⟩ : ∃ j_ : Int, (mn t409 t410) = j_ := ⟨_, rfl⟩
 replace H : (some ji5) = some r := by first | (rw [hji5] at H; exact H) | (simp only [hji5] at H ⊢; exact H)
 (try rw [hji5] at A3)
 (try rw [hji5] at A4)
 have hji5_ : (if t410 < t409 then t410 else t409) = ji5 := hji5; obtain rfl := Option.some.inj H
 go_enter Tryz.func91, Tryz.ntmps91
 go_wp2_with (first | ((with_reducible refine gate_callee (f := 52) rfl ?_); refine goesLA_ (some 6) rfl rfl Tryz.func52 rfl #[.int .i64 a0] rfl ?_; (with_reducible refine (grow_givenS.calls a0 t409 _ A3.out).mono ?_); rintro e w6 ⟨rfl, hb⟩; refine ⟨_, rfl, ?_⟩; replace HB := stA hb; clear hb) | ((with_reducible refine gate_callee (f := 52) rfl ?_); refine goesLA_ (some 8) rfl rfl Tryz.func52 rfl #[.int .i64 a1] rfl ?_; (with_reducible refine (grow_givenS.calls a1 t410 _ A4.out).mono ?_); rintro e w7 ⟨rfl, hb⟩; refine ⟨_, rfl, ?_⟩; replace HB := stA hb; clear hb))
 go_ret
 exact ⟨by first | rfl | (rw [Int.tdiv_eq_ediv_of_nonneg] <;> first | rfl | assumption | omega) | (simp [errW_none, errW_some] <;> rfl) | (simp only [← hji5]; first | rfl | (simp [errW_none, errW_some] <;> rfl)) | (simp [*, errW_none, errW_some] <;> rfl), by repeat (first | (with_reducible first | exact HB.out | apply below_alloc | apply pw_below_drewN | apply below_drew1) | exact HB.out)⟩

/-! ### grow_LimitS: one between bounds: pure, behind function 91 -/
noncomputable def grow_LimitS.f (a b : Int) : Option Int := Sp.need (Sp.I a ∧ Sp.I b) (some (Sp.min2 (Sp.win a) (Sp.win b)))
theorem grow_LimitS.eq {a b : Int} (h1 : Sp.I a) (h2 : Sp.I b) : grow_LimitS.f a b = some (Sp.min2 (Sp.win a) (Sp.win b)) := Sp.need_pos ⟨h1, h2⟩
theorem grow_LimitS.calls (a0 a1 r : Int) (w : World) (h : grow_LimitS.f a0 a1 = some r) :
  Calls Tryz.prog 91 #[.int .i64 a0, .int .i64 a1] w fun e w' => e = .returned (.int .i64 r) ∧ Below w.heap.size w w' := by
 obtain ⟨⟨h1, h2⟩, h⟩ := Sp.need_some h; refine grow_Limit.calls a0 a1 r w ?_
 unfold grow_Limit.f
 rw [grow_givenS.eq h1, grow_givenS.eq h2, ← h]
 simp only [Option.bind_some]
 first | rfl | (congr 1; unfold mn Sp.min2; (repeat' split) <;> omega)

/-! ### hystart_state_phase: function 121 -/
noncomputable def hystart_state_phase.f (a0_0 : Int) (a0_1 : Int) (a0_2 : Int) (a0_3 : Bool) (a0_4 : Bool) (a0_5 : Int) (a0_6 : Int) : Option (Int) := if a0_4 = true then (some 3) else (if a0_3 = true then (some 2) else (some 1))
set_option maxHeartbeats 8000000 in
set_option maxRecDepth 100000 in
theorem hystart_state_phase.calls (a0_0 : Int) (a0_1 : Int) (a0_2 : Int) (a0_3 : Bool) (a0_4 : Bool) (a0_5 : Int) (a0_6 : Int) (r : Int) (w : World) (h : hystart_state_phase.f a0_0 a0_1 a0_2 a0_3 a0_4 a0_5 a0_6 = some r) :
  Calls Tryz.prog 121 #[.agg #[.int .i64 a0_0, .int .i64 a0_1, .int .i64 a0_2, .bool a0_3, .bool a0_4, .int .i64 a0_5, .int .i64 a0_6]] w fun e w' => e = .returned (.int .i64 r) ∧ Below w.heap.size w w' := by
 have hu169 := Tryz.underlying169; have HB := Aside0.mk (Below.refl w.heap.size w); have H : (if a0_4 = true then (some 3) else (if a0_3 = true then (some 2) else (some 1))) = some r := h; clear h
 by_cases c2 : a0_4 = true
 ·subst c2
  have H1 : (some 3) = some r := by rw [if_pos rfl] at H; exact H
  clear H; have H := H1; clear H1; obtain rfl := Option.some.inj H
  go_enter Tryz.func121, Tryz.ntmps121
  go_wp2_with (first | ((with_reducible refine gate_dst (N := 1) rfl ?_); refine box_event ?hg (N := 1) ?hd (cs := #[.int .i64 a0_0, .int .i64 a0_1, .int .i64 a0_2, .bool a0_3, .bool true, .int .i64 a0_5, .int .i64 a0_6]) (t := 169) ?hr ?_; (case hd => rfl); (case hg => rfl); (case hr => first | (go_simp; done) | (go_simp; rfl)); intro gb411 hg w3 hbox hb; have BK411 := Aside0.mk (hbox); obtain ⟨GW411, nHB⟩ := geA hg hb; have GE411 := GW411; replace HB := nHB; clear nHB; clear hb hbox hg; have hcz4_0 := czZ BK411 0 (.int .i64 a0_0); have hcz4_1 := czZ BK411 1 (.int .i64 a0_1); have hcz4_2 := czZ BK411 2 (.int .i64 a0_2); have hcz4_3 := czZ BK411 3 (.bool a0_3); have hcz4_4 := czZ BK411 4 (.bool true); have hcz4_5 := czZ BK411 5 (.int .i64 a0_5); have hcz4_6 := czZ BK411 6 (.int .i64 a0_6); have hfz4_0 := blk_frozen BK411.out 0; have hfz4_1 := blk_frozen BK411.out 1; have hfz4_2 := blk_frozen BK411.out 2; have hfz4_3 := blk_frozen BK411.out 3; have hfz4_4 := blk_frozen BK411.out 4; have hfz4_5 := blk_frozen BK411.out 5; have hfz4_6 := blk_frozen BK411.out 6))
  go_ret
  exact ⟨by first | rfl | (rw [Int.tdiv_eq_ediv_of_nonneg] <;> first | rfl | assumption | omega) | (simp [errW_none, errW_some] <;> rfl) | (simp [*, errW_none, errW_some] <;> rfl), by repeat (first | (with_reducible first | exact HB.out | apply below_alloc | apply pw_below_drewN | apply below_drew1 | refine below_set ?_ GE411.out) | exact HB.out)⟩
 ·replace c2 := Bool.eq_false_iff.mpr c2
  subst c2
  have H1 : (if a0_3 = true then (some 2) else (some 1)) = some r := by rw [if_neg (show ¬ (false = true) by decide)] at H; exact H
  clear H; have H := H1; clear H1
  by_cases c5 : a0_3 = true
  ·subst c5
   have H1 : (some 2) = some r := by rw [if_pos rfl] at H; exact H
   clear H; have H := H1; clear H1; obtain rfl := Option.some.inj H
   go_enter Tryz.func121, Tryz.ntmps121
   go_wp2_with (first | ((with_reducible refine gate_dst (N := 1) rfl ?_); refine box_event ?hg (N := 1) ?hd (cs := #[.int .i64 a0_0, .int .i64 a0_1, .int .i64 a0_2, .bool true, .bool false, .int .i64 a0_5, .int .i64 a0_6]) (t := 169) ?hr ?_; (case hd => rfl); (case hg => rfl); (case hr => first | (go_simp; done) | (go_simp; rfl)); intro gb411 hg w6 hbox hb; have BK411 := Aside0.mk (hbox); obtain ⟨GW411, nHB⟩ := geA hg hb; have GE411 := GW411; replace HB := nHB; clear nHB; clear hb hbox hg; have hcz7_0 := czZ BK411 0 (.int .i64 a0_0); have hcz7_1 := czZ BK411 1 (.int .i64 a0_1); have hcz7_2 := czZ BK411 2 (.int .i64 a0_2); have hcz7_3 := czZ BK411 3 (.bool true); have hcz7_4 := czZ BK411 4 (.bool false); have hcz7_5 := czZ BK411 5 (.int .i64 a0_5); have hcz7_6 := czZ BK411 6 (.int .i64 a0_6); have hfz7_0 := blk_frozen BK411.out 0; have hfz7_1 := blk_frozen BK411.out 1; have hfz7_2 := blk_frozen BK411.out 2; have hfz7_3 := blk_frozen BK411.out 3; have hfz7_4 := blk_frozen BK411.out 4; have hfz7_5 := blk_frozen BK411.out 5; have hfz7_6 := blk_frozen BK411.out 6))
   go_ret
   exact ⟨by first | rfl | (rw [Int.tdiv_eq_ediv_of_nonneg] <;> first | rfl | assumption | omega) | (simp [errW_none, errW_some] <;> rfl) | (simp [*, errW_none, errW_some] <;> rfl), by repeat (first | (with_reducible first | exact HB.out | apply below_alloc | apply pw_below_drewN | apply below_drew1 | refine below_set ?_ GE411.out) | exact HB.out)⟩
  ·replace c5 := Bool.eq_false_iff.mpr c5
   subst c5
   have H1 : (some 1) = some r := by rw [if_neg (show ¬ (false = true) by decide)] at H; exact H
   clear H; have H := H1; clear H1; obtain rfl := Option.some.inj H
   go_enter Tryz.func121, Tryz.ntmps121
   go_wp2_with (first | ((with_reducible refine gate_dst (N := 1) rfl ?_); refine box_event ?hg (N := 1) ?hd (cs := #[.int .i64 a0_0, .int .i64 a0_1, .int .i64 a0_2, .bool false, .bool false, .int .i64 a0_5, .int .i64 a0_6]) (t := 169) ?hr ?_; (case hd => rfl); (case hg => rfl); (case hr => first | (go_simp; done) | (go_simp; rfl)); intro gb411 hg w8 hbox hb; have BK411 := Aside0.mk (hbox); obtain ⟨GW411, nHB⟩ := geA hg hb; have GE411 := GW411; replace HB := nHB; clear nHB; clear hb hbox hg; have hcz9_0 := czZ BK411 0 (.int .i64 a0_0); have hcz9_1 := czZ BK411 1 (.int .i64 a0_1); have hcz9_2 := czZ BK411 2 (.int .i64 a0_2); have hcz9_3 := czZ BK411 3 (.bool false); have hcz9_4 := czZ BK411 4 (.bool false); have hcz9_5 := czZ BK411 5 (.int .i64 a0_5); have hcz9_6 := czZ BK411 6 (.int .i64 a0_6); have hfz9_0 := blk_frozen BK411.out 0; have hfz9_1 := blk_frozen BK411.out 1; have hfz9_2 := blk_frozen BK411.out 2; have hfz9_3 := blk_frozen BK411.out 3; have hfz9_4 := blk_frozen BK411.out 4; have hfz9_5 := blk_frozen BK411.out 5; have hfz9_6 := blk_frozen BK411.out 6))
   go_ret
   exact ⟨by first | rfl | (rw [Int.tdiv_eq_ediv_of_nonneg] <;> first | rfl | assumption | omega) | (simp [errW_none, errW_some] <;> rfl) | (simp [*, errW_none, errW_some] <;> rfl), by repeat (first | (with_reducible first | exact HB.out | apply below_alloc | apply pw_below_drewN | apply below_drew1 | refine below_set ?_ GE411.out) | exact HB.out)⟩

/-! ### hystart_Part: function 193 -/
noncomputable def hystart_Part.f (a0_0 : Int) (a0_1 : Int) (a0_2 : Int) (a0_3 : Bool) (a0_4 : Bool) (a0_5 : Int) (a0_6 : Int) (a1 : Int) : Option (Int) := (hystart_state_phase.f a0_0 a0_1 a0_2 a0_3 a0_4 a0_5 a0_6).bind fun t413 => (if t413 = 3 then (some 0) else (if t413 = 2 then (some (wrap64 ((mx a1 0) / 4))) else (some (mx a1 0))))
set_option maxHeartbeats 8000000 in
set_option maxRecDepth 100000 in
theorem hystart_Part.calls (a0_0 : Int) (a0_1 : Int) (a0_2 : Int) (a0_3 : Bool) (a0_4 : Bool) (a0_5 : Int) (a0_6 : Int) (a1 : Int) (r : Int) (w : World) (h : hystart_Part.f a0_0 a0_1 a0_2 a0_3 a0_4 a0_5 a0_6 a1 = some r) :
  Calls Tryz.prog 193 #[.agg #[.int .i64 a0_0, .int .i64 a0_1, .int .i64 a0_2, .bool a0_3, .bool a0_4, .int .i64 a0_5, .int .i64 a0_6], .int .i64 a1] w fun e w' => e = .returned (.int .i64 r) ∧ Below w.heap.size w w' := by
 have hu44 := Tryz.underlying44; have HB := Aside0.mk (Below.refl w.heap.size w); have H : ((hystart_state_phase.f a0_0 a0_1 a0_2 a0_3 a0_4 a0_5 a0_6).bind fun t413 => (if t413 = 3 then (some 0) else (if t413 = 2 then (some (wrap64 ((mx a1 0) / 4))) else (some (mx a1 0))))) = some r := h; clear h; replace H := Option.bind_eq_some_iff.mp H; obtain ⟨t413, A30, H⟩ := H; replace H : (if t413 = 3 then (some 0) else (if t413 = 2 then (some (wrap64 ((mx a1 0) / 4))) else (some (mx a1 0)))) = some r := H; have A3 := Aside0.mk A30; clear A30
 by_cases c4 : t413 = 3
 ·rw [if_pos c4] at H
  have c4b0 : (t413 == 3) = true := beq_iff_eq.mpr c4; have c4b1 : (t413 != 3) = false := bne_eq_false_iff_eq.mpr c4; clear c4; obtain rfl := Option.some.inj H
  go_enter Tryz.func193, Tryz.ntmps193
  go_wp2_with (first | ((with_reducible refine gate_dst (N := 2) rfl ?_); refine box_event ?hg (N := 2) ?hd (cs := #[.int .i64 a0_0, .int .i64 a0_1, .int .i64 a0_2, .bool a0_3, .bool a0_4, .int .i64 a0_5, .int .i64 a0_6]) (t := 44) ?hr ?_; (case hd => rfl); (case hg => rfl); (case hr => first | (go_simp; done) | (go_simp; rfl)); intro gb412 hg w5 hbox hb; have BK412 := Aside0.mk (hbox); obtain ⟨GW412, nHB⟩ := geA hg hb; have GE412 := GW412; replace HB := nHB; clear nHB; clear hb hbox hg; have hcz6_0 := czZ BK412 0 (.int .i64 a0_0); have hcz6_1 := czZ BK412 1 (.int .i64 a0_1); have hcz6_2 := czZ BK412 2 (.int .i64 a0_2); have hcz6_3 := czZ BK412 3 (.bool a0_3); have hcz6_4 := czZ BK412 4 (.bool a0_4); have hcz6_5 := czZ BK412 5 (.int .i64 a0_5); have hcz6_6 := czZ BK412 6 (.int .i64 a0_6); have hfz6_0 := blk_frozen BK412.out 0; have hfz6_1 := blk_frozen BK412.out 1; have hfz6_2 := blk_frozen BK412.out 2; have hfz6_3 := blk_frozen BK412.out 3; have hfz6_4 := blk_frozen BK412.out 4; have hfz6_5 := blk_frozen BK412.out 5; have hfz6_6 := blk_frozen BK412.out 6) | ((with_reducible refine gate_callee (f := 121) rfl ?_); refine goesLA_ (some 6) rfl rfl Tryz.func121 rfl #[.agg #[.int .i64 a0_0, .int .i64 a0_1, .int .i64 a0_2, .bool a0_3, .bool a0_4, .int .i64 a0_5, .int .i64 a0_6]] rfl ?_; (with_reducible refine (hystart_state_phase.calls a0_0 a0_1 a0_2 a0_3 a0_4 a0_5 a0_6 t413 _ A3.out).mono ?_); rintro e w7 ⟨rfl, hb⟩; refine ⟨_, rfl, ?_⟩; replace BK412 := bdZ BK412 hb; replace HB := stA hb; clear hb))
  go_ret
  exact ⟨by first | rfl | (rw [Int.tdiv_eq_ediv_of_nonneg] <;> first | rfl | assumption | omega) | (simp [errW_none, errW_some] <;> rfl) | (simp [*, errW_none, errW_some] <;> rfl), by repeat (first | (with_reducible first | exact HB.out | apply below_alloc | apply pw_below_drewN | apply below_drew1 | refine below_set ?_ GE412.out) | exact HB.out)⟩
 ·rw [if_neg c4] at H
  have c4b0 : (t413 == 3) = false := beq_eq_false_iff_ne.mpr c4; have c4b1 : (t413 != 3) = true := bne_iff_ne.mpr c4
  by_cases c8 : t413 = 2
  ·rw [if_pos c8] at H
   have c8b0 : (t413 == 2) = true := beq_iff_eq.mpr c8; have c8b1 : (t413 != 2) = false := bne_eq_false_iff_eq.mpr c8; clear c8
   obtain ⟨ji9, hji9⟩ : ∃ j_ : Int, (mx a1 0) = j_ := ⟨_, rfl⟩
   replace H : (some (wrap64 ((ji9) / 4))) = some r := by first | (rw [hji9] at H; exact H) | (simp only [hji9] at H ⊢; exact H)
   (try rw [hji9] at A3)
   (try (have hji9l : 0 ≤ ji9 := by (rw [← hji9]; unfold mx; (repeat' split) <;> omega)))
   (try (have hji9m : 0 ≤ ji9 := by omega))
   have hji9_ : (if a1 < 0 then 0 else a1) = ji9 := hji9; obtain rfl := Option.some.inj H
   go_enter Tryz.func193, Tryz.ntmps193
   go_wp2_with (first | ((with_reducible refine gate_dst (N := 2) rfl ?_); refine box_event ?hg (N := 2) ?hd (cs := #[.int .i64 a0_0, .int .i64 a0_1, .int .i64 a0_2, .bool a0_3, .bool a0_4, .int .i64 a0_5, .int .i64 a0_6]) (t := 44) ?hr ?_; (case hd => rfl); (case hg => rfl); (case hr => first | (go_simp; done) | (go_simp; rfl)); intro gb412 hg w10 hbox hb; have BK412 := Aside0.mk (hbox); obtain ⟨GW412, nHB⟩ := geA hg hb; have GE412 := GW412; replace HB := nHB; clear nHB; clear hb hbox hg; have hcz11_0 := czZ BK412 0 (.int .i64 a0_0); have hcz11_1 := czZ BK412 1 (.int .i64 a0_1); have hcz11_2 := czZ BK412 2 (.int .i64 a0_2); have hcz11_3 := czZ BK412 3 (.bool a0_3); have hcz11_4 := czZ BK412 4 (.bool a0_4); have hcz11_5 := czZ BK412 5 (.int .i64 a0_5); have hcz11_6 := czZ BK412 6 (.int .i64 a0_6); have hfz11_0 := blk_frozen BK412.out 0; have hfz11_1 := blk_frozen BK412.out 1; have hfz11_2 := blk_frozen BK412.out 2; have hfz11_3 := blk_frozen BK412.out 3; have hfz11_4 := blk_frozen BK412.out 4; have hfz11_5 := blk_frozen BK412.out 5; have hfz11_6 := blk_frozen BK412.out 6) | ((with_reducible refine gate_callee (f := 121) rfl ?_); refine goesLA_ (some 6) rfl rfl Tryz.func121 rfl #[.agg #[.int .i64 a0_0, .int .i64 a0_1, .int .i64 a0_2, .bool a0_3, .bool a0_4, .int .i64 a0_5, .int .i64 a0_6]] rfl ?_; (with_reducible refine (hystart_state_phase.calls a0_0 a0_1 a0_2 a0_3 a0_4 a0_5 a0_6 t413 _ A3.out).mono ?_); rintro e w12 ⟨rfl, hb⟩; refine ⟨_, rfl, ?_⟩; replace BK412 := bdZ BK412 hb; replace HB := stA hb; clear hb))
   go_ret
   exact ⟨by first | rfl | (rw [Int.tdiv_eq_ediv_of_nonneg] <;> first | rfl | assumption | omega) | (simp [errW_none, errW_some] <;> rfl) | (simp only [← hji9]; first | rfl | (simp [errW_none, errW_some] <;> rfl)) | (simp [*, errW_none, errW_some] <;> rfl), by repeat (first | (with_reducible first | exact HB.out | apply below_alloc | apply pw_below_drewN | apply below_drew1 | refine below_set ?_ GE412.out) | exact HB.out)⟩
  ·rw [if_neg c8] at H
   have c8b0 : (t413 == 2) = false := beq_eq_false_iff_ne.mpr c8; have c8b1 : (t413 != 2) = true := bne_iff_ne.mpr c8
   obtain ⟨ji13, hji13⟩ : ∃ j_ : Int, (mx a1 0) = j_ := ⟨_, rfl⟩
   replace H : (some ji13) = some r := by first | (rw [hji13] at H; exact H) | (simp only [hji13] at H ⊢; exact H)
   (try rw [hji13] at A3)
   (try (have hji13l : 0 ≤ ji13 := by (rw [← hji13]; unfold mx; (repeat' split) <;> omega)))
   (try (have hji13m : 0 ≤ ji13 := by omega))
   have hji13_ : (if a1 < 0 then 0 else a1) = ji13 := hji13; obtain rfl := Option.some.inj H
   go_enter Tryz.func193, Tryz.ntmps193
   go_wp2_with (first | ((with_reducible refine gate_dst (N := 2) rfl ?_); refine box_event ?hg (N := 2) ?hd (cs := #[.int .i64 a0_0, .int .i64 a0_1, .int .i64 a0_2, .bool a0_3, .bool a0_4, .int .i64 a0_5, .int .i64 a0_6]) (t := 44) ?hr ?_; (case hd => rfl); (case hg => rfl); (case hr => first | (go_simp; done) | (go_simp; rfl)); intro gb412 hg w14 hbox hb; have BK412 := Aside0.mk (hbox); obtain ⟨GW412, nHB⟩ := geA hg hb; have GE412 := GW412; replace HB := nHB; clear nHB; clear hb hbox hg; have hcz15_0 := czZ BK412 0 (.int .i64 a0_0); have hcz15_1 := czZ BK412 1 (.int .i64 a0_1); have hcz15_2 := czZ BK412 2 (.int .i64 a0_2); have hcz15_3 := czZ BK412 3 (.bool a0_3); have hcz15_4 := czZ BK412 4 (.bool a0_4); have hcz15_5 := czZ BK412 5 (.int .i64 a0_5); have hcz15_6 := czZ BK412 6 (.int .i64 a0_6); have hfz15_0 := blk_frozen BK412.out 0; have hfz15_1 := blk_frozen BK412.out 1; have hfz15_2 := blk_frozen BK412.out 2; have hfz15_3 := blk_frozen BK412.out 3; have hfz15_4 := blk_frozen BK412.out 4; have hfz15_5 := blk_frozen BK412.out 5; have hfz15_6 := blk_frozen BK412.out 6) | ((with_reducible refine gate_callee (f := 121) rfl ?_); refine goesLA_ (some 6) rfl rfl Tryz.func121 rfl #[.agg #[.int .i64 a0_0, .int .i64 a0_1, .int .i64 a0_2, .bool a0_3, .bool a0_4, .int .i64 a0_5, .int .i64 a0_6]] rfl ?_; (with_reducible refine (hystart_state_phase.calls a0_0 a0_1 a0_2 a0_3 a0_4 a0_5 a0_6 t413 _ A3.out).mono ?_); rintro e w16 ⟨rfl, hb⟩; refine ⟨_, rfl, ?_⟩; replace BK412 := bdZ BK412 hb; replace HB := stA hb; clear hb))
   go_ret
   exact ⟨by first | rfl | (rw [Int.tdiv_eq_ediv_of_nonneg] <;> first | rfl | assumption | omega) | (simp [errW_none, errW_some] <;> rfl) | (simp only [← hji13]; first | rfl | (simp [errW_none, errW_some] <;> rfl)) | (simp [*, errW_none, errW_some] <;> rfl), by repeat (first | (with_reducible first | exact HB.out | apply below_alloc | apply pw_below_drewN | apply below_drew1 | refine below_set ?_ GE412.out) | exact HB.out)⟩

/-! ### grow_slow_by: function 192 -/
noncomputable def grow_slow_by.f (a0_0 : Int) (a0_1 : Int) (a0_2 : Int) (a0_3 : Bool) (a0_4 : Bool) (a0_5 : Int) (a0_6 : Int) (a1 : Int) (a2 : Int) : Option (Int) := (hystart_Part.f a0_0 a0_1 a0_2 a0_3 a0_4 a0_5 a0_6 (mn a2 524288)).bind fun t415 => (some t415)
set_option maxHeartbeats 8000000 in
set_option maxRecDepth 100000 in
theorem grow_slow_by.calls (a0_0 : Int) (a0_1 : Int) (a0_2 : Int) (a0_3 : Bool) (a0_4 : Bool) (a0_5 : Int) (a0_6 : Int) (a1 : Int) (a2 : Int) (r : Int) (w : World) (h : grow_slow_by.f a0_0 a0_1 a0_2 a0_3 a0_4 a0_5 a0_6 a1 a2 = some r) :
  Calls Tryz.prog 192 #[.agg #[.int .i64 a0_0, .int .i64 a0_1, .int .i64 a0_2, .bool a0_3, .bool a0_4, .int .i64 a0_5, .int .i64 a0_6], .int .i64 a1, .int .i64 a2] w fun e w' => e = .returned (.int .i64 r) ∧ Below w.heap.size w w' := by
 have hu190 := Tryz.underlying190; have hu44 := Tryz.underlying44; have HB := Aside0.mk (Below.refl w.heap.size w); have H : ((hystart_Part.f a0_0 a0_1 a0_2 a0_3 a0_4 a0_5 a0_6 (mn a2 524288)).bind fun t415 => (some t415)) = some r := h; clear h
 obtain ⟨ji4, hji4⟩ : ∃ j_ : Int, (mn a2 524288) = j_ := ⟨_, rfl⟩
 replace H : ((hystart_Part.f a0_0 a0_1 a0_2 a0_3 a0_4 a0_5 a0_6 (ji4)).bind fun t415 => (some t415)) = some r := by first | (rw [hji4] at H; exact H) | (simp only [hji4] at H ⊢; exact H)
 (try (have hji4h : ji4 ≤ 524288 := by (rw [← hji4]; unfold mn; (repeat' split) <;> omega)))
 (try (have hji4g : ji4 ≤ 64 := by omega))
 have hji4_ : (if 524288 < a2 then 524288 else a2) = ji4 := hji4; replace H := Option.bind_eq_some_iff.mp H; obtain ⟨t415, A50, H⟩ := H; replace H : (some t415) = some r := H; have A5 := Aside0.mk A50; clear A50; obtain rfl := Option.some.inj H
 go_enter Tryz.func192, Tryz.ntmps192
 go_wp2_with (first | ((with_reducible refine gate_dst (N := 3) rfl ?_); refine box_event ?hg (N := 3) ?hd (cs := #[.int .i64 a0_0, .int .i64 a0_1, .int .i64 a0_2, .bool a0_3, .bool a0_4, .int .i64 a0_5, .int .i64 a0_6]) (t := 190) ?hr ?_; (case hd => rfl); (case hg => rfl); (case hr => first | (go_simp; done) | (go_simp; rfl)); intro gb414 hg w6 hbox hb; have BK414 := Aside0.mk (hbox); obtain ⟨GW414, nHB⟩ := geA hg hb; have GE414 := GW414; replace HB := nHB; clear nHB; clear hb hbox hg; have hcz7_0 := czZ BK414 0 (.int .i64 a0_0); have hcz7_1 := czZ BK414 1 (.int .i64 a0_1); have hcz7_2 := czZ BK414 2 (.int .i64 a0_2); have hcz7_3 := czZ BK414 3 (.bool a0_3); have hcz7_4 := czZ BK414 4 (.bool a0_4); have hcz7_5 := czZ BK414 5 (.int .i64 a0_5); have hcz7_6 := czZ BK414 6 (.int .i64 a0_6); have hfz7_0 := blk_frozen BK414.out 0; have hfz7_1 := blk_frozen BK414.out 1; have hfz7_2 := blk_frozen BK414.out 2; have hfz7_3 := blk_frozen BK414.out 3; have hfz7_4 := blk_frozen BK414.out 4; have hfz7_5 := blk_frozen BK414.out 5; have hfz7_6 := blk_frozen BK414.out 6) | ((with_reducible refine gate_callee (f := 193) rfl ?_); refine goesL_ (some 11) rfl rfl Tryz.func193 (by kernel_rfl) rfl #[.agg #[.int .i64 a0_0, .int .i64 a0_1, .int .i64 a0_2, .bool a0_3, .bool a0_4, .int .i64 a0_5, .int .i64 a0_6], .int .i64 ji4] rfl (by (try simp only [List.map_toArray, List.map_cons, List.map_nil]); first | done | (simp only [hji4]; rfl) | rfl | (simp only [List.length_drop, List.length_take]; rfl)) ?_; (with_reducible refine (hystart_Part.calls a0_0 a0_1 a0_2 a0_3 a0_4 a0_5 a0_6 ji4 t415 _ A5.out).mono ?_); rintro e w8 ⟨rfl, hb⟩; refine ⟨_, rfl, ?_⟩; replace BK414 := bdZ BK414 hb; replace HB := stA hb; clear hb))
 go_ret
 exact ⟨by first | rfl | (rw [Int.tdiv_eq_ediv_of_nonneg] <;> first | rfl | assumption | omega) | (simp [errW_none, errW_some] <;> rfl) | (simp only [← hji4]; first | rfl | (simp [errW_none, errW_some] <;> rfl)) | (simp [*, errW_none, errW_some] <;> rfl), by repeat (first | (with_reducible first | exact HB.out | apply below_alloc | apply pw_below_drewN | apply below_drew1 | refine below_set ?_ GE414.out) | exact HB.out)⟩

/-! ### grow_Slow: function 92 -/
theorem grow_by_slow (v : Value) (w : World) : (method 329 190 v "sawtooth/grow.by").run Tryz.prog w = .ok (192, v) w := by kernel_rfl
theorem grow_is_old_slow (v : Value) (w : World) : (Instr.typeAssert (.iface 190 v) 71 73 true).run Tryz.prog w = .ok (.tuple #[.agg #[.nilIface, .int .i64 0], .bool false]) w := by kernel_rfl
theorem grow_is_calm_slow (v : Value) (w : World) : (Instr.typeAssert (.iface 190 v) 71 69 true).run Tryz.prog w = .ok (.tuple #[.agg #[.int .i64 0], .bool false]) w := by kernel_rfl
set_option maxHeartbeats 1000000 in
set_option maxRecDepth 100000 in
theorem grow_after_slow.calls (a0 a1 l0 l1 l2 : Int) (g d : Bool) (b0 b1 W T p m r : Int) (HW : Aside0 (grow_givenS.f a0 = some W)) (HT : Aside0 (safe_ClampS.f a1 0 68719476736 = some T)) (HP : Aside0 (grow_slow_by.f l0 l1 l2 g d b0 b1 W T = some p)) (HA : Aside0 (safe_Add.f W p = some m)) (HG : Aside0 (grow_givenS.f m = some r)) (w : World) :
  Calls Tryz.prog 20 #[.int .i64 a0, .int .i64 a1, .iface 190 (.agg #[.int .i64 l0, .int .i64 l1, .int .i64 l2, .bool g, .bool d, .int .i64 b0, .int .i64 b1])] w fun e w' => e = .returned (.int .i64 r) ∧ Below w.heap.size w w' := by
 have hm := grow_by_slow; have t1 := grow_is_old_slow; have t2 := grow_is_calm_slow; have hu73 := Tryz.underlying190; have hu76 := Tryz.underlying69; have hu80 := Tryz.underlying73
 go_enter Tryz.func20, Tryz.ntmps20
 go_wp2_with (first
  | (go_at_call 52; refine (grow_givenS.calls a0 W _ HW.out).mono ?_; rintro e w1 ⟨rfl, hb⟩; clear HW; have HB := Aside0.mk hb; clear hb)
  | (go_at_call 22; refine (safe_ClampS.calls a1 0 68719476736 T _ HT.out).mono ?_; rintro e w2 ⟨rfl, hb2⟩; replace HB := Aside0.mk (Go.Proofs.YtfahbgkoldoflaaGreatDoorW.PrintWords.below_then HB.out HB.out.size hb2); clear hb2)
  | (go_at_call 192; refine (grow_slow_by.calls l0 l1 l2 g d b0 b1 W T p _ HP.out).mono ?_; rintro e w3 ⟨rfl, hb3⟩; replace HB := Aside0.mk (Go.Proofs.YtfahbgkoldoflaaGreatDoorW.PrintWords.below_then HB.out HB.out.size hb3); clear hb3)
  | (go_at_call 24; refine (safe_Add.calls W p m _ HA.out).mono ?_; rintro e w4 ⟨rfl, hb4⟩; replace HB := Aside0.mk (Go.Proofs.YtfahbgkoldoflaaGreatDoorW.PrintWords.below_then HB.out HB.out.size hb4); clear hb4)
  | (go_at_call 52; refine (grow_givenS.calls m r _ HG.out).mono ?_; rintro e w5 ⟨rfl, hb5⟩; have HZ := Aside0.mk hb5; clear hb5)
  | fail)
 go_ret
 exact ⟨rfl, by first | exact below_step HB.out HZ.out | exact Go.Proofs.YtfahbgkoldoflaaGreatDoorW.PrintWords.below_then (by repeat (with_reducible first | exact HB.out | apply below_alloc | apply pw_below_drewN)) (by have := HB.out.size; simp at *; omega) HZ.out⟩
noncomputable def grow_Slow.f (a0 a1 l0 l1 l2 : Int) (g d : Bool) (b0 b1 : Int) : Option Int := Sp.need (Sp.I a0 ∧ Sp.I a1) (some (Sp.slowQ a0 a1 g d))
theorem grow_Slow.eq {a0 a1 l0 l1 l2 : Int} {g d : Bool} {b0 b1 : Int} (h1 : Sp.I a0) (h2 : Sp.I a1) : grow_Slow.f a0 a1 l0 l1 l2 g d b0 b1 = some (Sp.slowQ a0 a1 g d) := Sp.need_pos ⟨h1, h2⟩
section
open Go.Proofs.YtfahbgkoldoflaaGreatDoor.Sp
theorem grow_slow_by.part (l0 l1 l2 : Int) (g d : Bool) (b0 b1 W t : Int) : grow_slow_by.f l0 l1 l2 g d b0 b1 W (clamp t 0 68719476736) = some (partQ t g d) := by
 have b := clamp_bd (a := t) (low := 0) (high := 68719476736) (by omega)
 unfold grow_slow_by.f hystart_Part.f hystart_state_phase.f partQ
 have e : mn (clamp t 0 68719476736) 524288 = Sp.min2 (clamp t 0 68719476736) 524288 := by unfold mn Sp.min2; (repeat' split) <;> omega
 have m : 0 ≤ Sp.min2 (clamp t 0 68719476736) 524288 := by unfold Sp.min2; split <;> omega
 have m2 : Sp.min2 (clamp t 0 68719476736) 524288 ≤ 524288 := by unfold Sp.min2; split <;> omega
 rw [e]
 generalize Sp.min2 (clamp t 0 68719476736) 524288 = z at *
 have e2 : mx z 0 = z := by unfold mx; rw [if_neg (by omega)]
 rw [e2]
 cases d <;> cases g <;> simp [w64 (x := z / 4) (by omega)]
end
set_option maxHeartbeats 1000000 in
set_option maxRecDepth 100000 in
theorem grow_Slow.walk (a0 a1 l0 l1 l2 : Int) (g d : Bool) (b0 b1 W T p m r : Int) (HW : Aside0 (grow_givenS.f a0 = some W)) (HT : Aside0 (safe_ClampS.f a1 0 68719476736 = some T)) (HP : Aside0 (grow_slow_by.f l0 l1 l2 g d b0 b1 W T = some p)) (HA : Aside0 (safe_Add.f W p = some m)) (HG : Aside0 (grow_givenS.f m = some r)) (w : World) :
  Calls Tryz.prog 92 #[.int .i64 a0, .int .i64 a1, .agg #[.int .i64 l0, .int .i64 l1, .int .i64 l2, .bool g, .bool d, .int .i64 b0, .int .i64 b1]] w fun e w' => e = .returned (.int .i64 r) ∧ Below w.heap.size w w' := by
 have hu73 := Tryz.underlying190; have hu43 := Tryz.underlying44; have HB := Aside0.mk (Below.refl w.heap.size w)
 go_enter Tryz.func92, Tryz.ntmps92
 go_wp2_with (first
  | (go_at_call 20; refine (grow_after_slow.calls a0 a1 l0 l1 l2 g d b0 b1 W T p m r HW HT HP HA HG _).mono ?_; rintro e w1 ⟨rfl, hb⟩; have HZ := Aside0.mk hb; clear hb)
  | fail)
 go_ret
 exact ⟨rfl, by first | exact Go.Proofs.YtfahbgkoldoflaaGreatDoorW.PrintWords.below_then (by repeat (with_reducible first | exact HB.out | apply below_alloc | apply pw_below_drewN)) (by simp) HZ.out⟩
theorem grow_Slow.calls (a0 a1 l0 l1 l2 : Int) (g d : Bool) (b0 b1 r : Int) (w : World) (h : grow_Slow.f a0 a1 l0 l1 l2 g d b0 b1 = some r) :
  Calls Tryz.prog 92 #[.int .i64 a0, .int .i64 a1, .agg #[.int .i64 l0, .int .i64 l1, .int .i64 l2, .bool g, .bool d, .int .i64 b0, .int .i64 b1]] w fun e w' => e = .returned (.int .i64 r) ∧ Below w.heap.size w w' := by
 obtain ⟨⟨h1, h2⟩, h⟩ := Sp.need_some h; obtain rfl := Option.some.inj h; have a := Sp.win_bd a0; have b := Sp.partQ_bd a1 g d; refine grow_Slow.walk a0 a1 l0 l1 l2 g d b0 b1 (Sp.win a0) (Sp.clamp a1 0 68719476736) (Sp.partQ a1 g d) (Sp.win a0 + Sp.partQ a1 g d) _ ⟨grow_givenS.eq h1⟩ ⟨safe_ClampS.eq h2 (by omega) (by omega)⟩ ⟨grow_slow_by.part l0 l1 l2 g d b0 b1 _ a1⟩ ⟨?_⟩ ⟨?_⟩ w
 ·rw [safe_Add.eq (by omega) (by omega), Sp.near_in (by omega)]
 ·rw [grow_givenS.eq (by omega)]; rfl

/-! ### flight_Lose: function 94 -/
noncomputable def flight_Lose.f (k : Nat) (a0_0 : Int) (a0_1 : Int) (a0_2 : Int) (a1 : Int) : Option (Int × Int × Int × Int) := (flight_back.f k a0_0 a0_1 a0_2 a1 0).bind fun bt418 => (some (bt418.1, bt418.2.1, bt418.2.2.1, bt418.2.2.2))
set_option maxHeartbeats 8000000 in
set_option maxRecDepth 100000 in
theorem flight_Lose.calls (k : Nat) (a0_0 : Int) (a0_1 : Int) (a0_2 : Int) (a1 : Int) (r1 : Int) (r2 : Int) (r3 : Int) (r4 : Int) (w : World) (h : flight_Lose.f k a0_0 a0_1 a0_2 a1 = some (r1, r2, r3, r4)) :
  Calls Tryz.prog 94 #[.agg #[.int .i64 a0_0, .int .i64 a0_1, .int .i64 a0_2], .int .i64 a1] w fun e w' => e = .returned (.tuple #[.agg #[.int .i64 r1, .int .i64 r2, .int .i64 r3], .int .i64 r4]) ∧ Below w.heap.size w w' := by
 have hu37 := Tryz.underlying37; have HB := Aside0.mk (Below.refl w.heap.size w); have H : ((flight_back.f k a0_0 a0_1 a0_2 a1 0).bind fun bt418 => (some (bt418.1, bt418.2.1, bt418.2.2.1, bt418.2.2.2))) = some (r1, r2, r3, r4) := h; clear h; replace H := Option.bind_eq_some_iff.mp H; obtain ⟨⟨t418, t419, t420, t421⟩, A30, H⟩ := H; replace H : (some (t418, t419, t420, t421)) = some (r1, r2, r3, r4) := H; have A3 := Aside0.mk A30; clear A30; simp only [Option.some.injEq, Prod.mk.injEq] at H; obtain ⟨rfl, rfl, rfl, rfl⟩ := H
 go_enter Tryz.func94, Tryz.ntmps94
 go_wp2_with (first | ((with_reducible refine gate_dst (N := 2) rfl ?_); refine box_event ?hg (N := 2) ?hd (cs := #[.int .i64 a0_0, .int .i64 a0_1, .int .i64 a0_2]) (t := 37) ?hr ?_; (case hd => rfl); (case hg => rfl); (case hr => first | (go_simp; done) | (go_simp; rfl)); intro gb416 hg w4 hbox hb; have BK416 := Aside0.mk (hbox); obtain ⟨GW416, nHB⟩ := geA hg hb; have GE416 := GW416; replace HB := nHB; clear nHB; clear hb hbox hg) | ((with_reducible refine gate_dst (N := 4) rfl ?_); refine box_event ?hg (N := 4) ?hd (cs := #[.int .i64 0, .int .i64 0, .int .i64 0]) (t := 37) ?hr ?_; (case hd => rfl); (case hg => rfl); (case hr => first | (go_simp; done) | (go_simp; rfl)); intro gb417 hg w5 hbox hb; have BK417 := Aside0.mk (hbox); obtain ⟨GW417, nHB⟩ := geA hg hb; have GE417 := GW417; obtain ⟨NB416_417, NB417_416, nBK⟩ := nbA BK416 hg hb; replace BK416 := nBK; clear nBK; replace HB := nHB; clear nHB; clear hb hbox hg; have hnb6 := NB416_417.out; have hnc6 := NB417_416.out; have hcz7_0 := czZ BK416 0 (.int .i64 a0_0); have hcz7_1 := czZ BK416 1 (.int .i64 a0_1); have hcz7_2 := czZ BK416 2 (.int .i64 a0_2); have hfz7_0 := blk_frozen BK416.out 0; have hfz7_1 := blk_frozen BK416.out 1; have hfz7_2 := blk_frozen BK416.out 2) | ((with_reducible refine gate_callee (f := 132) rfl ?_); refine goesLA_ (some 8) rfl rfl Tryz.func132 rfl #[.agg #[.int .i64 a0_0, .int .i64 a0_1, .int .i64 a0_2], .int .i64 a1, .int .i64 0] rfl ?_; (with_reducible refine (flight_back.calls k a0_0 a0_1 a0_2 a1 0 t418 t419 t420 t421 _ A3.out).mono ?_); rintro e w8 ⟨rfl, hb⟩; refine ⟨_, rfl, ?_⟩; replace BK416 := bdZ BK416 hb; replace BK417 := bdZ BK417 hb; replace HB := stA hb; clear hb; have hcz9_0 := czZ BK417 0 (.int .i64 0); have hcz9_1 := czZ BK417 1 (.int .i64 0); have hcz9_2 := czZ BK417 2 (.int .i64 0); have hfz9_0 := blk_frozen BK417.out 0; have hfz9_1 := blk_frozen BK417.out 1; have hfz9_2 := blk_frozen BK417.out 2))
 refine bodyPost_ret (results_ct rfl _ _ gb417 37 #[.int .i64 t418, .int .i64 t419, .int .i64 t420] (0, 0) _ rfl (by (with_reducible repeat first | apply blk_drewN | apply blk_drew | apply blk_alloc); refine blk_put (cs := #[.int .i64 t418, .int .i64 t419, .int .i64 0]) ?_ 2 _ rfl; (with_reducible repeat first | apply blk_drewN | apply blk_drew | apply blk_alloc); refine blk_put (cs := #[.int .i64 t418, .int .i64 0, .int .i64 0]) ?_ 1 _ rfl; (with_reducible repeat first | apply blk_drewN | apply blk_drew | apply blk_alloc); refine blk_put (cs := #[.int .i64 0, .int .i64 0, .int .i64 0]) ?_ 0 _ rfl; (with_reducible repeat first | apply blk_drewN | apply blk_drew | apply blk_alloc); exact BK417.out) Tryz.underlying37 rfl (by kernel_rfl)) rfl ?_; exact ⟨by first | rfl | (rw [Int.tdiv_eq_ediv_of_nonneg] <;> first | rfl | assumption | omega) | (simp [errW_none, errW_some] <;> rfl) | (simp [*, errW_none, errW_some] <;> rfl), by repeat (first | (with_reducible first | exact HB.out | apply below_alloc | apply pw_below_drewN | apply below_drew1 | refine below_set ?_ (Aside0.out (by assumption))) | exact HB.out)⟩

/-! ### rto_within: function 144 -/
noncomputable def rto_within.f (a0 : Int) : Option (Int) := some (mn (mx a0 1) 1099511627776)
set_option maxHeartbeats 8000000 in
set_option maxRecDepth 100000 in
theorem rto_within.calls (a0 : Int) (r : Int) (w : World) (h : rto_within.f a0 = some r) :
  Calls Tryz.prog 144 #[.int .i64 a0] w fun e w' => e = .returned (.int .i64 r) ∧ Below w.heap.size w w' := by
 have HB := Aside0.mk (Below.refl w.heap.size w); have H : (some (mn (mx a0 1) 1099511627776)) = some r := h; clear h
 obtain ⟨ji2, hji2⟩ : ∃ j_ : Int, (mx a0 1) = j_ := ⟨_, rfl⟩
 replace H : (some (mn (ji2) 1099511627776)) = some r := by first | (rw [hji2] at H; exact H) | (simp only [hji2] at H ⊢; exact H)
 (try (have hji2l : 1 ≤ ji2 := by (rw [← hji2]; unfold mx; (repeat' split) <;> omega)))
 (try (have hji2m : 0 ≤ ji2 := by omega))
 have hji2_ : (if a0 < 1 then 1 else a0) = ji2 := hji2
 obtain ⟨ji3, hji3⟩ : ∃ j_ : Int, (mn (ji2) 1099511627776) = j_ := ⟨_, rfl⟩
 replace H : (some ji3) = some r := by first | (rw [hji3] at H; exact H) | (simp only [hji3] at H ⊢; exact H)
 have hji3_ : (if 1099511627776 < (ji2) then 1099511627776 else (ji2)) = ji3 := hji3; obtain rfl := Option.some.inj H
 go_enter Tryz.func144, Tryz.ntmps144
 go_wp2
 go_ret
 exact ⟨by first | rfl | (rw [Int.tdiv_eq_ediv_of_nonneg] <;> first | rfl | assumption | omega) | (simp [errW_none, errW_some] <;> rfl) | (simp only [← hji2, ← hji3]; first | rfl | (simp [errW_none, errW_some] <;> rfl)) | (simp [*, errW_none, errW_some] <;> rfl), by repeat (first | (with_reducible first | exact HB.out | apply below_alloc | apply pw_below_drewN | apply below_drew1) | exact HB.out)⟩

end Go.Proofs.YtfahbgkoldoflaaGreatDoor.Px
