/- Printed by a program of this session (wip/tool/px.py), over the kit's print: for each Go function a Lean function, and the proof that the machine's call answers as that function says. Conditions: none beside what the theorems state. -/
import Derived.Test.YtidpdaiolkcgnaaPx0
import Derived.Test.YtidpdaiolkcgnaaPx27
import Derived.Test.YtidpdaiolkcgnaaPx31
import Derived.Test.YtidpdaiolkcgnaaSpec
namespace Go.Proofs.Ytidpdaiolkcgnaa.Px
open Go.RowKit Go.Proofs.YtidpdaiolkcgnaaW.PrintWords Go.Proofs.YtidpdaiolkcgnaaW.PrintLast Go.Proofs.YtidpdaiolkcgnaaW.PrintMore
attribute [local go_sem] max2_int min2_int max_two min_two max_three min_three max_four min_four   -- for this text's walks alone
set_option linter.unusedVariables false
set_option linter.unusedSimpArgs false

/-! ### sawtoothref18_Take: function 13 -/
noncomputable def sawtoothref18_Take.j0 : Nat → Int → Bool → Int → Int → Option (Int × Int × Int)
 | 0, _, _, _, _ => none
 | k + 1, x1, x14, x323000, x323001 => if x14 = true then (some (x323000, x323001, 201)) else ((sawtoothref18_BytesS.f x323000 x323001).bind fun t325 => (if t325 < x1 then (some (x323000, x323001, 203)) else (some (x323000, wrap64 (x323001 - (wrap64 (1000000 * x1))), 0))))
noncomputable def sawtoothref18_Take.f (k : Nat) (a0_0 : Int) (a0_1 : Int) (a1 : Int) : Option (Int × Int × Int) := (sawtoothref18_CheckS.f a0_0 a0_1).bind fun t324 => (if t324 = true then (sawtoothref18_Take.j0 k a1 (decide (a1 < 1)) a0_0 a0_1) else (sawtoothref18_Take.j0 k a1 true a0_0 a0_1))
theorem sawtoothref18_Take.mono_l : ∀ k, (∀ y0 y1 y2 y3, LeO (sawtoothref18_Take.j0 k y0 y1 y2 y3) (sawtoothref18_Take.j0 (k + 1) y0 y1 y2 y3))
 | 0 => fun _ _ _ _ r h => by simp [sawtoothref18_Take.j0] at h
 | k + 1 => by
  have ih0 := sawtoothref18_Take.mono_l k
  ·intro y0 y1 y2 y3
   unfold sawtoothref18_Take.j0
   repeat' first
   | (with_reducible exact ih0 _ _ _ _)
   | (with_reducible exact LeO.refl _)
   | (with_reducible exact LeO.none _)
   | (with_reducible refine LeO.ite ?_ ?_)
   | (with_reducible refine LeO.bind ?_ (fun _ => ?_))
   | exact ih0 _ _ _ _
   | exact LeO.none _
   | refine LeO.ite ?_ ?_
   | refine LeO.bind ?_ (fun _ => ?_)
theorem sawtoothref18_Take.mono : ∀ a0 a1 a2 k, LeO (sawtoothref18_Take.f k a0 a1 a2) (sawtoothref18_Take.f (k + 1) a0 a1 a2) := by
 intro a0 a1 a2 k; have ih0 := sawtoothref18_Take.mono_l k
 unfold sawtoothref18_Take.f
 repeat' first
   | (with_reducible exact ih0 _ _ _ _)
   | (with_reducible exact LeO.refl _)
   | (with_reducible exact LeO.none _)
   | (with_reducible refine LeO.ite ?_ ?_)
   | (with_reducible refine LeO.bind ?_ (fun _ => ?_))
   | exact ih0 _ _ _ _
   | exact LeO.none _
   | refine LeO.ite ?_ ?_
   | refine LeO.bind ?_ (fun _ => ?_)
set_option maxHeartbeats 8000000 in
set_option maxRecDepth 100000 in
theorem sawtoothref18_Take.calls (k : Nat) (a0_0 : Int) (a0_1 : Int) (a1 : Int) (r1 : Int) (r2 : Int) (r3 : Int) (w : World) (h : sawtoothref18_Take.f k a0_0 a0_1 a1 = some (r1, r2, r3)) :
  Calls Try.prog 13 #[.agg #[.int .i64 a0_0, .int .i64 a0_1], .int .i64 a1] w fun e w' => e = .returned (.tuple #[.agg #[.int .i64 r1, .int .i64 r2], .int .i64 r3]) ∧ Below w.heap.size w w' := by
 have hu23 := Try.underlying23; have HB := Aside0.mk (Below.refl w.heap.size w); have H : ((sawtoothref18_CheckS.f a0_0 a0_1).bind fun t324 => (if t324 = true then (sawtoothref18_Take.j0 k a1 (decide (a1 < 1)) a0_0 a0_1) else (sawtoothref18_Take.j0 k a1 true a0_0 a0_1))) = some (r1, r2, r3) := h; clear h; replace H := Option.bind_eq_some_iff.mp H; obtain ⟨t324, A30, H⟩ := H; replace H : (if t324 = true then (sawtoothref18_Take.j0 k a1 (decide (a1 < 1)) a0_0 a0_1) else (sawtoothref18_Take.j0 k a1 true a0_0 a0_1)) = some (r1, r2, r3) := H; have A3 := Aside0.mk A30; clear A30; have HC4 := Aside0.mk H; clear H
 go_enter Try.func13, Try.ntmps13
 go_upto_region 2 with (first | ((with_reducible refine gate_dst (N := 2) rfl ?_); refine box_event ?hg (N := 2) ?hd (cs := #[.int .i64 a0_0, .int .i64 a0_1]) (t := 23) ?hr ?_; (case hd => rfl); (case hg => rfl); (case hr => first | (go_simp; done) | (go_simp; rfl)); intro gb322 hg w5 hbox hb; have BK322 := Aside0.mk (hbox); obtain ⟨GW322, nHB⟩ := geA hg hb; have GE322 := GW322; replace HB := nHB; clear nHB; clear hb hbox hg) | ((with_reducible refine gate_dst (N := 4) rfl ?_); refine box_event ?hg (N := 4) ?hd (cs := #[.int .i64 0, .int .i64 0]) (t := 23) ?hr ?_; (case hd => rfl); (case hg => rfl); (case hr => first | (go_simp; done) | (go_simp; rfl)); intro gb323 hg w6 hbox hb; have BK323 := Aside0.mk (hbox); obtain ⟨GW323, nHB⟩ := geA hg hb; have GE323 := GW323; obtain ⟨NB322_323, NB323_322, nBK⟩ := nbA BK322 hg hb; replace BK322 := nBK; clear nBK; replace HB := nHB; clear nHB; clear hb hbox hg; have hnb7 := NB322_323.out; have hnc7 := NB323_322.out; have hcz8_0 := czZ BK322 0 (.int .i64 a0_0); have hcz8_1 := czZ BK322 1 (.int .i64 a0_1); have hfz8_0 := blk_frozen BK322.out 0; have hfz8_1 := blk_frozen BK322.out 1) | ((with_reducible refine gate_callee (f := 15) rfl ?_); refine goesLA_ (some 8) rfl rfl Try.func15 rfl #[.agg #[.int .i64 a0_0, .int .i64 a0_1]] rfl ?_; (with_reducible refine (sawtoothref18_CheckS.calls a0_0 a0_1 t324 _ A3.out).mono ?_); rintro e w9 ⟨rfl, hb⟩; refine ⟨_, rfl, ?_⟩; replace BK322 := bdZ BK322 hb; replace BK323 := bdZ BK323 hb; replace HB := stA hb; clear hb))
 (try simp only [Act.put, sA, sB, sC])
 go_cut [14] (fun v14 wc => ∃ (kq : Nat) (x14_3 : Bool), v14 = .bool x14_3 ∧ Aside0 (sawtoothref18_Take.j0 kq a1 x14_3 a0_0 a0_1 = some (r1, r2, r3)) ∧ Aside0 (kq ≤ k) ∧ Aside0 (wc.heap[gb322]? = some (.cells #[.int .i64 a0_0, .int .i64 a0_1] 23 (0, 0))) ∧ Aside0 (wc.heap[gb323]? = some (.cells #[.int .i64 0, .int .i64 0] 23 (0, 0))) ∧ Aside0 (Below w.heap.size w wc))
 case first =>
  have H := HC4.out; clear HC4
  by_cases c10 : t324 = true
  ·subst c10
   have H1 : (sawtoothref18_Take.j0 k a1 (decide (a1 < 1)) a0_0 a0_1) = some (r1, r2, r3) := by rw [if_pos rfl] at H; exact H
   clear H; have H := H1; clear H1; have H' := Aside0.mk H; clear H
   go_wp2
   go_meet
   case rel => exact ⟨_, (decide (a1 < 1)), (by first | rfl | (simp; done) | (simp [*]; done)), H', ⟨by first | omega | exact Nat.le_refl _⟩, ⟨by (with_reducible repeat first | apply blk_drewN | apply blk_drew | apply blk_alloc); exact BK322.out⟩, ⟨by (with_reducible repeat first | apply blk_drewN | apply blk_drew | apply blk_alloc); exact BK323.out⟩, ⟨by repeat (first | (with_reducible first | exact HB.out | apply below_alloc | apply pw_below_drewN | apply below_drew1 | refine below_set ?_ (Aside0.out (by assumption))) | exact HB.out)⟩⟩
  ·replace c10 := Bool.eq_false_iff.mpr c10
   subst c10
   have H1 : (sawtoothref18_Take.j0 k a1 true a0_0 a0_1) = some (r1, r2, r3) := by rw [if_neg (show ¬ (false = true) by decide)] at H; exact H
   clear H; have H := H1; clear H1; have H' := Aside0.mk H; clear H
   go_wp2
   go_meet
   case rel => exact ⟨_, (true), (by first | rfl | (simp; done) | (simp [*]; done)), H', ⟨by first | omega | exact Nat.le_refl _⟩, ⟨by (with_reducible repeat first | apply blk_drewN | apply blk_drew | apply blk_alloc); exact BK322.out⟩, ⟨by (with_reducible repeat first | apply blk_drewN | apply blk_drew | apply blk_alloc); exact BK323.out⟩, ⟨by repeat (first | (with_reducible first | exact HB.out | apply below_alloc | apply pw_below_drewN | apply below_drew1 | refine below_set ?_ (Aside0.out (by assumption))) | exact HB.out)⟩⟩
 case rest =>
  clear HC4
  try clear c1
  try clear p2
  try clear c7
  try clear c10
  try clear hcz8_0
  try clear hcz8_1
  try clear hfz8_0
  try clear hfz8_1
  obtain ⟨kq, x14_3, rfl, HA, HJ3, BK322, BK323, HB⟩ := hcut
  cases kq with
  | zero => exact absurd HA.out (by simp [sawtoothref18_Take.j0])
  | succ kj3 =>
   have H := HA.out; clear HA; simp only [sawtoothref18_Take.j0] at H
   by_cases c11 : x14_3 = true
   ·subst c11
    have H1 : (some (a0_0, a0_1, 201)) = some (r1, r2, r3) := by rw [if_pos rfl] at H; exact H
    clear H; have H := H1; clear H1; simp only [Option.some.injEq, Prod.mk.injEq] at H; obtain ⟨rfl, rfl, rfl⟩ := H; have hnb12 := NB322_323.out; have hnc12 := NB323_322.out; have hcz13_0 : wc.cell? ⟨gb322, 0, none⟩ = some (.int .i64 a0_0) := (blk_cell BK322.out 0).trans rfl; have hcz13_1 : wc.cell? ⟨gb322, 1, none⟩ = some (.int .i64 a0_1) := (blk_cell BK322.out 1).trans rfl; have hfz13_0 := blk_frozen BK322.out 0; have hfz13_1 := blk_frozen BK322.out 1; have hcz14_0 : wc.cell? ⟨gb323, 0, none⟩ = some (.int .i64 0) := (blk_cell BK323.out 0).trans rfl; have hcz14_1 : wc.cell? ⟨gb323, 1, none⟩ = some (.int .i64 0) := (blk_cell BK323.out 1).trans rfl; have hfz14_0 := blk_frozen BK323.out 0; have hfz14_1 := blk_frozen BK323.out 1
    go_wp2
    refine bodyPost_ret (results_ct rfl _ _ gb323 23 #[.int .i64 a0_0, .int .i64 a0_1] (0, 0) _ rfl (by (with_reducible repeat first | apply blk_drewN | apply blk_drew | apply blk_alloc); refine blk_put (cs := #[.int .i64 a0_0, .int .i64 0]) ?_ 1 _ rfl; (with_reducible repeat first | apply blk_drewN | apply blk_drew | apply blk_alloc); refine blk_put (cs := #[.int .i64 0, .int .i64 0]) ?_ 0 _ rfl; (with_reducible repeat first | apply blk_drewN | apply blk_drew | apply blk_alloc); exact BK323.out) Try.underlying23 rfl (by kernel_rfl)) rfl ?_; exact ⟨by first | rfl | (simp [errW_none, errW_some] <;> rfl) | (simp [*, errW_none, errW_some] <;> rfl), by repeat (first | (with_reducible first | exact HB.out | apply below_alloc | apply pw_below_drewN | apply below_drew1 | refine below_set ?_ (Aside0.out (by assumption))) | exact HB.out)⟩
   ·replace c11 := Bool.eq_false_iff.mpr c11
    subst c11
    have H1 : ((sawtoothref18_BytesS.f a0_0 a0_1).bind fun t325 => (if t325 < a1 then (some (a0_0, a0_1, 203)) else (some (a0_0, wrap64 (a0_1 - (wrap64 (1000000 * a1))), 0)))) = some (r1, r2, r3) := by rw [if_neg (show ¬ (false = true) by decide)] at H; exact H
    clear H; have H := H1; clear H1; replace H := Option.bind_eq_some_iff.mp H; obtain ⟨t325, A150, H⟩ := H; replace H : (if t325 < a1 then (some (a0_0, a0_1, 203)) else (some (a0_0, wrap64 (a0_1 - (wrap64 (1000000 * a1))), 0))) = some (r1, r2, r3) := H; have A15 := Aside0.mk A150; clear A150
    by_cases c16 : t325 < a1
    ·rw [if_pos c16] at H
     have c16b0 : decide (t325 < a1) = true := decide_eq_true c16; clear c16; simp only [Option.some.injEq, Prod.mk.injEq] at H; obtain ⟨rfl, rfl, rfl⟩ := H; have hnb17 := NB322_323.out; have hnc17 := NB323_322.out; have hcz18_0 : wc.cell? ⟨gb322, 0, none⟩ = some (.int .i64 a0_0) := (blk_cell BK322.out 0).trans rfl; have hcz18_1 : wc.cell? ⟨gb322, 1, none⟩ = some (.int .i64 a0_1) := (blk_cell BK322.out 1).trans rfl; have hfz18_0 := blk_frozen BK322.out 0; have hfz18_1 := blk_frozen BK322.out 1
     go_wp2_with (first | ((with_reducible refine gate_callee (f := 19) rfl ?_); refine goesLA_ (some 17) rfl rfl Try.func19 rfl #[.agg #[.int .i64 a0_0, .int .i64 a0_1]] rfl ?_; (with_reducible refine (sawtoothref18_BytesS.calls a0_0 a0_1 t325 _ A15.out).mono ?_); rintro e w19 ⟨rfl, hb⟩; refine ⟨_, rfl, ?_⟩; replace BK322 := bdZ BK322 hb; replace BK323 := bdZ BK323 hb; replace HB := stA hb; clear hb; have hcz20_0 := czZ BK322 0 (.int .i64 a0_0); have hcz20_1 := czZ BK322 1 (.int .i64 a0_1); have hfz20_0 := blk_frozen BK322.out 0; have hfz20_1 := blk_frozen BK322.out 1; have hcz21_0 := czZ BK323 0 (.int .i64 0); have hcz21_1 := czZ BK323 1 (.int .i64 0); have hfz21_0 := blk_frozen BK323.out 0; have hfz21_1 := blk_frozen BK323.out 1))
     refine bodyPost_ret (results_ct rfl _ _ gb323 23 #[.int .i64 a0_0, .int .i64 a0_1] (0, 0) _ rfl (by (with_reducible repeat first | apply blk_drewN | apply blk_drew | apply blk_alloc); refine blk_put (cs := #[.int .i64 a0_0, .int .i64 0]) ?_ 1 _ rfl; (with_reducible repeat first | apply blk_drewN | apply blk_drew | apply blk_alloc); refine blk_put (cs := #[.int .i64 0, .int .i64 0]) ?_ 0 _ rfl; (with_reducible repeat first | apply blk_drewN | apply blk_drew | apply blk_alloc); exact BK323.out) Try.underlying23 rfl (by kernel_rfl)) rfl ?_; exact ⟨by first | rfl | (simp [errW_none, errW_some] <;> rfl) | (simp [*, errW_none, errW_some] <;> rfl), by repeat (first | (with_reducible first | exact HB.out | apply below_alloc | apply pw_below_drewN | apply below_drew1 | refine below_set ?_ (Aside0.out (by assumption))) | exact HB.out)⟩
    ·rw [if_neg c16] at H
     have c16b0 : decide (t325 < a1) = false := decide_eq_false c16; clear c16; simp only [Option.some.injEq, Prod.mk.injEq] at H; obtain ⟨rfl, rfl, rfl⟩ := H; have hnb22 := NB322_323.out; have hnc22 := NB323_322.out; have hcz23_0 : wc.cell? ⟨gb322, 0, none⟩ = some (.int .i64 a0_0) := (blk_cell BK322.out 0).trans rfl; have hcz23_1 : wc.cell? ⟨gb322, 1, none⟩ = some (.int .i64 a0_1) := (blk_cell BK322.out 1).trans rfl; have hfz23_0 := blk_frozen BK322.out 0; have hfz23_1 := blk_frozen BK322.out 1
     go_wp2_with (first | ((with_reducible refine gate_callee (f := 19) rfl ?_); refine goesLA_ (some 17) rfl rfl Try.func19 rfl #[.agg #[.int .i64 a0_0, .int .i64 a0_1]] rfl ?_; (with_reducible refine (sawtoothref18_BytesS.calls a0_0 a0_1 t325 _ A15.out).mono ?_); rintro e w24 ⟨rfl, hb⟩; refine ⟨_, rfl, ?_⟩; replace BK322 := bdZ BK322 hb; replace BK323 := bdZ BK323 hb; replace HB := stA hb; clear hb; have hcz25_0 := czZ BK322 0 (.int .i64 a0_0); have hcz25_1 := czZ BK322 1 (.int .i64 a0_1); have hfz25_0 := blk_frozen BK322.out 0; have hfz25_1 := blk_frozen BK322.out 1; have hcz26_0 := czZ BK323 0 (.int .i64 0); have hcz26_1 := czZ BK323 1 (.int .i64 0); have hfz26_0 := blk_frozen BK323.out 0; have hfz26_1 := blk_frozen BK323.out 1))
     refine bodyPost_ret (results_ct rfl _ _ gb323 23 #[.int .i64 a0_0, .int .i64 (wrap64 (a0_1 - (wrap64 (1000000 * a1))))] (0, 0) _ rfl (by (with_reducible repeat first | apply blk_drewN | apply blk_drew | apply blk_alloc); refine blk_put (cs := #[.int .i64 a0_0, .int .i64 0]) ?_ 1 _ rfl; (with_reducible repeat first | apply blk_drewN | apply blk_drew | apply blk_alloc); refine blk_put (cs := #[.int .i64 0, .int .i64 0]) ?_ 0 _ rfl; (with_reducible repeat first | apply blk_drewN | apply blk_drew | apply blk_alloc); exact BK323.out) Try.underlying23 rfl (by kernel_rfl)) rfl ?_; exact ⟨by first | rfl | (simp [errW_none, errW_some] <;> rfl) | (simp [*, errW_none, errW_some] <;> rfl), by repeat (first | (with_reducible first | exact HB.out | apply below_alloc | apply pw_below_drewN | apply below_drew1 | refine below_set ?_ (Aside0.out (by assumption))) | exact HB.out)⟩

/-! ### sawtoothref18_TakeS: pure, behind function 13 -/
section
open Go.Proofs.Ytidpdaiolkcgnaa.Sp
noncomputable def sawtoothref18_TakeS.f (t : Int) (h : Int) (n : Int) : Option (Int × Int × Int) := need (I n) (some (tkB t h n))
theorem sawtoothref18_TakeS.eq {t : Int} {h : Int} {n : Int} (h1 : I n) : sawtoothref18_TakeS.f t h n = some (tkB t h n) := need_pos h1
theorem sawtoothref18_Take.main {t : Int} {h : Int} {n : Int} (h1 : I n) : sawtoothref18_Take.f 1 t h n = some (tkB t h n) := by
 unfold sawtoothref18_Take.f
 simp only [sawtoothref18_Take.j0]
 rw [sawtoothref18_CheckS.eq, sawtoothref18_BytesS.eq]
 simp only [Option.bind_some]
 unfold tkB bytesB
 by_cases c : bOk t h = true
 ·obtain ⟨b1, b2, b3, b4⟩ := bOk_iff.1 c; simp only [if_pos c, if_pos rfl]
  by_cases n1 : n < 1
  ·rw [if_pos (decide_eq_true n1), if_pos n1]
  ·rw [if_neg (by simp; omega), if_neg n1]
   by_cases n2 : h / 1000000 < n
   ·rw [if_pos n2, if_pos (by omega)]
   ·rw [if_neg n2, if_neg (by omega), w64 (x := 1000000 * n) (by omega), w64 (by omega), Int.mul_comm 1000000 n]
 ·simp [c]
end
theorem sawtoothref18_TakeS.calls (a0_0 : Int) (a0_1 : Int) (a1 : Int) (r1 : Int) (r2 : Int) (r3 : Int) (w : World) (h : sawtoothref18_TakeS.f a0_0 a0_1 a1 = some (r1, r2, r3)) :
  Calls Try.prog 13 #[.agg #[.int .i64 a0_0, .int .i64 a0_1], .int .i64 a1] w fun e w' => e = .returned (.tuple #[.agg #[.int .i64 r1, .int .i64 r2], .int .i64 r3]) ∧ Below w.heap.size w w' := by
 obtain ⟨hc, h⟩ := Go.Proofs.Ytidpdaiolkcgnaa.Sp.need_some h; have h1 := hc; exact sawtoothref18_Take.calls 1 a0_0 a0_1 a1 r1 r2 r3 w (by rw [sawtoothref18_Take.main h1]; exact h)

/-! ### sawtoothref02_digits: function 68 -/
noncomputable def sawtoothref02_digits.f (a0_0 : Bool) (a0_1 : Int) (a0_2 : Int) : Option (Int × Int × Int × Int) := some (Int.tmod a0_2 4294967296, IntKind.u64.wrap (Int.tdiv a0_2 4294967296), Int.tmod a0_1 4294967296, IntKind.u64.wrap (Int.tdiv a0_1 4294967296))
set_option maxHeartbeats 8000000 in
set_option maxRecDepth 100000 in
theorem sawtoothref02_digits.calls (a0_0 : Bool) (a0_1 : Int) (a0_2 : Int) (r1 : Int) (r2 : Int) (r3 : Int) (r4 : Int) (w : World) (h : sawtoothref02_digits.f a0_0 a0_1 a0_2 = some (r1, r2, r3, r4)) :
  Calls Try.prog 68 #[.agg #[.bool a0_0, .int .u64 a0_1, .int .u64 a0_2]] w fun e w' => e = .returned (.agg #[.int .u64 r1, .int .u64 r2, .int .u64 r3, .int .u64 r4]) ∧ Below w.heap.size w w' := by
 have hu58 := Try.underlying58; have hu77 := Try.underlying77; have HB := Aside0.mk (Below.refl w.heap.size w); have H : (some (Int.tmod a0_2 4294967296, IntKind.u64.wrap (Int.tdiv a0_2 4294967296), Int.tmod a0_1 4294967296, IntKind.u64.wrap (Int.tdiv a0_1 4294967296))) = some (r1, r2, r3, r4) := h; clear h; simp only [Option.some.injEq, Prod.mk.injEq] at H; obtain ⟨rfl, rfl, rfl, rfl⟩ := H
 go_enter Try.func68, Try.ntmps68
 go_wp2_with (first | ((with_reducible refine gate_dst (N := 1) rfl ?_); refine box_event ?hg (N := 1) ?hd (cs := #[.bool a0_0, .int .u64 a0_1, .int .u64 a0_2]) (t := 58) ?hr ?_; (case hd => rfl); (case hg => rfl); (case hr => first | (go_simp; done) | (go_simp; rfl)); intro gb326 hg w2 hbox hb; have BK326 := Aside0.mk (hbox); obtain ⟨GW326, nHB⟩ := geA hg hb; have GE326 := GW326; replace HB := nHB; clear nHB; clear hb hbox hg) | ((with_reducible refine gate_dst (N := 2) rfl ?_); refine box_event ?hg (N := 2) ?hd (cs := #[.int .u64 0, .int .u64 0, .int .u64 0, .int .u64 0]) (t := 77) ?hr ?_; (case hd => rfl); (case hg => rfl); (case hr => first | (go_simp; done) | (go_simp; rfl)); intro gb327 hg w3 hbox hb; have BK327 := Aside0.mk (hbox); obtain ⟨GW327, nHB⟩ := geA hg hb; have GE327 := GW327; obtain ⟨NB326_327, NB327_326, nBK⟩ := nbA BK326 hg hb; replace BK326 := nBK; clear nBK; replace HB := nHB; clear nHB; clear hb hbox hg; have hnb4 := NB326_327.out; have hnc4 := NB327_326.out; have hcz5_0 := czZ BK326 0 (.bool a0_0); have hcz5_1 := czZ BK326 1 (.int .u64 a0_1); have hcz5_2 := czZ BK326 2 (.int .u64 a0_2); have hfz5_0 := blk_frozen BK326.out 0; have hfz5_1 := blk_frozen BK326.out 1; have hfz5_2 := blk_frozen BK326.out 2; have hcz6_0 := czZ BK327 0 (.int .u64 0); have hcz6_1 := czZ BK327 1 (.int .u64 0); have hcz6_2 := czZ BK327 2 (.int .u64 0); have hcz6_3 := czZ BK327 3 (.int .u64 0); have hfz6_0 := blk_frozen BK327.out 0; have hfz6_1 := blk_frozen BK327.out 1; have hfz6_2 := blk_frozen BK327.out 2; have hfz6_3 := blk_frozen BK327.out 3))
 refine bodyPost_ret (results_cell_row rfl _ _ gb327 77 #[.int .u64 (Int.tmod a0_2 4294967296), .int .u64 (IntKind.u64.wrap (Int.tdiv a0_2 4294967296)), .int .u64 (Int.tmod a0_1 4294967296), .int .u64 (IntKind.u64.wrap (Int.tdiv a0_1 4294967296))] (0, 0) _ rfl (by (with_reducible repeat first | apply blk_drewN | apply blk_drew | apply blk_alloc); refine blk_put (cs := #[.int .u64 (Int.tmod a0_2 4294967296), .int .u64 (IntKind.u64.wrap (Int.tdiv a0_2 4294967296)), .int .u64 (Int.tmod a0_1 4294967296), .int .u64 0]) ?_ 3 _ rfl; (with_reducible repeat first | apply blk_drewN | apply blk_drew | apply blk_alloc); refine blk_put (cs := #[.int .u64 (Int.tmod a0_2 4294967296), .int .u64 (IntKind.u64.wrap (Int.tdiv a0_2 4294967296)), .int .u64 0, .int .u64 0]) ?_ 2 _ rfl; (with_reducible repeat first | apply blk_drewN | apply blk_drew | apply blk_alloc); refine blk_put (cs := #[.int .u64 (Int.tmod a0_2 4294967296), .int .u64 0, .int .u64 0, .int .u64 0]) ?_ 1 _ rfl; (with_reducible repeat first | apply blk_drewN | apply blk_drew | apply blk_alloc); refine blk_put (cs := #[.int .u64 0, .int .u64 0, .int .u64 0, .int .u64 0]) ?_ 0 _ rfl; (with_reducible repeat first | apply blk_drewN | apply blk_drew | apply blk_alloc); exact BK327.out) Try.underlying77 rfl (by kernel_rfl)) rfl ?_; exact ⟨by first | rfl | (simp [errW_none, errW_some] <;> rfl) | (simp [*, errW_none, errW_some] <;> rfl), by repeat (first | (with_reducible first | exact HB.out | apply below_alloc | apply pw_below_drewN | apply below_drew1 | refine below_set ?_ (Aside0.out (by assumption))) | exact HB.out)⟩

/-! ### sawtoothref02_plus: function 69 -/
noncomputable def sawtoothref02_plus.f (a0 a1 a2 a3 b0 b1 b2 b3 : Int) : Option (Int × Int × Int × Int × Int) := Go.Proofs.Ytidpdaiolkcgnaa.Sp.need (Go.Proofs.Ytidpdaiolkcgnaa.Sp.Dg a0 ∧ Go.Proofs.Ytidpdaiolkcgnaa.Sp.Dg a1 ∧ Go.Proofs.Ytidpdaiolkcgnaa.Sp.Dg a2 ∧ Go.Proofs.Ytidpdaiolkcgnaa.Sp.Dg a3 ∧ Go.Proofs.Ytidpdaiolkcgnaa.Sp.Dg b0 ∧ Go.Proofs.Ytidpdaiolkcgnaa.Sp.Dg b1 ∧ Go.Proofs.Ytidpdaiolkcgnaa.Sp.Dg b2 ∧ Go.Proofs.Ytidpdaiolkcgnaa.Sp.Dg b3) (some ((a0 + b0) % 4294967296, (a1 + b1 + (a0 + b0) / 4294967296) % 4294967296, (a2 + b2 + (a1 + b1 + (a0 + b0) / 4294967296) / 4294967296) % 4294967296, (a3 + b3 + (a2 + b2 + (a1 + b1 + (a0 + b0) / 4294967296) / 4294967296) / 4294967296) % 4294967296, (a3 + b3 + (a2 + b2 + (a1 + b1 + (a0 + b0) / 4294967296) / 4294967296) / 4294967296) / 4294967296))
set_option maxHeartbeats 4000000 in
set_option maxRecDepth 100000 in
theorem sawtoothref02_plus.walk (a0 a1 a2 a3 b0 b1 b2 b3 s0 o0 c0 t1 s1 o1 c1 t2 s2 o2 c2 t3 s3 o3 c3 : Int) (E0 : IntKind.u64.wrap (a0 + b0) = s0) (F0 : IntKind.u64.wrap s0 = s0) (R0 : Int.tmod s0 4294967296 = o0) (Q0 : IntKind.u64.wrap (Int.tdiv s0 4294967296) = c0) (E1 : IntKind.u64.wrap (a1 + b1) = t1) (F1 : IntKind.u64.wrap (t1 + c0) = s1) (R1 : Int.tmod s1 4294967296 = o1) (Q1 : IntKind.u64.wrap (Int.tdiv s1 4294967296) = c1) (E2 : IntKind.u64.wrap (a2 + b2) = t2) (F2 : IntKind.u64.wrap (t2 + c1) = s2) (R2 : Int.tmod s2 4294967296 = o2) (Q2 : IntKind.u64.wrap (Int.tdiv s2 4294967296) = c2) (E3 : IntKind.u64.wrap (a3 + b3) = t3) (F3 : IntKind.u64.wrap (t3 + c2) = s3) (R3 : Int.tmod s3 4294967296 = o3) (Q3 : IntKind.u64.wrap (Int.tdiv s3 4294967296) = c3) (w : World) :
  Calls Try.prog 69 #[.agg #[.int .u64 a0, .int .u64 a1, .int .u64 a2, .int .u64 a3], .agg #[.int .u64 b0, .int .u64 b1, .int .u64 b2, .int .u64 b3]] w fun e w' => e = .returned (.tuple #[.agg #[.int .u64 o0, .int .u64 o1, .int .u64 o2, .int .u64 o3], .int .u64 c3]) ∧ Below w.heap.size w w' := by
 have hu69 := Try.underlying77; have HB := Aside0.mk (Below.refl w.heap.size w)
 go_enter Try.func69, Try.ntmps69
 go_wp2_with (fail)
 refine wp_loop_rounds 5 ?_
 rw [rounds_succ]
 go_wp2_with (fail)
 go_quiet (fail)
 go_wp2_with (fail)
 rw [rounds_succ]
 go_wp2_with (fail)
 go_quiet (fail)
 go_wp2_with (fail)
 rw [rounds_succ]
 go_wp2_with (fail)
 go_quiet (fail)
 go_wp2_with (fail)
 rw [rounds_succ]
 go_wp2_with (fail)
 go_quiet (fail)
 go_wp2_with (fail)
 rw [rounds_succ]
 go_wp2_with (fail)
 have eB : w.heap.size + 1 + 1 = ((w.alloc (.cells #[.int .u64 a0, .int .u64 a1, .int .u64 a2, .int .u64 a3] 77)).alloc (.cells #[.int .u64 b0, .int .u64 b1, .int .u64 b2, .int .u64 b3] 77)).heap.size := by simp
 refine bodyPost_ret (Go.Proofs.Ytidpdaiolkcgnaa.Sp.results_row_tmp rfl _ _ (w.heap.size + 1 + 1) 77 #[.int .u64 o0, .int .u64 o1, .int .u64 o2, .int .u64 o3] (0, 0) _ rfl (by
  refine blk_put (cs := #[.int .u64 o0, .int .u64 o1, .int .u64 o2, .int .u64 0]) ?_ 3 _ rfl; refine blk_put (cs := #[.int .u64 o0, .int .u64 o1, .int .u64 0, .int .u64 0]) ?_ 2 _ rfl; refine blk_put (cs := #[.int .u64 o0, .int .u64 0, .int .u64 0, .int .u64 0]) ?_ 1 _ rfl; refine blk_put (cs := #[.int .u64 0, .int .u64 0, .int .u64 0, .int .u64 0]) ?_ 0 _ rfl; (with_reducible repeat (first | refine blk_far ?_ (by simp) _ | refine blk_drewN ?_ _)); refine blk_alloc ?_ _
  rw [eB]; exact blk_new _ _) hu69 rfl (by first | rfl | kernel_rfl)) rfl ?_
 exact ⟨rfl, by repeat (with_reducible first | exact HB.out | refine below_set ?_ (by omega) | apply below_alloc | apply pw_below_drewN)⟩
theorem sawtoothref02_plus.calls (a0 a1 a2 a3 b0 b1 b2 b3 r0 r1 r2 r3 r4 : Int) (w : World) (h : sawtoothref02_plus.f a0 a1 a2 a3 b0 b1 b2 b3 = some (r0, r1, r2, r3, r4)) :
  Calls Try.prog 69 #[.agg #[.int .u64 a0, .int .u64 a1, .int .u64 a2, .int .u64 a3], .agg #[.int .u64 b0, .int .u64 b1, .int .u64 b2, .int .u64 b3]] w fun e w' => e = .returned (.tuple #[.agg #[.int .u64 r0, .int .u64 r1, .int .u64 r2, .int .u64 r3], .int .u64 r4]) ∧ Below w.heap.size w w' := by
 obtain ⟨⟨A0, A1, A2, A3, B0, B1, B2, B3⟩, h⟩ := Go.Proofs.Ytidpdaiolkcgnaa.Sp.need_some h; simp only [Option.some.injEq, Prod.mk.injEq] at h; obtain ⟨rfl, rfl, rfl, rfl, rfl⟩ := h
 have sm : ∀ {x : Int}, 0 ≤ x → x < 18446744073709551616 → IntKind.u64.wrap x = x := fun h1 h2 => Go.Proofs.Ytidpdaiolkcgnaa.Sp.u64w_in ⟨h1, h2⟩
 have tm : ∀ {x : Int}, 0 ≤ x → Int.tmod x 4294967296 = x % 4294967296 := fun h => Int.tmod_eq_emod_of_nonneg h
 have td : ∀ {x : Int}, 0 ≤ x → x < 18446744073709551616 → IntKind.u64.wrap (Int.tdiv x 4294967296) = x / 4294967296 := fun h1 h2 => by rw [Int.tdiv_eq_ediv_of_nonneg h1]; exact sm (by omega) (by omega)
 exact sawtoothref02_plus.walk (E0 := sm (by omega) (by omega)) (F0 := sm (by omega) (by omega)) (R0 := tm (by omega)) (Q0 := td (by omega) (by omega)) (E1 := sm (by omega) (by omega)) (F1 := sm (by omega) (by omega)) (R1 := tm (by omega)) (Q1 := td (by omega) (by omega)) (E2 := sm (by omega) (by omega)) (F2 := sm (by omega) (by omega)) (R2 := tm (by omega)) (Q2 := td (by omega) (by omega)) (E3 := sm (by omega) (by omega)) (F3 := sm (by omega) (by omega)) (R3 := tm (by omega)) (Q3 := td (by omega) (by omega)) (w := w)

/-! ### sawtoothref02_whole: function 70 -/
noncomputable def sawtoothref02_whole.f (a0_0 : Int) (a0_1 : Int) (a0_2 : Int) (a0_3 : Int) (a1 : Bool) : Option (Bool × Int × Int) := if a1 = true then (if (IntKind.u64.wrap ((IntKind.u64.wrap (a0_3 * 4294967296)) + a0_2)) > 0 then (some (true, IntKind.u64.wrap ((IntKind.u64.wrap (a0_3 * 4294967296)) + a0_2), IntKind.u64.wrap ((IntKind.u64.wrap (a0_1 * 4294967296)) + a0_0))) else (some (decide ((IntKind.u64.wrap ((IntKind.u64.wrap (a0_1 * 4294967296)) + a0_0)) > 0), IntKind.u64.wrap ((IntKind.u64.wrap (a0_3 * 4294967296)) + a0_2), IntKind.u64.wrap ((IntKind.u64.wrap (a0_1 * 4294967296)) + a0_0)))) else (some (false, IntKind.u64.wrap ((IntKind.u64.wrap (a0_3 * 4294967296)) + a0_2), IntKind.u64.wrap ((IntKind.u64.wrap (a0_1 * 4294967296)) + a0_0)))
set_option maxHeartbeats 8000000 in
set_option maxRecDepth 100000 in
theorem sawtoothref02_whole.calls (a0_0 : Int) (a0_1 : Int) (a0_2 : Int) (a0_3 : Int) (a1 : Bool) (r1 : Bool) (r2 : Int) (r3 : Int) (w : World) (h : sawtoothref02_whole.f a0_0 a0_1 a0_2 a0_3 a1 = some (r1, r2, r3)) :
  Calls Try.prog 70 #[.agg #[.int .u64 a0_0, .int .u64 a0_1, .int .u64 a0_2, .int .u64 a0_3], .bool a1] w fun e w' => e = .returned (.agg #[.bool r1, .int .u64 r2, .int .u64 r3]) ∧ Below w.heap.size w w' := by
 have hu77 := Try.underlying77; have hu58 := Try.underlying58; have HB := Aside0.mk (Below.refl w.heap.size w); have H : (if a1 = true then (if (IntKind.u64.wrap ((IntKind.u64.wrap (a0_3 * 4294967296)) + a0_2)) > 0 then (some (true, IntKind.u64.wrap ((IntKind.u64.wrap (a0_3 * 4294967296)) + a0_2), IntKind.u64.wrap ((IntKind.u64.wrap (a0_1 * 4294967296)) + a0_0))) else (some (decide ((IntKind.u64.wrap ((IntKind.u64.wrap (a0_1 * 4294967296)) + a0_0)) > 0), IntKind.u64.wrap ((IntKind.u64.wrap (a0_3 * 4294967296)) + a0_2), IntKind.u64.wrap ((IntKind.u64.wrap (a0_1 * 4294967296)) + a0_0)))) else (some (false, IntKind.u64.wrap ((IntKind.u64.wrap (a0_3 * 4294967296)) + a0_2), IntKind.u64.wrap ((IntKind.u64.wrap (a0_1 * 4294967296)) + a0_0)))) = some (r1, r2, r3) := h; clear h
 by_cases c3 : a1 = true
 ·subst c3
  have H1 : (if (IntKind.u64.wrap ((IntKind.u64.wrap (a0_3 * 4294967296)) + a0_2)) > 0 then (some (true, IntKind.u64.wrap ((IntKind.u64.wrap (a0_3 * 4294967296)) + a0_2), IntKind.u64.wrap ((IntKind.u64.wrap (a0_1 * 4294967296)) + a0_0))) else (some (decide ((IntKind.u64.wrap ((IntKind.u64.wrap (a0_1 * 4294967296)) + a0_0)) > 0), IntKind.u64.wrap ((IntKind.u64.wrap (a0_3 * 4294967296)) + a0_2), IntKind.u64.wrap ((IntKind.u64.wrap (a0_1 * 4294967296)) + a0_0)))) = some (r1, r2, r3) := by rw [if_pos rfl] at H; exact H
  clear H; have H := H1; clear H1
  by_cases c4 : (IntKind.u64.wrap ((IntKind.u64.wrap (a0_3 * 4294967296)) + a0_2)) > 0
  ·rw [if_pos c4] at H
   have c4b0 : decide (0 < (IntKind.u64.wrap ((IntKind.u64.wrap (a0_3 * 4294967296)) + a0_2))) = true := decide_eq_true c4; clear c4; simp only [Option.some.injEq, Prod.mk.injEq] at H; obtain ⟨rfl, rfl, rfl⟩ := H
   go_enter Try.func70, Try.ntmps70
   go_wp2_with (first | ((with_reducible refine gate_dst (N := 2) rfl ?_); refine box_event ?hg (N := 2) ?hd (cs := #[.int .u64 a0_0, .int .u64 a0_1, .int .u64 a0_2, .int .u64 a0_3]) (t := 77) ?hr ?_; (case hd => rfl); (case hg => rfl); (case hr => first | (go_simp; done) | (go_simp; rfl)); intro gb328 hg w5 hbox hb; have BK328 := Aside0.mk (hbox); obtain ⟨GW328, nHB⟩ := geA hg hb; have GE328 := GW328; replace HB := nHB; clear nHB; clear hb hbox hg) | ((with_reducible refine gate_dst (N := 4) rfl ?_); refine box_event ?hg (N := 4) ?hd (cs := #[.bool false, .int .u64 0, .int .u64 0]) (t := 58) ?hr ?_; (case hd => rfl); (case hg => rfl); (case hr => first | (go_simp; done) | (go_simp; rfl)); intro gb329 hg w6 hbox hb; have BK329 := Aside0.mk (hbox); obtain ⟨GW329, nHB⟩ := geA hg hb; have GE329 := GW329; obtain ⟨NB328_329, NB329_328, nBK⟩ := nbA BK328 hg hb; replace BK328 := nBK; clear nBK; replace HB := nHB; clear nHB; clear hb hbox hg; have hnb7 := NB328_329.out; have hnc7 := NB329_328.out; have hcz8_0 := czZ BK328 0 (.int .u64 a0_0); have hcz8_1 := czZ BK328 1 (.int .u64 a0_1); have hcz8_2 := czZ BK328 2 (.int .u64 a0_2); have hcz8_3 := czZ BK328 3 (.int .u64 a0_3); have hfz8_0 := blk_frozen BK328.out 0; have hfz8_1 := blk_frozen BK328.out 1; have hfz8_2 := blk_frozen BK328.out 2; have hfz8_3 := blk_frozen BK328.out 3) | ((with_reducible refine gate_dst (N := 5) rfl ?_); refine box_event ?hg (N := 5) ?hd (cs := #[.bool false, .int .u64 0, .int .u64 0]) (t := 58) ?hr ?_; (case hd => rfl); (case hg => rfl); (case hr => first | (go_simp; done) | (go_simp; rfl)); intro gb330 hg w9 hbox hb; have BK330 := Aside0.mk (hbox); obtain ⟨GW330, nHB⟩ := geA hg hb; have GE330 := GW330; obtain ⟨NB328_330, NB330_328, nBK⟩ := nbA BK328 hg hb; replace BK328 := nBK; clear nBK; obtain ⟨NB329_330, NB330_329, nBK⟩ := nbA BK329 hg hb; replace BK329 := nBK; clear nBK; replace HB := nHB; clear nHB; clear hb hbox hg; have hnb10 := NB330_328.out; have hnc10 := NB328_330.out; have hnb11 := NB330_329.out; have hnc11 := NB329_330.out; have hcz12_0 := czZ BK330 0 (.bool false); have hcz12_1 := czZ BK330 1 (.int .u64 0); have hcz12_2 := czZ BK330 2 (.int .u64 0); have hfz12_0 := blk_frozen BK330.out 0; have hfz12_1 := blk_frozen BK330.out 1; have hfz12_2 := blk_frozen BK330.out 2; have hcz13_0 := czZ BK329 0 (.bool false); have hcz13_1 := czZ BK329 1 (.int .u64 0); have hcz13_2 := czZ BK329 2 (.int .u64 0); have hfz13_0 := blk_frozen BK329.out 0; have hfz13_1 := blk_frozen BK329.out 1; have hfz13_2 := blk_frozen BK329.out 2))
   refine bodyPost_ret (results_cell_row rfl _ _ gb329 58 #[.bool true, .int .u64 (IntKind.u64.wrap ((IntKind.u64.wrap (a0_3 * 4294967296)) + a0_2)), .int .u64 (IntKind.u64.wrap ((IntKind.u64.wrap (a0_1 * 4294967296)) + a0_0))] (0, 0) _ rfl (by (with_reducible repeat first | apply blk_drewN | apply blk_drew | apply blk_alloc); refine blk_put (cs := #[.bool true, .int .u64 (IntKind.u64.wrap ((IntKind.u64.wrap (a0_3 * 4294967296)) + a0_2)), .int .u64 0]) ?_ 2 _ rfl; (with_reducible repeat first | apply blk_drewN | apply blk_drew | apply blk_alloc); refine blk_put (cs := #[.bool true, .int .u64 0, .int .u64 0]) ?_ 1 _ rfl; (with_reducible repeat first | apply blk_drewN | apply blk_drew | apply blk_alloc); refine blk_put (cs := #[.bool false, .int .u64 0, .int .u64 0]) ?_ 0 _ rfl; (with_reducible repeat first | apply blk_drewN | apply blk_drew | apply blk_alloc); refine blk_far ?_ NB329_330.out _; (with_reducible repeat first | apply blk_drewN | apply blk_drew | apply blk_alloc); refine blk_far ?_ NB329_330.out _; (with_reducible repeat first | apply blk_drewN | apply blk_drew | apply blk_alloc); refine blk_far ?_ NB329_330.out _; (with_reducible repeat first | apply blk_drewN | apply blk_drew | apply blk_alloc); refine blk_far ?_ NB329_330.out _; (with_reducible repeat first | apply blk_drewN | apply blk_drew | apply blk_alloc); exact BK329.out) Try.underlying58 rfl (by kernel_rfl)) rfl ?_; exact ⟨by first | rfl | (simp [errW_none, errW_some] <;> rfl) | (simp [*, errW_none, errW_some] <;> rfl), by repeat (first | (with_reducible first | exact HB.out | apply below_alloc | apply pw_below_drewN | apply below_drew1 | refine below_set ?_ (Aside0.out (by assumption))) | exact HB.out)⟩
  ·rw [if_neg c4] at H
   have c4b0 : decide (0 < (IntKind.u64.wrap ((IntKind.u64.wrap (a0_3 * 4294967296)) + a0_2))) = false := decide_eq_false c4; clear c4; simp only [Option.some.injEq, Prod.mk.injEq] at H; obtain ⟨rfl, rfl, rfl⟩ := H
   go_enter Try.func70, Try.ntmps70
   go_wp2_with (first | ((with_reducible refine gate_dst (N := 2) rfl ?_); refine box_event ?hg (N := 2) ?hd (cs := #[.int .u64 a0_0, .int .u64 a0_1, .int .u64 a0_2, .int .u64 a0_3]) (t := 77) ?hr ?_; (case hd => rfl); (case hg => rfl); (case hr => first | (go_simp; done) | (go_simp; rfl)); intro gb328 hg w14 hbox hb; have BK328 := Aside0.mk (hbox); obtain ⟨GW328, nHB⟩ := geA hg hb; have GE328 := GW328; replace HB := nHB; clear nHB; clear hb hbox hg) | ((with_reducible refine gate_dst (N := 4) rfl ?_); refine box_event ?hg (N := 4) ?hd (cs := #[.bool false, .int .u64 0, .int .u64 0]) (t := 58) ?hr ?_; (case hd => rfl); (case hg => rfl); (case hr => first | (go_simp; done) | (go_simp; rfl)); intro gb329 hg w15 hbox hb; have BK329 := Aside0.mk (hbox); obtain ⟨GW329, nHB⟩ := geA hg hb; have GE329 := GW329; obtain ⟨NB328_329, NB329_328, nBK⟩ := nbA BK328 hg hb; replace BK328 := nBK; clear nBK; replace HB := nHB; clear nHB; clear hb hbox hg; have hnb16 := NB328_329.out; have hnc16 := NB329_328.out; have hcz17_0 := czZ BK328 0 (.int .u64 a0_0); have hcz17_1 := czZ BK328 1 (.int .u64 a0_1); have hcz17_2 := czZ BK328 2 (.int .u64 a0_2); have hcz17_3 := czZ BK328 3 (.int .u64 a0_3); have hfz17_0 := blk_frozen BK328.out 0; have hfz17_1 := blk_frozen BK328.out 1; have hfz17_2 := blk_frozen BK328.out 2; have hfz17_3 := blk_frozen BK328.out 3) | ((with_reducible refine gate_dst (N := 5) rfl ?_); refine box_event ?hg (N := 5) ?hd (cs := #[.bool false, .int .u64 0, .int .u64 0]) (t := 58) ?hr ?_; (case hd => rfl); (case hg => rfl); (case hr => first | (go_simp; done) | (go_simp; rfl)); intro gb330 hg w18 hbox hb; have BK330 := Aside0.mk (hbox); obtain ⟨GW330, nHB⟩ := geA hg hb; have GE330 := GW330; obtain ⟨NB328_330, NB330_328, nBK⟩ := nbA BK328 hg hb; replace BK328 := nBK; clear nBK; obtain ⟨NB329_330, NB330_329, nBK⟩ := nbA BK329 hg hb; replace BK329 := nBK; clear nBK; replace HB := nHB; clear nHB; clear hb hbox hg; have hnb19 := NB330_328.out; have hnc19 := NB328_330.out; have hnb20 := NB330_329.out; have hnc20 := NB329_330.out; have hcz21_0 := czZ BK330 0 (.bool false); have hcz21_1 := czZ BK330 1 (.int .u64 0); have hcz21_2 := czZ BK330 2 (.int .u64 0); have hfz21_0 := blk_frozen BK330.out 0; have hfz21_1 := blk_frozen BK330.out 1; have hfz21_2 := blk_frozen BK330.out 2; have hcz22_0 := czZ BK329 0 (.bool false); have hcz22_1 := czZ BK329 1 (.int .u64 0); have hcz22_2 := czZ BK329 2 (.int .u64 0); have hfz22_0 := blk_frozen BK329.out 0; have hfz22_1 := blk_frozen BK329.out 1; have hfz22_2 := blk_frozen BK329.out 2))
   refine bodyPost_ret (results_cell_row rfl _ _ gb329 58 #[.bool (decide ((IntKind.u64.wrap ((IntKind.u64.wrap (a0_1 * 4294967296)) + a0_0)) > 0)), .int .u64 (IntKind.u64.wrap ((IntKind.u64.wrap (a0_3 * 4294967296)) + a0_2)), .int .u64 (IntKind.u64.wrap ((IntKind.u64.wrap (a0_1 * 4294967296)) + a0_0))] (0, 0) _ rfl (by (with_reducible repeat first | apply blk_drewN | apply blk_drew | apply blk_alloc); refine blk_put (cs := #[.bool (decide ((IntKind.u64.wrap ((IntKind.u64.wrap (a0_1 * 4294967296)) + a0_0)) > 0)), .int .u64 (IntKind.u64.wrap ((IntKind.u64.wrap (a0_3 * 4294967296)) + a0_2)), .int .u64 0]) ?_ 2 _ rfl; (with_reducible repeat first | apply blk_drewN | apply blk_drew | apply blk_alloc); refine blk_put (cs := #[.bool (decide ((IntKind.u64.wrap ((IntKind.u64.wrap (a0_1 * 4294967296)) + a0_0)) > 0)), .int .u64 0, .int .u64 0]) ?_ 1 _ rfl; (with_reducible repeat first | apply blk_drewN | apply blk_drew | apply blk_alloc); refine blk_put (cs := #[.bool false, .int .u64 0, .int .u64 0]) ?_ 0 _ rfl; (with_reducible repeat first | apply blk_drewN | apply blk_drew | apply blk_alloc); refine blk_far ?_ NB329_330.out _; (with_reducible repeat first | apply blk_drewN | apply blk_drew | apply blk_alloc); refine blk_far ?_ NB329_330.out _; (with_reducible repeat first | apply blk_drewN | apply blk_drew | apply blk_alloc); refine blk_far ?_ NB329_330.out _; (with_reducible repeat first | apply blk_drewN | apply blk_drew | apply blk_alloc); refine blk_far ?_ NB329_330.out _; (with_reducible repeat first | apply blk_drewN | apply blk_drew | apply blk_alloc); exact BK329.out) Try.underlying58 rfl (by kernel_rfl)) rfl ?_; exact ⟨by first | rfl | (simp [errW_none, errW_some] <;> rfl) | (simp [*, errW_none, errW_some] <;> rfl), by repeat (first | (with_reducible first | exact HB.out | apply below_alloc | apply pw_below_drewN | apply below_drew1 | refine below_set ?_ (Aside0.out (by assumption))) | exact HB.out)⟩
 ·replace c3 := Bool.eq_false_iff.mpr c3
  subst c3
  have H1 : (some (false, IntKind.u64.wrap ((IntKind.u64.wrap (a0_3 * 4294967296)) + a0_2), IntKind.u64.wrap ((IntKind.u64.wrap (a0_1 * 4294967296)) + a0_0))) = some (r1, r2, r3) := by rw [if_neg (show ¬ (false = true) by decide)] at H; exact H
  clear H; have H := H1; clear H1; simp only [Option.some.injEq, Prod.mk.injEq] at H; obtain ⟨rfl, rfl, rfl⟩ := H
  go_enter Try.func70, Try.ntmps70
  go_wp2_with (first | ((with_reducible refine gate_dst (N := 2) rfl ?_); refine box_event ?hg (N := 2) ?hd (cs := #[.int .u64 a0_0, .int .u64 a0_1, .int .u64 a0_2, .int .u64 a0_3]) (t := 77) ?hr ?_; (case hd => rfl); (case hg => rfl); (case hr => first | (go_simp; done) | (go_simp; rfl)); intro gb328 hg w23 hbox hb; have BK328 := Aside0.mk (hbox); obtain ⟨GW328, nHB⟩ := geA hg hb; have GE328 := GW328; replace HB := nHB; clear nHB; clear hb hbox hg) | ((with_reducible refine gate_dst (N := 4) rfl ?_); refine box_event ?hg (N := 4) ?hd (cs := #[.bool false, .int .u64 0, .int .u64 0]) (t := 58) ?hr ?_; (case hd => rfl); (case hg => rfl); (case hr => first | (go_simp; done) | (go_simp; rfl)); intro gb329 hg w24 hbox hb; have BK329 := Aside0.mk (hbox); obtain ⟨GW329, nHB⟩ := geA hg hb; have GE329 := GW329; obtain ⟨NB328_329, NB329_328, nBK⟩ := nbA BK328 hg hb; replace BK328 := nBK; clear nBK; replace HB := nHB; clear nHB; clear hb hbox hg; have hnb25 := NB328_329.out; have hnc25 := NB329_328.out; have hcz26_0 := czZ BK328 0 (.int .u64 a0_0); have hcz26_1 := czZ BK328 1 (.int .u64 a0_1); have hcz26_2 := czZ BK328 2 (.int .u64 a0_2); have hcz26_3 := czZ BK328 3 (.int .u64 a0_3); have hfz26_0 := blk_frozen BK328.out 0; have hfz26_1 := blk_frozen BK328.out 1; have hfz26_2 := blk_frozen BK328.out 2; have hfz26_3 := blk_frozen BK328.out 3) | ((with_reducible refine gate_dst (N := 5) rfl ?_); refine box_event ?hg (N := 5) ?hd (cs := #[.bool false, .int .u64 0, .int .u64 0]) (t := 58) ?hr ?_; (case hd => rfl); (case hg => rfl); (case hr => first | (go_simp; done) | (go_simp; rfl)); intro gb330 hg w27 hbox hb; have BK330 := Aside0.mk (hbox); obtain ⟨GW330, nHB⟩ := geA hg hb; have GE330 := GW330; obtain ⟨NB328_330, NB330_328, nBK⟩ := nbA BK328 hg hb; replace BK328 := nBK; clear nBK; obtain ⟨NB329_330, NB330_329, nBK⟩ := nbA BK329 hg hb; replace BK329 := nBK; clear nBK; replace HB := nHB; clear nHB; clear hb hbox hg; have hnb28 := NB330_328.out; have hnc28 := NB328_330.out; have hnb29 := NB330_329.out; have hnc29 := NB329_330.out; have hcz30_0 := czZ BK330 0 (.bool false); have hcz30_1 := czZ BK330 1 (.int .u64 0); have hcz30_2 := czZ BK330 2 (.int .u64 0); have hfz30_0 := blk_frozen BK330.out 0; have hfz30_1 := blk_frozen BK330.out 1; have hfz30_2 := blk_frozen BK330.out 2; have hcz31_0 := czZ BK329 0 (.bool false); have hcz31_1 := czZ BK329 1 (.int .u64 0); have hcz31_2 := czZ BK329 2 (.int .u64 0); have hfz31_0 := blk_frozen BK329.out 0; have hfz31_1 := blk_frozen BK329.out 1; have hfz31_2 := blk_frozen BK329.out 2))
  refine bodyPost_ret (results_cell_row rfl _ _ gb329 58 #[.bool false, .int .u64 (IntKind.u64.wrap ((IntKind.u64.wrap (a0_3 * 4294967296)) + a0_2)), .int .u64 (IntKind.u64.wrap ((IntKind.u64.wrap (a0_1 * 4294967296)) + a0_0))] (0, 0) _ rfl (by (with_reducible repeat first | apply blk_drewN | apply blk_drew | apply blk_alloc); refine blk_put (cs := #[.bool false, .int .u64 (IntKind.u64.wrap ((IntKind.u64.wrap (a0_3 * 4294967296)) + a0_2)), .int .u64 0]) ?_ 2 _ rfl; (with_reducible repeat first | apply blk_drewN | apply blk_drew | apply blk_alloc); refine blk_put (cs := #[.bool false, .int .u64 0, .int .u64 0]) ?_ 1 _ rfl; (with_reducible repeat first | apply blk_drewN | apply blk_drew | apply blk_alloc); refine blk_put (cs := #[.bool false, .int .u64 0, .int .u64 0]) ?_ 0 _ rfl; (with_reducible repeat first | apply blk_drewN | apply blk_drew | apply blk_alloc); refine blk_far ?_ NB329_330.out _; (with_reducible repeat first | apply blk_drewN | apply blk_drew | apply blk_alloc); refine blk_far ?_ NB329_330.out _; (with_reducible repeat first | apply blk_drewN | apply blk_drew | apply blk_alloc); refine blk_far ?_ NB329_330.out _; (with_reducible repeat first | apply blk_drewN | apply blk_drew | apply blk_alloc); refine blk_far ?_ NB329_330.out _; (with_reducible repeat first | apply blk_drewN | apply blk_drew | apply blk_alloc); exact BK329.out) Try.underlying58 rfl (by kernel_rfl)) rfl ?_; exact ⟨by first | rfl | (simp [errW_none, errW_some] <;> rfl) | (simp [*, errW_none, errW_some] <;> rfl), by repeat (first | (with_reducible first | exact HB.out | apply below_alloc | apply pw_below_drewN | apply below_drew1 | refine below_set ?_ (Aside0.out (by assumption))) | exact HB.out)⟩

/-! ### sawtoothref02_wholeS: four digits and a sign: pure, behind function 70 -/
noncomputable def sawtoothref02_wholeS.f (a b c d : Int) (s : Bool) : Option (Bool × Int × Int) := Go.Proofs.Ytidpdaiolkcgnaa.Sp.need (Go.Proofs.Ytidpdaiolkcgnaa.Sp.Dg a ∧ Go.Proofs.Ytidpdaiolkcgnaa.Sp.Dg b ∧ Go.Proofs.Ytidpdaiolkcgnaa.Sp.Dg c ∧ Go.Proofs.Ytidpdaiolkcgnaa.Sp.Dg d) (some (Go.Proofs.Ytidpdaiolkcgnaa.Sp.encN (Go.Proofs.Ytidpdaiolkcgnaa.Sp.val s (d * 4294967296 + c) (b * 4294967296 + a)), Go.Proofs.Ytidpdaiolkcgnaa.Sp.encH (Go.Proofs.Ytidpdaiolkcgnaa.Sp.val s (d * 4294967296 + c) (b * 4294967296 + a)), Go.Proofs.Ytidpdaiolkcgnaa.Sp.encL (Go.Proofs.Ytidpdaiolkcgnaa.Sp.val s (d * 4294967296 + c) (b * 4294967296 + a))))
section Ref02Whole
open Go.Proofs.Ytidpdaiolkcgnaa.Sp
theorem sawtoothref02_digits.eq {n : Bool} {h l : Int} (h1 : U h) (h2 : U l) : sawtoothref02_digits.f n h l = some (l % 4294967296, l / 4294967296, h % 4294967296, h / 4294967296) := by
 have tm : ∀ {x : Int}, U x → Int.tmod x 4294967296 = x % 4294967296 := fun h => Int.tmod_eq_emod_of_nonneg h.1
 have td : ∀ {x : Int}, U x → IntKind.u64.wrap (Int.tdiv x 4294967296) = x / 4294967296 := fun h => by rw [Int.tdiv_eq_ediv_of_nonneg h.1]; exact u64w_in (by omega)
 unfold sawtoothref02_digits.f; rw [tm h2, td h2, tm h1, td h1]
theorem sawtoothref02_wholeS.eq {a b c d : Int} {s : Bool} (h1 : Dg a) (h2 : Dg b) (h3 : Dg c) (h4 : Dg d) : sawtoothref02_wholeS.f a b c d s = some (encN (val s (d * 4294967296 + c) (b * 4294967296 + a)), encH (val s (d * 4294967296 + c) (b * 4294967296 + a)), encL (val s (d * 4294967296 + c) (b * 4294967296 + a))) := need_pos ⟨h1, h2, h3, h4⟩
theorem sawtoothref02_whole.main {a b c d : Int} {s : Bool} (h1 : Dg a) (h2 : Dg b) (h3 : Dg c) (h4 : Dg d) : sawtoothref02_whole.f a b c d s = some (encN (val s (d * 4294967296 + c) (b * 4294967296 + a)), encH (val s (d * 4294967296 + c) (b * 4294967296 + a)), encL (val s (d * 4294967296 + c) (b * 4294967296 + a))) := by
 unfold sawtoothref02_whole.f
 have e1 : IntKind.u64.wrap (IntKind.u64.wrap (d * 4294967296) + c) = d * 4294967296 + c := by rw [u64w, u64w]; omega
 have e2 : IntKind.u64.wrap (IntKind.u64.wrap (b * 4294967296) + a) = b * 4294967296 + a := by rw [u64w, u64w]; omega
 rw [e1, e2]
 have u1 : U (d * 4294967296 + c) := by omega
 have u2 : U (b * 4294967296 + a) := by omega
 clear e1 e2 h1 h2 h3 h4
 generalize d * 4294967296 + c = h at *
 generalize b * 4294967296 + a = l at *
 cases s with
 | false =>
  obtain ⟨k1, k2, k3⟩ := enc_of (n := false) u1 u2 (by simp)
  rw [if_neg (by simp), k1, k2, k3]
 | true =>
  rw [if_pos rfl]
  by_cases hz : h = 0 ∧ l = 0
  ·obtain ⟨rfl, rfl⟩ := hz
   rw [val_t]; simp [encN, encH, encL]
  ·obtain ⟨k1, k2, k3⟩ := enc_of (n := true) u1 u2 (fun _ => hz)
   rw [k1, k2, k3]
   by_cases hp : h > 0
   ·rw [if_pos hp]
   ·rw [if_neg hp, decide_eq_true (by omega)]
end Ref02Whole
theorem sawtoothref02_wholeS.calls (a b c d : Int) (s : Bool) (r1 : Bool) (r2 r3 : Int) (w : World) (h : sawtoothref02_wholeS.f a b c d s = some (r1, r2, r3)) :
  Calls Try.prog 70 #[.agg #[.int .u64 a, .int .u64 b, .int .u64 c, .int .u64 d], .bool s] w fun e w' => e = .returned (.agg #[.bool r1, .int .u64 r2, .int .u64 r3]) ∧ Below w.heap.size w w' := by
 obtain ⟨hc, h⟩ := Go.Proofs.Ytidpdaiolkcgnaa.Sp.need_some h; obtain ⟨h1, h2, h3, h4⟩ := hc; exact sawtoothref02_whole.calls a b c d s r1 r2 r3 w (by rw [sawtoothref02_whole.main h1 h2 h3 h4]; exact h)

/-! ### sawtoothref02_less: function 71 -/
noncomputable def sawtoothref02_less.f (a0 a1 a2 a3 b0 b1 b2 b3 : Int) : Option Bool :=
 if a3 = b3 then (if a2 = b2 then (if a1 = b1 then (if a0 = b0 then some false else some (decide (a0 < b0))) else some (decide (a1 < b1))) else some (decide (a2 < b2))) else some (decide (a3 < b3))
set_option maxHeartbeats 4000000 in
set_option maxRecDepth 100000 in
theorem sawtoothref02_less.calls (a0 a1 a2 a3 b0 b1 b2 b3 : Int) (r : Bool) (w : World) (h : sawtoothref02_less.f a0 a1 a2 a3 b0 b1 b2 b3 = some r) :
  Calls Try.prog 71 #[.agg #[.int .u64 a0, .int .u64 a1, .int .u64 a2, .int .u64 a3], .agg #[.int .u64 b0, .int .u64 b1, .int .u64 b2, .int .u64 b3]] w fun e w' => e = .returned (.bool r) ∧ Below w.heap.size w w' := by
 have hu69 := Try.underlying77; have HB := Aside0.mk (Below.refl w.heap.size w)
 unfold sawtoothref02_less.f at h
 by_cases c3 : a3 = b3
 rotate_left
 ·rw [if_neg c3] at h
  obtain rfl := Option.some.inj h; clear h
  have d3 : (a3 != b3) = true := by simp [c3]
  clear c3
  go_enter Try.func71, Try.ntmps71
  go_wp2_with (fail)
  refine wp_loop_rounds 1 ?_
  rw [rounds_succ]
  go_wp2_with (fail)
  go_quiet (fail)
  go_wp2_with (fail)
  go_quiet (fail)
  go_wp2_with (fail)
  go_ret
  exact ⟨rfl, by repeat (first | exact HB.out | apply below_alloc | apply pw_below_drewN)⟩
 rw [if_pos c3] at h
 subst c3
 by_cases c2 : a2 = b2
 rotate_left
 ·rw [if_neg c2] at h
  obtain rfl := Option.some.inj h; clear h
  have d2 : (a2 != b2) = true := by simp [c2]
  clear c2
  go_enter Try.func71, Try.ntmps71
  go_wp2_with (fail)
  refine wp_loop_rounds 2 ?_
  rw [rounds_succ]
  go_wp2_with (fail)
  go_quiet (fail)
  go_wp2_with (fail)
  rw [rounds_succ]
  go_wp2_with (fail)
  go_quiet (fail)
  go_wp2_with (fail)
  go_quiet (fail)
  go_wp2_with (fail)
  go_ret
  exact ⟨rfl, by repeat (first | exact HB.out | apply below_alloc | apply pw_below_drewN)⟩
 rw [if_pos c2] at h
 subst c2
 by_cases c1 : a1 = b1
 rotate_left
 ·rw [if_neg c1] at h
  obtain rfl := Option.some.inj h; clear h
  have d1 : (a1 != b1) = true := by simp [c1]
  clear c1
  go_enter Try.func71, Try.ntmps71
  go_wp2_with (fail)
  refine wp_loop_rounds 3 ?_
  rw [rounds_succ]
  go_wp2_with (fail)
  go_quiet (fail)
  go_wp2_with (fail)
  rw [rounds_succ]
  go_wp2_with (fail)
  go_quiet (fail)
  go_wp2_with (fail)
  rw [rounds_succ]
  go_wp2_with (fail)
  go_quiet (fail)
  go_wp2_with (fail)
  go_quiet (fail)
  go_wp2_with (fail)
  go_ret
  exact ⟨rfl, by repeat (first | exact HB.out | apply below_alloc | apply pw_below_drewN)⟩
 rw [if_pos c1] at h
 subst c1
 by_cases c0 : a0 = b0
 rotate_left
 ·rw [if_neg c0] at h
  obtain rfl := Option.some.inj h; clear h
  have d0 : (a0 != b0) = true := by simp [c0]
  clear c0
  go_enter Try.func71, Try.ntmps71
  go_wp2_with (fail)
  refine wp_loop_rounds 4 ?_
  rw [rounds_succ]
  go_wp2_with (fail)
  go_quiet (fail)
  go_wp2_with (fail)
  rw [rounds_succ]
  go_wp2_with (fail)
  go_quiet (fail)
  go_wp2_with (fail)
  rw [rounds_succ]
  go_wp2_with (fail)
  go_quiet (fail)
  go_wp2_with (fail)
  rw [rounds_succ]
  go_wp2_with (fail)
  go_quiet (fail)
  go_wp2_with (fail)
  go_quiet (fail)
  go_wp2_with (fail)
  go_ret
  exact ⟨rfl, by repeat (first | exact HB.out | apply below_alloc | apply pw_below_drewN)⟩
 rw [if_pos c0] at h
 subst c0
 obtain rfl := Option.some.inj h; clear h
 go_enter Try.func71, Try.ntmps71
 go_wp2_with (fail)
 refine wp_loop_rounds 5 ?_
 rw [rounds_succ]
 go_wp2_with (fail)
 go_quiet (fail)
 go_wp2_with (fail)
 rw [rounds_succ]
 go_wp2_with (fail)
 go_quiet (fail)
 go_wp2_with (fail)
 rw [rounds_succ]
 go_wp2_with (fail)
 go_quiet (fail)
 go_wp2_with (fail)
 rw [rounds_succ]
 go_wp2_with (fail)
 go_quiet (fail)
 go_wp2_with (fail)
 rw [rounds_succ]
 go_wp2_with (fail)
 go_ret
 exact ⟨rfl, by repeat (first | exact HB.out | apply below_alloc | apply pw_below_drewN)⟩
section Ref02Less
open Go.Proofs.Ytidpdaiolkcgnaa.Sp
theorem sawtoothref02_less.eq {h l i k : Int} (h1 : U h) (h2 : U l) (h3 : U i) (h4 : U k) : sawtoothref02_less.f (l % 4294967296) (l / 4294967296) (h % 4294967296) (h / 4294967296) (k % 4294967296) (k / 4294967296) (i % 4294967296) (i / 4294967296) = some (decide (h * 18446744073709551616 + l < i * 18446744073709551616 + k)) := by
 unfold sawtoothref02_less.f
 split
 ·split
  ·split
   ·split
    ·rw [decide_eq_false]; omega
    ·congr 1; rw [decide_eq_decide]; omega
   ·congr 1; rw [decide_eq_decide]; omega
  ·congr 1; rw [decide_eq_decide]; omega
 ·congr 1; rw [decide_eq_decide]; omega
end Ref02Less

/-! ### sawtoothref02_minus: function 72 -/
noncomputable def sawtoothref02_minus.f (a0 a1 a2 a3 b0 b1 b2 b3 : Int) : Option (Int × Int × Int × Int) := Go.Proofs.Ytidpdaiolkcgnaa.Sp.need (Go.Proofs.Ytidpdaiolkcgnaa.Sp.Dg a0 ∧ Go.Proofs.Ytidpdaiolkcgnaa.Sp.Dg a1 ∧ Go.Proofs.Ytidpdaiolkcgnaa.Sp.Dg a2 ∧ Go.Proofs.Ytidpdaiolkcgnaa.Sp.Dg a3 ∧ Go.Proofs.Ytidpdaiolkcgnaa.Sp.Dg b0 ∧ Go.Proofs.Ytidpdaiolkcgnaa.Sp.Dg b1 ∧ Go.Proofs.Ytidpdaiolkcgnaa.Sp.Dg b2 ∧ Go.Proofs.Ytidpdaiolkcgnaa.Sp.Dg b3) (some ((4294967296 + a0 - b0) % 4294967296, (4294967296 + a1 - b1 - (1 - (4294967296 + a0 - b0) / 4294967296)) % 4294967296, (4294967296 + a2 - b2 - (1 - (4294967296 + a1 - b1 - (1 - (4294967296 + a0 - b0) / 4294967296)) / 4294967296)) % 4294967296, (4294967296 + a3 - b3 - (1 - (4294967296 + a2 - b2 - (1 - (4294967296 + a1 - b1 - (1 - (4294967296 + a0 - b0) / 4294967296)) / 4294967296)) / 4294967296)) % 4294967296))
set_option maxHeartbeats 4000000 in
set_option maxRecDepth 100000 in
theorem sawtoothref02_minus.walk (a0 a1 a2 a3 b0 b1 b2 b3 t0 u0 s0 o0 q0 c0 t1 u1 s1 o1 q1 c1 t2 u2 s2 o2 q2 c2 t3 u3 s3 o3 q3 c3 : Int) (E0 : IntKind.u64.wrap (4294967296 + a0) = t0) (G0 : IntKind.u64.wrap (t0 - b0) = u0) (F0 : IntKind.u64.wrap (u0) = s0) (R0 : Int.tmod s0 4294967296 = o0) (Q0 : IntKind.u64.wrap (Int.tdiv s0 4294967296) = q0) (Z0 : IntKind.u64.wrap (1 - q0) = c0) (E1 : IntKind.u64.wrap (4294967296 + a1) = t1) (G1 : IntKind.u64.wrap (t1 - b1) = u1) (F1 : IntKind.u64.wrap (u1 - c0) = s1) (R1 : Int.tmod s1 4294967296 = o1) (Q1 : IntKind.u64.wrap (Int.tdiv s1 4294967296) = q1) (Z1 : IntKind.u64.wrap (1 - q1) = c1) (E2 : IntKind.u64.wrap (4294967296 + a2) = t2) (G2 : IntKind.u64.wrap (t2 - b2) = u2) (F2 : IntKind.u64.wrap (u2 - c1) = s2) (R2 : Int.tmod s2 4294967296 = o2) (Q2 : IntKind.u64.wrap (Int.tdiv s2 4294967296) = q2) (Z2 : IntKind.u64.wrap (1 - q2) = c2) (E3 : IntKind.u64.wrap (4294967296 + a3) = t3) (G3 : IntKind.u64.wrap (t3 - b3) = u3) (F3 : IntKind.u64.wrap (u3 - c2) = s3) (R3 : Int.tmod s3 4294967296 = o3) (Q3 : IntKind.u64.wrap (Int.tdiv s3 4294967296) = q3) (Z3 : IntKind.u64.wrap (1 - q3) = c3) (w : World) :
  Calls Try.prog 72 #[.agg #[.int .u64 a0, .int .u64 a1, .int .u64 a2, .int .u64 a3], .agg #[.int .u64 b0, .int .u64 b1, .int .u64 b2, .int .u64 b3]] w fun e w' => e = .returned (.agg #[.int .u64 o0, .int .u64 o1, .int .u64 o2, .int .u64 o3]) ∧ Below w.heap.size w w' := by
 have hu69 := Try.underlying77; have HB := Aside0.mk (Below.refl w.heap.size w)
 go_enter Try.func72, Try.ntmps72
 go_wp2_with (fail)
 refine wp_loop_rounds 5 ?_
 rw [rounds_succ]
 go_wp2_with (fail)
 go_quiet (fail)
 go_wp2_with (fail)
 rw [rounds_succ]
 go_wp2_with (fail)
 go_quiet (fail)
 go_wp2_with (fail)
 rw [rounds_succ]
 go_wp2_with (fail)
 go_quiet (fail)
 go_wp2_with (fail)
 rw [rounds_succ]
 go_wp2_with (fail)
 go_quiet (fail)
 go_wp2_with (fail)
 rw [rounds_succ]
 go_wp2_with (fail)
 have eB : w.heap.size + 1 + 1 = ((w.alloc (.cells #[.int .u64 a0, .int .u64 a1, .int .u64 a2, .int .u64 a3] 77)).alloc (.cells #[.int .u64 b0, .int .u64 b1, .int .u64 b2, .int .u64 b3] 77)).heap.size := by simp
 refine bodyPost_ret (results_cell_row rfl _ _ (w.heap.size + 1 + 1) 77 #[.int .u64 o0, .int .u64 o1, .int .u64 o2, .int .u64 o3] (0, 0) _ rfl (by
  refine blk_put (cs := #[.int .u64 o0, .int .u64 o1, .int .u64 o2, .int .u64 0]) ?_ 3 _ rfl; refine blk_put (cs := #[.int .u64 o0, .int .u64 o1, .int .u64 0, .int .u64 0]) ?_ 2 _ rfl; refine blk_put (cs := #[.int .u64 o0, .int .u64 0, .int .u64 0, .int .u64 0]) ?_ 1 _ rfl; refine blk_put (cs := #[.int .u64 0, .int .u64 0, .int .u64 0, .int .u64 0]) ?_ 0 _ rfl; (with_reducible repeat (first | refine blk_far ?_ (by simp) _ | refine blk_drewN ?_ _)); refine blk_alloc ?_ _
  rw [eB]; exact blk_new _ _) hu69 rfl (by kernel_rfl)) rfl ?_
 exact ⟨rfl, by repeat (with_reducible first | exact HB.out | refine below_set ?_ (by omega) | apply below_alloc | apply pw_below_drewN)⟩
theorem sawtoothref02_minus.calls (a0 a1 a2 a3 b0 b1 b2 b3 r0 r1 r2 r3 : Int) (w : World) (h : sawtoothref02_minus.f a0 a1 a2 a3 b0 b1 b2 b3 = some (r0, r1, r2, r3)) :
  Calls Try.prog 72 #[.agg #[.int .u64 a0, .int .u64 a1, .int .u64 a2, .int .u64 a3], .agg #[.int .u64 b0, .int .u64 b1, .int .u64 b2, .int .u64 b3]] w fun e w' => e = .returned (.agg #[.int .u64 r0, .int .u64 r1, .int .u64 r2, .int .u64 r3]) ∧ Below w.heap.size w w' := by
 obtain ⟨⟨A0, A1, A2, A3, B0, B1, B2, B3⟩, h⟩ := Go.Proofs.Ytidpdaiolkcgnaa.Sp.need_some h; simp only [Option.some.injEq, Prod.mk.injEq] at h; obtain ⟨rfl, rfl, rfl, rfl⟩ := h
 have sm : ∀ {x : Int}, 0 ≤ x → x < 18446744073709551616 → IntKind.u64.wrap x = x := fun h1 h2 => Go.Proofs.Ytidpdaiolkcgnaa.Sp.u64w_in ⟨h1, h2⟩
 have tm : ∀ {x : Int}, 0 ≤ x → Int.tmod x 4294967296 = x % 4294967296 := fun h => Int.tmod_eq_emod_of_nonneg h
 have td : ∀ {x : Int}, 0 ≤ x → x < 18446744073709551616 → IntKind.u64.wrap (Int.tdiv x 4294967296) = x / 4294967296 := fun h1 h2 => by rw [Int.tdiv_eq_ediv_of_nonneg h1]; exact sm (by omega) (by omega)
 exact sawtoothref02_minus.walk (E0 := sm (by omega) (by omega)) (G0 := sm (by omega) (by omega)) (F0 := sm (by omega) (by omega)) (R0 := tm (by omega)) (Q0 := td (by omega) (by omega)) (Z0 := sm (by omega) (by omega)) (E1 := sm (by omega) (by omega)) (G1 := sm (by omega) (by omega)) (F1 := sm (by omega) (by omega)) (R1 := tm (by omega)) (Q1 := td (by omega) (by omega)) (Z1 := sm (by omega) (by omega)) (E2 := sm (by omega) (by omega)) (G2 := sm (by omega) (by omega)) (F2 := sm (by omega) (by omega)) (R2 := tm (by omega)) (Q2 := td (by omega) (by omega)) (Z2 := sm (by omega) (by omega)) (E3 := sm (by omega) (by omega)) (G3 := sm (by omega) (by omega)) (F3 := sm (by omega) (by omega)) (R3 := tm (by omega)) (Q3 := td (by omega) (by omega)) (Z3 := sm (by omega) (by omega)) (w := w)

end Go.Proofs.Ytidpdaiolkcgnaa.Px
