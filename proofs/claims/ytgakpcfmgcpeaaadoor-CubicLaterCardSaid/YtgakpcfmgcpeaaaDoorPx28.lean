/- Printed by px.py, over the kit's print. Conditions: none beside the theorems' own. -/
import Derived.Test.YtgakpcfmgcpeaaaDoorPx0
import Derived.Test.YtgakpcfmgcpeaaaDoorPx4
import Derived.Test.YtgakpcfmgcpeaaaDoorPx23
import Derived.Test.YtgakpcfmgcpeaaaDoorPx26
import Derived.Test.YtgakpcfmgcpeaaaDoorPx27
import Derived.Test.YtgakpcfmgcpeaaaDoorSpec
namespace Go.Proofs.YtgakpcfmgcpeaaaDoor.Px
open Go.RowKit Go.Proofs.YtgakpcfmgcpeaaaDoorW.PrintWords Go.Proofs.YtgakpcfmgcpeaaaDoorW.PrintLast Go.Proofs.YtgakpcfmgcpeaaaDoorW.PrintMore
attribute [local go_sem] max2_int min2_int max_two min_two max_three min_three max_four min_four
set_option linter.unusedVariables false
set_option linter.unusedSimpArgs false

/-! ### cubic_At: function 15 -/
noncomputable def cubic_At.f (a0_0 : Bool) (a0_1 : Int) (a0_2 : Int) (a0_3 : Int) (a0_4 : Int) (a0_5 : Int) (a1 : Int) : Option (Int) := (cubic_isS.f a0_0 a0_1 a0_2 a0_3 a0_4 a0_5).bind fun t285 => (if t285 = true then ((safe_SubS.f a1 a0_1).bind fun t286 => ((cubic_lawS.f a0_0 a0_1 a0_2 a0_3 a0_4 a0_5 t286).bind fun t287 => (some t287))) else (some 0))
set_option maxHeartbeats 8000000 in
set_option maxRecDepth 100000 in
theorem cubic_At.calls (a0_0 : Bool) (a0_1 : Int) (a0_2 : Int) (a0_3 : Int) (a0_4 : Int) (a0_5 : Int) (a1 : Int) (r : Int) (w : World) (h : cubic_At.f a0_0 a0_1 a0_2 a0_3 a0_4 a0_5 a1 = some r) (hL : Tens w) :
  Calls Tryd.prog 15 #[.agg #[.bool a0_0, .int .i64 a0_1, .int .i64 a0_2, .int .i64 a0_3, .int .i64 a0_4, .int .i64 a0_5], .int .i64 a1] w fun e w' => e = .returned (.int .i64 r) ∧ Below w.heap.size w w' := by
 have hu23 := Tryd.underlying23; have HB := Aside0.mk (Below.refl w.heap.size w); have H : ((cubic_isS.f a0_0 a0_1 a0_2 a0_3 a0_4 a0_5).bind fun t285 => (if t285 = true then ((safe_SubS.f a1 a0_1).bind fun t286 => ((cubic_lawS.f a0_0 a0_1 a0_2 a0_3 a0_4 a0_5 t286).bind fun t287 => (some t287))) else (some 0))) = some r := h; clear h; replace H := Option.bind_eq_some_iff.mp H; obtain ⟨t285, A30, H⟩ := H; replace H : (if t285 = true then ((safe_SubS.f a1 a0_1).bind fun t286 => ((cubic_lawS.f a0_0 a0_1 a0_2 a0_3 a0_4 a0_5 t286).bind fun t287 => (some t287))) else (some 0)) = some r := H; have A3 := Aside0.mk A30; clear A30
 by_cases c4 : t285 = true
 ·subst c4
  have H1 : ((safe_SubS.f a1 a0_1).bind fun t286 => ((cubic_lawS.f a0_0 a0_1 a0_2 a0_3 a0_4 a0_5 t286).bind fun t287 => (some t287))) = some r := by rw [if_pos rfl] at H; exact H
  clear H; have H := H1; clear H1; replace H := Option.bind_eq_some_iff.mp H; obtain ⟨t286, A50, H⟩ := H; replace H : ((cubic_lawS.f a0_0 a0_1 a0_2 a0_3 a0_4 a0_5 t286).bind fun t287 => (some t287)) = some r := H; have A5 := Aside0.mk A50; clear A50; replace H := Option.bind_eq_some_iff.mp H; obtain ⟨t287, A60, H⟩ := H; replace H : (some t287) = some r := H; have A6 := Aside0.mk A60; clear A60; obtain rfl := Option.some.inj H
  go_enter Tryd.func15, Tryd.ntmps15
  try go_wp2_with (first | ((with_reducible refine gate_dst (N := 2) rfl ?_); refine box_event ?hg (N := 2) ?hd (cs := #[.bool a0_0, .int .i64 a0_1, .int .i64 a0_2, .int .i64 a0_3, .int .i64 a0_4, .int .i64 a0_5]) (t := 23) ?hr ?_; (case hd => rfl); (case hg => rfl); (case hr => first | (go_simp; done) | (go_simp; rfl)); intro gb284 hg w7 hbox hb; have BK284 := Aside0.mk (hbox); obtain ⟨GW284, nHB⟩ := geA hg hb; have GE284 := GW284; replace HB := nHB; clear nHB; clear hb hbox hg; have hcz8_0 := czZ BK284 0 (.bool a0_0); have hcz8_1 := czZ BK284 1 (.int .i64 a0_1); have hcz8_2 := czZ BK284 2 (.int .i64 a0_2); have hcz8_3 := czZ BK284 3 (.int .i64 a0_3); have hcz8_4 := czZ BK284 4 (.int .i64 a0_4); have hcz8_5 := czZ BK284 5 (.int .i64 a0_5); have hfz8_0 := blk_frozen BK284.out 0; have hfz8_1 := blk_frozen BK284.out 1; have hfz8_2 := blk_frozen BK284.out 2; have hfz8_3 := blk_frozen BK284.out 3; have hfz8_4 := blk_frozen BK284.out 4; have hfz8_5 := blk_frozen BK284.out 5) | ((with_reducible refine gate_callee (f := 26) rfl ?_); refine goesLA_ (some 6) rfl rfl Tryd.func26 rfl #[.agg #[.bool a0_0, .int .i64 a0_1, .int .i64 a0_2, .int .i64 a0_3, .int .i64 a0_4, .int .i64 a0_5]] rfl ?_; (with_reducible refine (cubic_isS.calls a0_0 a0_1 a0_2 a0_3 a0_4 a0_5 true _ A3.out ?hT_).mono ?_); (case hT_ => exact tensB hL (by repeat (first | (with_reducible first | exact HB.out | apply below_alloc | apply pw_below_drewN | apply below_drew1 | refine below_set ?_ (Aside0.out (by assumption))) | exact HB.out))); rintro e w9 ⟨rfl, hb⟩; refine ⟨_, rfl, ?_⟩; replace BK284 := bdZ BK284 hb; replace HB := stA hb; clear hb))
  replace BK284 := Aside0.mk (blk_drew BK284.out); replace HB := Aside0.mk (below_drew1 HB.out); refine start_ (n := 7) (S := fun w' => w'.cell? ⟨gb284, 0, none⟩ = some (.bool a0_0) ∧ w'.cell? ⟨gb284, 1, none⟩ = some (.int .i64 a0_1) ∧ w'.cell? ⟨gb284, 2, none⟩ = some (.int .i64 a0_2) ∧ w'.cell? ⟨gb284, 3, none⟩ = some (.int .i64 a0_3) ∧ w'.cell? ⟨gb284, 4, none⟩ = some (.int .i64 a0_4) ∧ w'.cell? ⟨gb284, 5, none⟩ = some (.int .i64 a0_5)) (ds := []) #[N,N,N,N,N,N,N] (by kernel_rfl) rfl rfl ⟨(blk_cell BK284.out 0).trans rfl, (blk_cell BK284.out 1).trans rfl, (blk_cell BK284.out 2).trans rfl, (blk_cell BK284.out 3).trans rfl, (blk_cell BK284.out 4).trans rfl, (blk_cell BK284.out 5).trans rfl⟩ (fun hHeld => ?_)
  generalize w9.drew = w10 at BK284 HB hHeld ⊢
  refine pureA_ (i := 1) (N := some 9) #[N,Y,N,N,N,N,N] rfl rfl (by kernel_rfl) ?_
  refine pureA_ (i := 2) (N := some 10) #[N,Y,Y,N,N,N,N] rfl rfl (by kernel_rfl) ?_
  refine take_ (i := 0) (N := some 8) (v := ?_) (a' := ?_) #[Y,Y,Y,N,N,N,N] rfl rfl (by kernel_rfl) (fun _ _ _ h => h) (Or.inl ⟨by rfl, ?_⟩) hHeld ?_ ?_; rotate_left
  ·rintro w' ⟨s0, s1, s2, s3, s4, s5⟩; go_simp
   with_reducible rfl
  rotate_left
  ·simp only [Act.put, sA, sB, sC, i64_w, i32_w]
   rfl
  refine take_ (i := 3) (N := some 11) (v := ?_) (a' := ?_) #[Y,Y,Y,Y,N,N,N] rfl rfl (by kernel_rfl) (fun _ _ _ h => h) (Or.inl ⟨by rfl, ?_⟩) hHeld ?_ ?_; rotate_left
  ·rintro w' ⟨s0, s1, s2, s3, s4, s5⟩; go_simp
   with_reducible rfl
  rotate_left
  ·simp only [Act.put, sA, sB, sC, i64_w, i32_w]
   rfl
  refine one_ (i := 4) (N := some 12) #[Y,Y,Y,Y,Y,N,N] rfl rfl (by kernel_rfl) (by decide) (fun K hK => ?_); refine goesA_ Tryd.func39 rfl #[.int .i64 a1, .int .i64 a0_1] (by rfl) rfl rfl ?_
  with_reducible refine (safe_SubS.calls a1 a0_1 t286 _ A5.out).mono ?_
  rintro e w11 ⟨rfl, hb⟩; refine ⟨_, rfl, ?_⟩; replace BK284 := bbZ BK284 hb; replace HB := Aside0.mk (below_step HB.out hb); clear hb; refine hK.out _ _ ⟨(blk_cell BK284.out 0).trans rfl, (blk_cell BK284.out 1).trans rfl, (blk_cell BK284.out 2).trans rfl, (blk_cell BK284.out 3).trans rfl, (blk_cell BK284.out 4).trans rfl, (blk_cell BK284.out 5).trans rfl⟩ (fun hHeld => ?_); clear hK K; refine normA_ (some 12) ?_
  refine one_ (i := 5) (N := some 13) #[Y,Y,Y,Y,Y,Y,N] rfl rfl (by kernel_rfl) (by decide) (fun K hK => ?_); refine goesA_ Tryd.func27 rfl #[.agg #[.bool a0_0, .int .i64 a0_1, .int .i64 a0_2, .int .i64 a0_3, .int .i64 a0_4, .int .i64 a0_5], .int .i64 t286] (by rfl) rfl rfl ?_
  with_reducible refine (cubic_lawS.calls a0_0 a0_1 a0_2 a0_3 a0_4 a0_5 t286 t287 _ A6.out).mono ?_
  rintro e w12 ⟨rfl, hb⟩; refine ⟨_, rfl, ?_⟩; replace BK284 := bbZ BK284 hb; replace HB := Aside0.mk (below_step HB.out hb); clear hb; refine hK.out _ _ ⟨(blk_cell BK284.out 0).trans rfl, (blk_cell BK284.out 1).trans rfl, (blk_cell BK284.out 2).trans rfl, (blk_cell BK284.out 3).trans rfl, (blk_cell BK284.out 4).trans rfl, (blk_cell BK284.out 5).trans rfl⟩ (fun hHeld => ?_); clear hK K; refine normA_ (some 13) ?_
  refine pureA_ (i := 6) (N := some 4) #[Y,Y,Y,Y,Y,Y,Y] rfl rfl (by kernel_rfl) ?_
  refine done_ (by kernel_rfl) ?_
  try go_wp2
  go_ret
  exact ⟨by first | rfl | (simp [errW_none, errW_some] <;> rfl) | (simp [*, errW_none, errW_some] <;> rfl), by repeat (first | (with_reducible first | exact HB.out | apply below_alloc | apply pw_below_drewN | apply below_drew1 | refine below_set ?_ GE284.out) | exact HB.out)⟩
 ·replace c4 := Bool.eq_false_iff.mpr c4
  subst c4
  have H1 : (some 0) = some r := by rw [if_neg (show ¬ (false = true) by decide)] at H; exact H
  clear H; have H := H1; clear H1; obtain rfl := Option.some.inj H
  go_enter Tryd.func15, Tryd.ntmps15
  go_wp2_with (first | ((with_reducible refine gate_dst (N := 2) rfl ?_); refine box_event ?hg (N := 2) ?hd (cs := #[.bool a0_0, .int .i64 a0_1, .int .i64 a0_2, .int .i64 a0_3, .int .i64 a0_4, .int .i64 a0_5]) (t := 23) ?hr ?_; (case hd => rfl); (case hg => rfl); (case hr => first | (go_simp; done) | (go_simp; rfl)); intro gb284 hg w13 hbox hb; have BK284 := Aside0.mk (hbox); obtain ⟨GW284, nHB⟩ := geA hg hb; have GE284 := GW284; replace HB := nHB; clear nHB; clear hb hbox hg; have hcz14_0 := czZ BK284 0 (.bool a0_0); have hcz14_1 := czZ BK284 1 (.int .i64 a0_1); have hcz14_2 := czZ BK284 2 (.int .i64 a0_2); have hcz14_3 := czZ BK284 3 (.int .i64 a0_3); have hcz14_4 := czZ BK284 4 (.int .i64 a0_4); have hcz14_5 := czZ BK284 5 (.int .i64 a0_5); have hfz14_0 := blk_frozen BK284.out 0; have hfz14_1 := blk_frozen BK284.out 1; have hfz14_2 := blk_frozen BK284.out 2; have hfz14_3 := blk_frozen BK284.out 3; have hfz14_4 := blk_frozen BK284.out 4; have hfz14_5 := blk_frozen BK284.out 5) | ((with_reducible refine gate_callee (f := 26) rfl ?_); refine goesLA_ (some 6) rfl rfl Tryd.func26 rfl #[.agg #[.bool a0_0, .int .i64 a0_1, .int .i64 a0_2, .int .i64 a0_3, .int .i64 a0_4, .int .i64 a0_5]] rfl ?_; (with_reducible refine (cubic_isS.calls a0_0 a0_1 a0_2 a0_3 a0_4 a0_5 false _ A3.out ?hT_).mono ?_); (case hT_ => exact tensB hL (by repeat (first | (with_reducible first | exact HB.out | apply below_alloc | apply pw_below_drewN | apply below_drew1 | refine below_set ?_ (Aside0.out (by assumption))) | exact HB.out))); rintro e w15 ⟨rfl, hb⟩; refine ⟨_, rfl, ?_⟩; replace BK284 := bdZ BK284 hb; replace HB := stA hb; clear hb))
  go_ret
  exact ⟨by first | rfl | (simp [errW_none, errW_some] <;> rfl) | (simp [*, errW_none, errW_some] <;> rfl), by repeat (first | (with_reducible first | exact HB.out | apply below_alloc | apply pw_below_drewN | apply below_drew1 | refine below_set ?_ GE284.out) | exact HB.out)⟩

/-! ### cubic_AtS: pure, behind function 15 -/
section
open Go.Proofs.YtgakpcfmgcpeaaaDoor.Sp
noncomputable def cubic_AtS.f (on : Bool) (s : Int) (f : Int) (m : Int) (k : Int) (e : Int) (now : Int) : Option (Int) := need ((I s) ∧ (I f) ∧ (I m) ∧ (I k) ∧ (I now)) (some (atQ on s f m k e now))
theorem cubic_AtS.eq {on : Bool} {s : Int} {f : Int} {m : Int} {k : Int} {e : Int} {now : Int} (h1 : I s) (h2 : I f) (h3 : I m) (h4 : I k) (h5 : I now) : cubic_AtS.f on s f m k e now = some (atQ on s f m k e now) := need_pos ⟨h1, h2, h3, h4, h5⟩
theorem cubic_At.main {on : Bool} {s : Int} {f : Int} {m : Int} {k : Int} {e : Int} {now : Int} (h1 : I s) (h2 : I f) (h3 : I m) (h4 : I k) (h5 : I now) : cubic_At.f on s f m k e now = some (atQ on s f m k e now) := by
 unfold cubic_At.f atQ
 rw [cubic_isS.eq h1 h2 h3]
 simp only [Option.bind_some]
 by_cases c : on = true ∧ eOk on s f m k e = true
 ·obtain ⟨rfl, c2⟩ := c; have kb := eOn_k (eOk_on.1 c2)
  rw [c2, if_pos (show (true && true) = true from rfl), if_pos (show true = true ∧ true = true from ⟨rfl, rfl⟩), safe_SubS.eq h5 h1]
  simp only [Option.bind_some]
  rw [cubic_lawS.eq h3 h4 (near_I _)]
  simp only [Option.bind_some]
  rw [near_clamp, riseQ_near]
  congr 1
  exact lawQ_near (m := m) (now - s) kb
 ·rw [if_neg c, if_neg (show ¬ (on && eOk on s f m k e) = true by simpa using c)]
end
theorem cubic_AtS.calls (a0_0 : Bool) (a0_1 : Int) (a0_2 : Int) (a0_3 : Int) (a0_4 : Int) (a0_5 : Int) (a1 : Int) (r : Int) (w : World) (h : cubic_AtS.f a0_0 a0_1 a0_2 a0_3 a0_4 a0_5 a1 = some r) (hL : Tens w) :
  Calls Tryd.prog 15 #[.agg #[.bool a0_0, .int .i64 a0_1, .int .i64 a0_2, .int .i64 a0_3, .int .i64 a0_4, .int .i64 a0_5], .int .i64 a1] w fun e w' => e = .returned (.int .i64 r) ∧ Below w.heap.size w w' := by
 obtain ⟨hc, h⟩ := Sp.need_some h; obtain ⟨h1, h2, h3, h4, h5⟩ := hc; exact cubic_At.calls a0_0 a0_1 a0_2 a0_3 a0_4 a0_5 a1 r w (by rw [cubic_At.main h1 h2 h3 h4 h5]; exact h) hL

/-! ### cubic_Target: function 17 -/
noncomputable def cubic_Target.j0 : Nat → Int → Int → Bool → Bool → Int → Int → Int → Int → Int → Option (Int)
 | 0, _, _, _, _, _, _, _, _, _ => none
 | k + 1, x1, x2, x13, x289000, x289001, x289002, x289003, x289004, x289005 => if x13 = true then (some x2) else ((cubic_AtS.f x289000 x289001 x289002 x289003 x289004 x289005 x1).bind fun t290 => ((safe_Add.f x2 (wrap64 (Int.tdiv x2 2))).bind fun t291 => ((safe_ClampS.f t290 x2 t291).bind fun t292 => (some t292))))
noncomputable def cubic_Target.f (k : Nat) (a0_0 : Bool) (a0_1 : Int) (a0_2 : Int) (a0_3 : Int) (a0_4 : Int) (a0_5 : Int) (a1 : Int) (a2 : Int) : Option (Int) := if a2 < 0 then (cubic_Target.j0 k a1 a2 true a0_0 a0_1 a0_2 a0_3 a0_4 a0_5) else ((cubic_isS.f a0_0 a0_1 a0_2 a0_3 a0_4 a0_5).bind fun t289 => (cubic_Target.j0 k a1 a2 (!t289) a0_0 a0_1 a0_2 a0_3 a0_4 a0_5))
set_option maxHeartbeats 8000000 in
set_option maxRecDepth 100000 in
theorem cubic_Target.calls (k : Nat) (a0_0 : Bool) (a0_1 : Int) (a0_2 : Int) (a0_3 : Int) (a0_4 : Int) (a0_5 : Int) (a1 : Int) (a2 : Int) (r : Int) (w : World) (h : cubic_Target.f k a0_0 a0_1 a0_2 a0_3 a0_4 a0_5 a1 a2 = some r) (hL : Tens w) :
  Calls Tryd.prog 17 #[.agg #[.bool a0_0, .int .i64 a0_1, .int .i64 a0_2, .int .i64 a0_3, .int .i64 a0_4, .int .i64 a0_5], .int .i64 a1, .int .i64 a2] w fun e w' => e = .returned (.int .i64 r) ∧ Below w.heap.size w w' := by
 have hu23 := Tryd.underlying23; have HB := Aside0.mk (Below.refl w.heap.size w); have H : (if a2 < 0 then (cubic_Target.j0 k a1 a2 true a0_0 a0_1 a0_2 a0_3 a0_4 a0_5) else ((cubic_isS.f a0_0 a0_1 a0_2 a0_3 a0_4 a0_5).bind fun t289 => (cubic_Target.j0 k a1 a2 (!t289) a0_0 a0_1 a0_2 a0_3 a0_4 a0_5))) = some r := h; clear h; have HC4 := Aside0.mk H; clear H
 go_enter Tryd.func17, Tryd.ntmps17
 go_upto_region 1 with (first | ((with_reducible refine gate_dst (N := 3) rfl ?_); refine box_event ?hg (N := 3) ?hd (cs := #[.bool a0_0, .int .i64 a0_1, .int .i64 a0_2, .int .i64 a0_3, .int .i64 a0_4, .int .i64 a0_5]) (t := 23) ?hr ?_; (case hd => rfl); (case hg => rfl); (case hr => first | (go_simp; done) | (go_simp; rfl)); intro gb288 hg w5 hbox hb; have BK288 := Aside0.mk (hbox); obtain ⟨GW288, nHB⟩ := geA hg hb; have GE288 := GW288; replace HB := nHB; clear nHB; clear hb hbox hg))
 (try simp only [Act.put, sA, sB, sC])
 go_cut [13] (fun v13 wc => ∃ (kq : Nat) (x13_3 : Bool), v13 = .bool x13_3 ∧ Aside0 (cubic_Target.j0 kq a1 a2 x13_3 a0_0 a0_1 a0_2 a0_3 a0_4 a0_5 = some r) ∧ Aside0 (kq ≤ k) ∧ Aside0 (wc.heap[gb288]? = some (.cells #[.bool a0_0, .int .i64 a0_1, .int .i64 a0_2, .int .i64 a0_3, .int .i64 a0_4, .int .i64 a0_5] 23 (0, 0))) ∧ Aside0 (Below w.heap.size w wc))
 case first =>
  have H := HC4.out; clear HC4
  by_cases c6 : a2 < 0
  ·rw [if_pos c6] at H
   have c6b0 : decide (a2 < 0) = true := decide_eq_true c6; clear c6
   (first | rw [c6b0] | (simp only [i64_w, i32_w]; rw [c6b0]) | skip)
   have H' := Aside0.mk H; clear H
   go_wp2
   go_meet
   case rel => exact ⟨_, (true), (by first | rfl | (simp; done) | (simp [*]; done)), H', ⟨by first | omega | exact Nat.le_refl _⟩, ⟨by (with_reducible repeat first | apply blk_drewN | apply blk_drew | apply blk_alloc); exact BK288.out⟩, ⟨by repeat (first | (with_reducible first | exact HB.out | apply below_alloc | apply pw_below_drewN | apply below_drew1 | refine below_set ?_ GE288.out) | exact HB.out)⟩⟩
  ·rw [if_neg c6] at H
   have c6b0 : decide (a2 < 0) = false := decide_eq_false c6; clear c6
   (first | rw [c6b0] | (simp only [i64_w, i32_w]; rw [c6b0]) | skip)
   replace H := Option.bind_eq_some_iff.mp H; obtain ⟨t289, A70, H⟩ := H; replace H : (cubic_Target.j0 k a1 a2 (!t289) a0_0 a0_1 a0_2 a0_3 a0_4 a0_5) = some r := H; have A7 := Aside0.mk A70; clear A70; have H' := Aside0.mk H; clear H; have hcz8_0 := czZ BK288 0 (.bool a0_0); have hcz8_1 := czZ BK288 1 (.int .i64 a0_1); have hcz8_2 := czZ BK288 2 (.int .i64 a0_2); have hcz8_3 := czZ BK288 3 (.int .i64 a0_3); have hcz8_4 := czZ BK288 4 (.int .i64 a0_4); have hcz8_5 := czZ BK288 5 (.int .i64 a0_5); have hfz8_0 := blk_frozen BK288.out 0; have hfz8_1 := blk_frozen BK288.out 1; have hfz8_2 := blk_frozen BK288.out 2; have hfz8_3 := blk_frozen BK288.out 3; have hfz8_4 := blk_frozen BK288.out 4; have hfz8_5 := blk_frozen BK288.out 5
   go_wp2_with (first | (go_at_call 26; (with_reducible refine (cubic_isS.calls a0_0 a0_1 a0_2 a0_3 a0_4 a0_5 t289 _ A7.out ?hT_).mono ?_); (case hT_ => exact tensB hL (by repeat (first | (with_reducible first | exact HB.out | apply below_alloc | apply pw_below_drewN | apply below_drew1 | refine below_set ?_ (Aside0.out (by assumption))) | exact HB.out))); rintro e w9 ⟨rfl, hb⟩; replace BK288 := bdZ BK288 hb; replace HB := stA hb; clear hb))
   go_meet
   case rel => exact ⟨_, (!t289), (by first | rfl | (simp; done) | (simp [*]; done)), H', ⟨by first | omega | exact Nat.le_refl _⟩, ⟨by (with_reducible repeat first | apply blk_drewN | apply blk_drew | apply blk_alloc); exact BK288.out⟩, ⟨by repeat (first | (with_reducible first | exact HB.out | apply below_alloc | apply pw_below_drewN | apply below_drew1 | refine below_set ?_ GE288.out) | exact HB.out)⟩⟩
 case rest =>
  clear HC4
  try clear c1
  try clear p2
  try clear c6
  try clear c6b0
  try clear hcz8_0
  try clear hcz8_1
  try clear hcz8_2
  try clear hcz8_3
  try clear hcz8_4
  try clear hcz8_5
  try clear hfz8_0
  try clear hfz8_1
  try clear hfz8_2
  try clear hfz8_3
  try clear hfz8_4
  try clear hfz8_5
  obtain ⟨kq, x13_3, rfl, HA, HJ3, BK288, HB⟩ := hcut
  cases kq with
  | zero => exact absurd HA.out (by simp [cubic_Target.j0])
  | succ kj3 =>
   have H := HA.out; clear HA; simp only [cubic_Target.j0] at H
   by_cases c10 : x13_3 = true
   ·subst c10
    have H1 : (some a2) = some r := by rw [if_pos rfl] at H; exact H
    clear H; have H := H1; clear H1; obtain rfl := Option.some.inj H
    go_wp2
    go_ret
    exact ⟨by first | rfl | (simp [errW_none, errW_some] <;> rfl) | (simp [*, errW_none, errW_some] <;> rfl), by repeat (first | (with_reducible first | exact HB.out | apply below_alloc | apply pw_below_drewN | apply below_drew1 | refine below_set ?_ GE288.out) | exact HB.out)⟩
   ·replace c10 := Bool.eq_false_iff.mpr c10
    subst c10
    have H1 : ((cubic_AtS.f a0_0 a0_1 a0_2 a0_3 a0_4 a0_5 a1).bind fun t290 => ((safe_Add.f a2 (wrap64 (Int.tdiv a2 2))).bind fun t291 => ((safe_ClampS.f t290 a2 t291).bind fun t292 => (some t292)))) = some r := by rw [if_neg (show ¬ (false = true) by decide)] at H; exact H
    clear H; have H := H1; clear H1; replace H := Option.bind_eq_some_iff.mp H; obtain ⟨t290, A110, H⟩ := H; replace H : ((safe_Add.f a2 (wrap64 (Int.tdiv a2 2))).bind fun t291 => ((safe_ClampS.f t290 a2 t291).bind fun t292 => (some t292))) = some r := H; have A11 := Aside0.mk A110; clear A110; replace H := Option.bind_eq_some_iff.mp H; obtain ⟨t291, A120, H⟩ := H; replace H : ((safe_ClampS.f t290 a2 t291).bind fun t292 => (some t292)) = some r := H; have A12 := Aside0.mk A120; clear A120; replace H := Option.bind_eq_some_iff.mp H; obtain ⟨t292, A130, H⟩ := H; replace H : (some t292) = some r := H; have A13 := Aside0.mk A130; clear A130; obtain rfl := Option.some.inj H; have hcz14_0 : wc.cell? ⟨gb288, 0, none⟩ = some (.bool a0_0) := (blk_cell BK288.out 0).trans rfl; have hcz14_1 : wc.cell? ⟨gb288, 1, none⟩ = some (.int .i64 a0_1) := (blk_cell BK288.out 1).trans rfl; have hcz14_2 : wc.cell? ⟨gb288, 2, none⟩ = some (.int .i64 a0_2) := (blk_cell BK288.out 2).trans rfl; have hcz14_3 : wc.cell? ⟨gb288, 3, none⟩ = some (.int .i64 a0_3) := (blk_cell BK288.out 3).trans rfl; have hcz14_4 : wc.cell? ⟨gb288, 4, none⟩ = some (.int .i64 a0_4) := (blk_cell BK288.out 4).trans rfl; have hcz14_5 : wc.cell? ⟨gb288, 5, none⟩ = some (.int .i64 a0_5) := (blk_cell BK288.out 5).trans rfl; have hfz14_0 := blk_frozen BK288.out 0; have hfz14_1 := blk_frozen BK288.out 1; have hfz14_2 := blk_frozen BK288.out 2; have hfz14_3 := blk_frozen BK288.out 3; have hfz14_4 := blk_frozen BK288.out 4; have hfz14_5 := blk_frozen BK288.out 5
    go_wp2_with (first | ((with_reducible refine gate_callee (f := 15) rfl ?_); refine goesLA_ (some 17) rfl rfl Tryd.func15 rfl #[.agg #[.bool a0_0, .int .i64 a0_1, .int .i64 a0_2, .int .i64 a0_3, .int .i64 a0_4, .int .i64 a0_5], .int .i64 a1] rfl ?_; (with_reducible refine (cubic_AtS.calls a0_0 a0_1 a0_2 a0_3 a0_4 a0_5 a1 t290 _ A11.out ?hT_).mono ?_); (case hT_ => exact tensB hL (by repeat (first | (with_reducible first | exact HB.out | apply below_alloc | apply pw_below_drewN | apply below_drew1 | refine below_set ?_ (Aside0.out (by assumption))) | exact HB.out))); rintro e w15 ⟨rfl, hb⟩; refine ⟨_, rfl, ?_⟩; replace BK288 := bdZ BK288 hb; replace HB := stA hb; clear hb) | ((with_reducible refine gate_callee (f := 41) rfl ?_); refine goesLA_ (some 22) rfl rfl Tryd.func41 rfl #[.int .i64 a2, .int .i64 (wrap64 (Int.tdiv a2 2))] rfl ?_; (with_reducible refine (safe_Add.calls a2 (wrap64 (Int.tdiv a2 2)) t291 _ A12.out).mono ?_); rintro e w16 ⟨rfl, hb⟩; refine ⟨_, rfl, ?_⟩; replace BK288 := bdZ BK288 hb; replace HB := stA hb; clear hb) | ((with_reducible refine gate_callee (f := 30) rfl ?_); refine goesLA_ (some 23) rfl rfl Tryd.func30 rfl #[.int .i64 t290, .int .i64 a2, .int .i64 t291] rfl ?_; (with_reducible refine (safe_ClampS.calls t290 a2 t291 t292 _ A13.out).mono ?_); rintro e w17 ⟨rfl, hb⟩; refine ⟨_, rfl, ?_⟩; replace BK288 := bdZ BK288 hb; replace HB := stA hb; clear hb))
    go_ret
    exact ⟨by first | rfl | (simp [errW_none, errW_some] <;> rfl) | (simp [*, errW_none, errW_some] <;> rfl), by repeat (first | (with_reducible first | exact HB.out | apply below_alloc | apply pw_below_drewN | apply below_drew1 | refine below_set ?_ GE288.out) | exact HB.out)⟩

/-! ### cubic_TargetS: pure, behind function 17 -/
section
open Go.Proofs.YtgakpcfmgcpeaaaDoor.Sp
noncomputable def cubic_TargetS.f (on : Bool) (s : Int) (f : Int) (m : Int) (k : Int) (e : Int) (now : Int) (w : Int) : Option (Int) := need ((I s) ∧ (I f) ∧ (I m) ∧ (I k) ∧ (I now) ∧ (I w)) (some (targetQ on s f m k e now w))
theorem cubic_TargetS.eq {on : Bool} {s : Int} {f : Int} {m : Int} {k : Int} {e : Int} {now : Int} {w : Int} (h1 : I s) (h2 : I f) (h3 : I m) (h4 : I k) (h5 : I now) (h6 : I w) : cubic_TargetS.f on s f m k e now w = some (targetQ on s f m k e now w) := need_pos ⟨h1, h2, h3, h4, h5, h6⟩
theorem cubic_Target.main {on : Bool} {s : Int} {f : Int} {m : Int} {k : Int} {e : Int} {now : Int} {w : Int} (h1 : I s) (h2 : I f) (h3 : I m) (h4 : I k) (h5 : I now) (h6 : I w) : cubic_Target.f 1 on s f m k e now w = some (targetQ on s f m k e now w) := by
 unfold cubic_Target.f
 simp only [cubic_Target.j0]
 rw [cubic_isS.eq h1 h2 h3]
 simp only [Option.bind_some]
 unfold targetQ
 by_cases c1 : w < 0
 ·rw [if_pos c1, if_pos (show w < 0 ∨ ¬ (on = true ∧ eOk on s f m k e = true) from Or.inl c1)]; rfl
 ·rw [if_neg c1]
  by_cases c : on = true ∧ eOk on s f m k e = true
  ·have n : ¬ (w < 0 ∨ ¬ (on = true ∧ eOk on s f m k e = true)) := fun x => x.elim c1 (fun y => y c)
   have q : (on && eOk on s f m k e) = true := by simpa using c
   rw [if_neg n, q]
   have wd : RowKit.wrap64 (Int.tdiv w 2) = w / 2 := by rw [Int.tdiv_eq_ediv_of_nonneg (by omega), w64 (by omega)]
   have ab : I (atQ on s f m k e now) := by unfold atQ; rw [if_pos c]; have := lawQ_bd m k (now - s); omega
   rw [if_neg (by simp), cubic_AtS.eq h1 h2 h3 h4 h5, wd, safe_Add.eq h6 (by omega)]
   simp only [Option.bind_some]
   rw [safe_ClampS.eq ab h6 (near_I _)]
   rfl
  ·have n : w < 0 ∨ ¬ (on = true ∧ eOk on s f m k e = true) := Or.inr c
   have q : (on && eOk on s f m k e) = false := by
    cases x : (on && eOk on s f m k e)
    ·rfl
    ·exact absurd (by simpa using x) c
   rw [if_pos n, q]; rfl
end
theorem cubic_TargetS.calls (a0_0 : Bool) (a0_1 : Int) (a0_2 : Int) (a0_3 : Int) (a0_4 : Int) (a0_5 : Int) (a1 : Int) (a2 : Int) (r : Int) (w : World) (h : cubic_TargetS.f a0_0 a0_1 a0_2 a0_3 a0_4 a0_5 a1 a2 = some r) (hL : Tens w) :
  Calls Tryd.prog 17 #[.agg #[.bool a0_0, .int .i64 a0_1, .int .i64 a0_2, .int .i64 a0_3, .int .i64 a0_4, .int .i64 a0_5], .int .i64 a1, .int .i64 a2] w fun e w' => e = .returned (.int .i64 r) ∧ Below w.heap.size w w' := by
 obtain ⟨hc, h⟩ := Sp.need_some h; obtain ⟨h1, h2, h3, h4, h5, h6⟩ := hc; exact cubic_Target.calls 1 a0_0 a0_1 a0_2 a0_3 a0_4 a0_5 a1 a2 r w (by rw [cubic_Target.main h1 h2 h3 h4 h5 h6]; exact h) hL

/-! ### sawtoothlaw12_awake: function 10 -/
noncomputable def sawtoothlaw12_awake.f  : Option (Bool) := (epoch_BeginS.f 1000 393216 655360).bind fun bt293 => ((cubic_Reach.f bt293.1 bt293.2.1 bt293.2.2.1 bt293.2.2.2.1 bt293.2.2.2.2.1 bt293.2.2.2.2.2.1 655360).bind fun bt301 => ((cubic_Reach.f bt293.1 bt293.2.1 bt293.2.2.1 bt293.2.2.2.1 bt293.2.2.2.2.1 bt293.2.2.2.2.2.1 68719476737).bind fun bt303 => ((cubic_Reach.f false 0 0 0 0 0 0).bind fun bt305 => ((cubic_RiseS.f 1000000).bind fun t307 => (if t307 = 26214 then ((cubic_RiseS.f 2000000).bind fun t308 => (if t308 = 209715 then ((cubic_RiseS.f (-1000000)).bind fun t309 => (if t309 = (-26215) then ((cubic_RiseS.f 0).bind fun t310 => (if t310 = 0 then ((cubic_RiseS.f 1099511627776).bind fun t311 => ((cubic_RiseS.f 2147483648).bind fun t312 => (if t311 = t312 then ((cubic_AtS.f bt293.1 bt293.2.1 bt293.2.2.1 bt293.2.2.2.1 bt293.2.2.2.2.1 bt293.2.2.2.2.2.1 2155434).bind fun t313 => (if t313 = 655360 then ((cubic_AtS.f bt293.1 bt293.2.1 bt293.2.2.1 bt293.2.2.2.1 bt293.2.2.2.2.1 bt293.2.2.2.2.2.1 4611686018427387904).bind fun t314 => (if t314 = 68719476736 then ((cubic_AtS.f bt293.1 bt293.2.1 bt293.2.2.1 bt293.2.2.2.1 bt293.2.2.2.2.1 bt293.2.2.2.2.2.1 (-4611686018427387904)).bind fun t315 => (if t315 = 0 then ((cubic_AtS.f false 0 0 0 0 0 5).bind fun t316 => (if t316 = 0 then ((cubic_TargetS.f bt293.1 bt293.2.1 bt293.2.2.1 bt293.2.2.2.1 bt293.2.2.2.2.1 bt293.2.2.2.2.2.1 1099511627776 524288).bind fun t317 => (if t317 = 786432 then ((cubic_TargetS.f bt293.1 bt293.2.1 bt293.2.2.1 bt293.2.2.2.1 bt293.2.2.2.2.1 bt293.2.2.2.2.2.1 1000 524288).bind fun t318 => (if t318 = 524288 then ((cubic_TargetS.f bt293.1 bt293.2.1 bt293.2.2.1 bt293.2.2.2.1 bt293.2.2.2.2.1 bt293.2.2.2.2.2.1 1000 (-4)).bind fun t319 => (if t319 = (-4) then (if bt301.1 ≤ 2154434 then (if bt301.1 > 2100000 then (if bt301.2 = true then (if bt303.2 = true then (none) else (some (!bt305.2))) else (none)) else (none)) else (none)) else (none))) else (none))) else (none))) else (none))) else (none))) else (none))) else (none))) else (none)))) else (none))) else (none))) else (none))) else (none))))))
set_option maxHeartbeats 8000000 in
set_option maxRecDepth 100000 in
theorem sawtoothlaw12_awake.calls  (r : Bool) (w : World) (h : sawtoothlaw12_awake.f  = some r) (hL : Tens w) :
  Calls Tryd.prog 10 #[] w fun e w' => e = .returned (.bool r) ∧ Below w.heap.size w w' := by
 have hu23 := Tryd.underlying23; have HB := Aside0.mk (Below.refl w.heap.size w); have H : ((epoch_BeginS.f 1000 393216 655360).bind fun bt293 => ((cubic_Reach.f bt293.1 bt293.2.1 bt293.2.2.1 bt293.2.2.2.1 bt293.2.2.2.2.1 bt293.2.2.2.2.2.1 655360).bind fun bt301 => ((cubic_Reach.f bt293.1 bt293.2.1 bt293.2.2.1 bt293.2.2.2.1 bt293.2.2.2.2.1 bt293.2.2.2.2.2.1 68719476737).bind fun bt303 => ((cubic_Reach.f false 0 0 0 0 0 0).bind fun bt305 => ((cubic_RiseS.f 1000000).bind fun t307 => (if t307 = 26214 then ((cubic_RiseS.f 2000000).bind fun t308 => (if t308 = 209715 then ((cubic_RiseS.f (-1000000)).bind fun t309 => (if t309 = (-26215) then ((cubic_RiseS.f 0).bind fun t310 => (if t310 = 0 then ((cubic_RiseS.f 1099511627776).bind fun t311 => ((cubic_RiseS.f 2147483648).bind fun t312 => (if t311 = t312 then ((cubic_AtS.f bt293.1 bt293.2.1 bt293.2.2.1 bt293.2.2.2.1 bt293.2.2.2.2.1 bt293.2.2.2.2.2.1 2155434).bind fun t313 => (if t313 = 655360 then ((cubic_AtS.f bt293.1 bt293.2.1 bt293.2.2.1 bt293.2.2.2.1 bt293.2.2.2.2.1 bt293.2.2.2.2.2.1 4611686018427387904).bind fun t314 => (if t314 = 68719476736 then ((cubic_AtS.f bt293.1 bt293.2.1 bt293.2.2.1 bt293.2.2.2.1 bt293.2.2.2.2.1 bt293.2.2.2.2.2.1 (-4611686018427387904)).bind fun t315 => (if t315 = 0 then ((cubic_AtS.f false 0 0 0 0 0 5).bind fun t316 => (if t316 = 0 then ((cubic_TargetS.f bt293.1 bt293.2.1 bt293.2.2.1 bt293.2.2.2.1 bt293.2.2.2.2.1 bt293.2.2.2.2.2.1 1099511627776 524288).bind fun t317 => (if t317 = 786432 then ((cubic_TargetS.f bt293.1 bt293.2.1 bt293.2.2.1 bt293.2.2.2.1 bt293.2.2.2.2.1 bt293.2.2.2.2.2.1 1000 524288).bind fun t318 => (if t318 = 524288 then ((cubic_TargetS.f bt293.1 bt293.2.1 bt293.2.2.1 bt293.2.2.2.1 bt293.2.2.2.2.1 bt293.2.2.2.2.2.1 1000 (-4)).bind fun t319 => (if t319 = (-4) then (if bt301.1 ≤ 2154434 then (if bt301.1 > 2100000 then (if bt301.2 = true then (if bt303.2 = true then (none) else (some (!bt305.2))) else (none)) else (none)) else (none)) else (none))) else (none))) else (none))) else (none))) else (none))) else (none))) else (none))) else (none)))) else (none))) else (none))) else (none))) else (none))))))) = some r := h; clear h; replace H := Option.bind_eq_some_iff.mp H; obtain ⟨⟨t293, t294, t295, t296, t297, t298, t299⟩, A10, H⟩ := H; (try dsimp only at H); have A1 := Aside0.mk A10; clear A10; replace H := Option.bind_eq_some_iff.mp H; obtain ⟨⟨t301, t302⟩, A20, H⟩ := H; (try dsimp only at H); have A2 := Aside0.mk A20; clear A20; replace H := Option.bind_eq_some_iff.mp H; obtain ⟨⟨t303, t304⟩, A30, H⟩ := H; (try dsimp only at H); have A3 := Aside0.mk A30; clear A30; replace H := Option.bind_eq_some_iff.mp H; obtain ⟨⟨t305, t306⟩, A40, H⟩ := H; (try dsimp only at H); have A4 := Aside0.mk A40; clear A40; replace H := Option.bind_eq_some_iff.mp H; obtain ⟨t307, A50, H⟩ := H; (try dsimp only at H); have A5 := Aside0.mk A50; clear A50
 by_cases c6 : t307 = 26214
 ·rw [if_pos c6] at H
  have c6b0 : (t307 == 26214) = true := beq_iff_eq.mpr c6; have c6b1 : (t307 != 26214) = false := bne_eq_false_iff_eq.mpr c6; clear c6; replace H := Option.bind_eq_some_iff.mp H; obtain ⟨t308, A70, H⟩ := H; (try dsimp only at H); have A7 := Aside0.mk A70; clear A70
  by_cases c8 : t308 = 209715
  ·rw [if_pos c8] at H
   have c8b0 : (t308 == 209715) = true := beq_iff_eq.mpr c8; have c8b1 : (t308 != 209715) = false := bne_eq_false_iff_eq.mpr c8; clear c8; replace H := Option.bind_eq_some_iff.mp H; obtain ⟨t309, A90, H⟩ := H; (try dsimp only at H); have A9 := Aside0.mk A90; clear A90
   by_cases c10 : t309 = (-26215)
   ·rw [if_pos c10] at H
    have c10b0 : (t309 == (-26215)) = true := beq_iff_eq.mpr c10; have c10b1 : (t309 != (-26215)) = false := bne_eq_false_iff_eq.mpr c10; clear c10; replace H := Option.bind_eq_some_iff.mp H; obtain ⟨t310, A110, H⟩ := H; (try dsimp only at H); have A11 := Aside0.mk A110; clear A110
    by_cases c12 : t310 = 0
    ·rw [if_pos c12] at H
     have c12b0 : (t310 == 0) = true := beq_iff_eq.mpr c12; have c12b1 : (t310 != 0) = false := bne_eq_false_iff_eq.mpr c12; clear c12; replace H := Option.bind_eq_some_iff.mp H; obtain ⟨t311, A130, H⟩ := H; (try dsimp only at H); have A13 := Aside0.mk A130; clear A130; replace H := Option.bind_eq_some_iff.mp H; obtain ⟨t312, A140, H⟩ := H; (try dsimp only at H); have A14 := Aside0.mk A140; clear A140
     by_cases c15 : t311 = t312
     ·rw [if_pos c15] at H
      have c15b0 : (t311 == t312) = true := beq_iff_eq.mpr c15; have c15b1 : (t311 != t312) = false := bne_eq_false_iff_eq.mpr c15; clear c15; replace H := Option.bind_eq_some_iff.mp H; obtain ⟨t313, A160, H⟩ := H; (try dsimp only at H); have A16 := Aside0.mk A160; clear A160
      by_cases c17 : t313 = 655360
      ·rw [if_pos c17] at H
       have c17b0 : (t313 == 655360) = true := beq_iff_eq.mpr c17; have c17b1 : (t313 != 655360) = false := bne_eq_false_iff_eq.mpr c17; clear c17; replace H := Option.bind_eq_some_iff.mp H; obtain ⟨t314, A180, H⟩ := H; (try dsimp only at H); have A18 := Aside0.mk A180; clear A180
       by_cases c19 : t314 = 68719476736
       ·rw [if_pos c19] at H
        have c19b0 : (t314 == 68719476736) = true := beq_iff_eq.mpr c19; have c19b1 : (t314 != 68719476736) = false := bne_eq_false_iff_eq.mpr c19; clear c19; replace H := Option.bind_eq_some_iff.mp H; obtain ⟨t315, A200, H⟩ := H; (try dsimp only at H); have A20 := Aside0.mk A200; clear A200
        by_cases c21 : t315 = 0
        ·rw [if_pos c21] at H
         have c21b0 : (t315 == 0) = true := beq_iff_eq.mpr c21; have c21b1 : (t315 != 0) = false := bne_eq_false_iff_eq.mpr c21; clear c21; replace H := Option.bind_eq_some_iff.mp H; obtain ⟨t316, A220, H⟩ := H; (try dsimp only at H); have A22 := Aside0.mk A220; clear A220
         by_cases c23 : t316 = 0
         ·rw [if_pos c23] at H
          have c23b0 : (t316 == 0) = true := beq_iff_eq.mpr c23; have c23b1 : (t316 != 0) = false := bne_eq_false_iff_eq.mpr c23; clear c23; replace H := Option.bind_eq_some_iff.mp H; obtain ⟨t317, A240, H⟩ := H; (try dsimp only at H); have A24 := Aside0.mk A240; clear A240
          by_cases c25 : t317 = 786432
          ·rw [if_pos c25] at H
           have c25b0 : (t317 == 786432) = true := beq_iff_eq.mpr c25; have c25b1 : (t317 != 786432) = false := bne_eq_false_iff_eq.mpr c25; clear c25; replace H := Option.bind_eq_some_iff.mp H; obtain ⟨t318, A260, H⟩ := H; (try dsimp only at H); have A26 := Aside0.mk A260; clear A260
           by_cases c27 : t318 = 524288
           ·rw [if_pos c27] at H
            have c27b0 : (t318 == 524288) = true := beq_iff_eq.mpr c27; have c27b1 : (t318 != 524288) = false := bne_eq_false_iff_eq.mpr c27; clear c27; replace H := Option.bind_eq_some_iff.mp H; obtain ⟨t319, A280, H⟩ := H; replace H : (if t319 = (-4) then (if t301 ≤ 2154434 then (if t301 > 2100000 then (if t302 = true then (if t304 = true then (none) else (some (!t306))) else (none)) else (none)) else (none)) else (none)) = some r := H; have A28 := Aside0.mk A280; clear A280
            by_cases c29 : t319 = (-4)
            ·rw [if_pos c29] at H
             have c29b0 : (t319 == (-4)) = true := beq_iff_eq.mpr c29; have c29b1 : (t319 != (-4)) = false := bne_eq_false_iff_eq.mpr c29; clear c29
             by_cases c30 : t301 ≤ 2154434
             ·rw [if_pos c30] at H
              have c30b0 : decide (t301 ≤ 2154434) = true := decide_eq_true c30; clear c30
              by_cases c31 : t301 > 2100000
              ·rw [if_pos c31] at H
               have c31b0 : decide (2100000 < t301) = true := decide_eq_true c31; clear c31
               by_cases c32 : t302 = true
               ·subst c32
                have H1 : (if t304 = true then (none) else (some (!t306))) = some r := by rw [if_pos rfl] at H; exact H
                clear H; have H := H1; clear H1
                by_cases c33 : t304 = true
                ·subst c33
                 have H1 : (none) = some r := by rw [if_pos rfl] at H; exact H
                 clear H; have H := H1; clear H1; exact absurd H (by simp)
                ·replace c33 := Bool.eq_false_iff.mpr c33
                 subst c33
                 have H1 : (some (!t306)) = some r := by rw [if_neg (show ¬ (false = true) by decide)] at H; exact H
                 clear H; have H := H1; clear H1; obtain rfl := Option.some.inj H
                 go_enter Tryd.func10, Tryd.ntmps10
                 go_wp2_with (first | ((with_reducible refine gate_callee (f := 23) rfl ?_); refine goesLA_ (some 10) rfl rfl Tryd.func23 rfl #[.int .i64 1000, .int .i64 393216, .int .i64 655360] rfl ?_; (with_reducible refine (epoch_BeginS.calls 1000 393216 655360 t293 t294 t295 t296 t297 t298 t299 _ A1.out ?hT_).mono ?_); (case hT_ => exact tensB hL (by repeat (first | (with_reducible first | exact HB.out | apply below_alloc | apply pw_below_drewN | apply below_drew1 | refine below_set ?_ (Aside0.out (by assumption))) | exact HB.out))); rintro e w34 ⟨rfl, hb⟩; refine ⟨_, rfl, ?_⟩; replace HB := stA hb; clear hb) | ((with_reducible refine gate_dst (N := 1) rfl ?_); refine box_event ?hg (N := 1) ?hd (cs := #[.bool false, .int .i64 0, .int .i64 0, .int .i64 0, .int .i64 0, .int .i64 0]) (t := 23) ?hr ?_; (case hd => rfl); (case hg => rfl); (case hr => first | (go_simp; done) | (go_simp; rfl)); intro gb300 hg w35 hbox hb; have BK300 := Aside0.mk (hbox); obtain ⟨GW300, nHB⟩ := geA hg hb; have GE300 := GW300; replace HB := nHB; clear nHB; clear hb hbox hg; have hcz36_0 := czZ BK300 0 (.bool false); have hcz36_1 := czZ BK300 1 (.int .i64 0); have hcz36_2 := czZ BK300 2 (.int .i64 0); have hcz36_3 := czZ BK300 3 (.int .i64 0); have hcz36_4 := czZ BK300 4 (.int .i64 0); have hcz36_5 := czZ BK300 5 (.int .i64 0); have hfz36_0 := blk_frozen BK300.out 0; have hfz36_1 := blk_frozen BK300.out 1; have hfz36_2 := blk_frozen BK300.out 2; have hfz36_3 := blk_frozen BK300.out 3; have hfz36_4 := blk_frozen BK300.out 4; have hfz36_5 := blk_frozen BK300.out 5) | ((with_reducible refine gate_callee (f := 11) rfl ?_); refine goesLA_ (some 15) rfl rfl Tryd.func11 rfl #[.agg #[.bool t293, .int .i64 t294, .int .i64 t295, .int .i64 t296, .int .i64 t297, .int .i64 t298], .int .i64 655360] rfl ?_; (with_reducible refine (cubic_Reach.calls t293 t294 t295 t296 t297 t298 655360 t301 true _ A2.out ?hT_).mono ?_); (case hT_ => exact tensB hL (by repeat (first | (with_reducible first | exact HB.out | apply below_alloc | apply pw_below_drewN | apply below_drew1 | refine below_set ?_ (Aside0.out (by assumption))) | exact HB.out))); rintro e w37 ⟨rfl, hb⟩; refine ⟨_, rfl, ?_⟩; replace BK300 := Aside0.mk (blk_below (g := gb300) (o := .cells #[.bool t293, .int .i64 t294, .int .i64 t295, .int .i64 t296, .int .i64 t297, .int .i64 t298] 23 (0, 0)) (by (with_reducible repeat first | apply blk_drewN | apply blk_drew | apply blk_alloc); refine blk_put (cs := #[.bool t293, .int .i64 t294, .int .i64 t295, .int .i64 t296, .int .i64 t297, .int .i64 0]) ?_ 5 _ rfl; (with_reducible repeat first | apply blk_drewN | apply blk_drew | apply blk_alloc); refine blk_put (cs := #[.bool t293, .int .i64 t294, .int .i64 t295, .int .i64 t296, .int .i64 0, .int .i64 0]) ?_ 4 _ rfl; (with_reducible repeat first | apply blk_drewN | apply blk_drew | apply blk_alloc); refine blk_put (cs := #[.bool t293, .int .i64 t294, .int .i64 t295, .int .i64 0, .int .i64 0, .int .i64 0]) ?_ 3 _ rfl; (with_reducible repeat first | apply blk_drewN | apply blk_drew | apply blk_alloc); refine blk_put (cs := #[.bool t293, .int .i64 t294, .int .i64 0, .int .i64 0, .int .i64 0, .int .i64 0]) ?_ 2 _ rfl; (with_reducible repeat first | apply blk_drewN | apply blk_drew | apply blk_alloc); refine blk_put (cs := #[.bool t293, .int .i64 0, .int .i64 0, .int .i64 0, .int .i64 0, .int .i64 0]) ?_ 1 _ rfl; (with_reducible repeat first | apply blk_drewN | apply blk_drew | apply blk_alloc); refine blk_put (cs := #[.bool false, .int .i64 0, .int .i64 0, .int .i64 0, .int .i64 0, .int .i64 0]) ?_ 0 _ rfl; (with_reducible repeat first | apply blk_drewN | apply blk_drew | apply blk_alloc); exact BK300.out) hb); replace HB := stA hb; clear hb; have hcz38_0 := czZ BK300 0 (.bool t293); have hcz38_1 := czZ BK300 1 (.int .i64 t294); have hcz38_2 := czZ BK300 2 (.int .i64 t295); have hcz38_3 := czZ BK300 3 (.int .i64 t296); have hcz38_4 := czZ BK300 4 (.int .i64 t297); have hcz38_5 := czZ BK300 5 (.int .i64 t298); have hfz38_0 := blk_frozen BK300.out 0; have hfz38_1 := blk_frozen BK300.out 1; have hfz38_2 := blk_frozen BK300.out 2; have hfz38_3 := blk_frozen BK300.out 3; have hfz38_4 := blk_frozen BK300.out 4; have hfz38_5 := blk_frozen BK300.out 5) | ((with_reducible refine gate_callee (f := 11) rfl ?_); refine goesLA_ (some 20) rfl rfl Tryd.func11 rfl #[.agg #[.bool t293, .int .i64 t294, .int .i64 t295, .int .i64 t296, .int .i64 t297, .int .i64 t298], .int .i64 68719476737] rfl ?_; (with_reducible refine (cubic_Reach.calls t293 t294 t295 t296 t297 t298 68719476737 t303 false _ A3.out ?hT_).mono ?_); (case hT_ => exact tensB hL (by repeat (first | (with_reducible first | exact HB.out | apply below_alloc | apply pw_below_drewN | apply below_drew1 | refine below_set ?_ (Aside0.out (by assumption))) | exact HB.out))); rintro e w39 ⟨rfl, hb⟩; refine ⟨_, rfl, ?_⟩; replace BK300 := bdZ BK300 hb; replace HB := stA hb; clear hb) | ((with_reducible refine gate_callee (f := 11) rfl ?_); refine goesLA_ (some 25) rfl rfl Tryd.func11 rfl #[.agg #[.bool false, .int .i64 0, .int .i64 0, .int .i64 0, .int .i64 0, .int .i64 0], .int .i64 0] rfl ?_; (with_reducible refine (cubic_Reach.calls false 0 0 0 0 0 0 t305 t306 _ A4.out ?hT_).mono ?_); (case hT_ => exact tensB hL (by repeat (first | (with_reducible first | exact HB.out | apply below_alloc | apply pw_below_drewN | apply below_drew1 | refine below_set ?_ (Aside0.out (by assumption))) | exact HB.out))); rintro e w40 ⟨rfl, hb⟩; refine ⟨_, rfl, ?_⟩; replace BK300 := bdZ BK300 hb; replace HB := stA hb; clear hb) | (go_at_call 13; (with_reducible refine (cubic_RiseS.calls 1000000 t307 _ A5.out).mono ?_); rintro e w41 ⟨rfl, hb⟩; replace BK300 := bdZ BK300 hb; replace HB := stA hb; clear hb) | (go_at_call 13; (with_reducible refine (cubic_RiseS.calls 2000000 t308 _ A7.out).mono ?_); rintro e w42 ⟨rfl, hb⟩; replace BK300 := bdZ BK300 hb; replace HB := stA hb; clear hb) | (go_at_call 13; (with_reducible refine (cubic_RiseS.calls (-1000000) t309 _ A9.out).mono ?_); rintro e w43 ⟨rfl, hb⟩; replace BK300 := bdZ BK300 hb; replace HB := stA hb; clear hb) | (go_at_call 13; (with_reducible refine (cubic_RiseS.calls 0 t310 _ A11.out).mono ?_); rintro e w44 ⟨rfl, hb⟩; replace BK300 := bdZ BK300 hb; replace HB := stA hb; clear hb) | (go_at_call 13; (with_reducible refine (cubic_RiseS.calls 1099511627776 t311 _ A13.out).mono ?_); rintro e w45 ⟨rfl, hb⟩; replace BK300 := bdZ BK300 hb; replace HB := stA hb; clear hb) | (go_at_call 13; (with_reducible refine (cubic_RiseS.calls 2147483648 t312 _ A14.out).mono ?_); rintro e w46 ⟨rfl, hb⟩; replace BK300 := bdZ BK300 hb; replace HB := stA hb; clear hb; have hcz47_0 := czZ BK300 0 (.bool t293); have hcz47_1 := czZ BK300 1 (.int .i64 t294); have hcz47_2 := czZ BK300 2 (.int .i64 t295); have hcz47_3 := czZ BK300 3 (.int .i64 t296); have hcz47_4 := czZ BK300 4 (.int .i64 t297); have hcz47_5 := czZ BK300 5 (.int .i64 t298); have hfz47_0 := blk_frozen BK300.out 0; have hfz47_1 := blk_frozen BK300.out 1; have hfz47_2 := blk_frozen BK300.out 2; have hfz47_3 := blk_frozen BK300.out 3; have hfz47_4 := blk_frozen BK300.out 4; have hfz47_5 := blk_frozen BK300.out 5) | (go_at_call 15; (with_reducible refine (cubic_AtS.calls t293 t294 t295 t296 t297 t298 2155434 t313 _ A16.out ?hT_).mono ?_); (case hT_ => exact tensB hL (by repeat (first | (with_reducible first | exact HB.out | apply below_alloc | apply pw_below_drewN | apply below_drew1 | refine below_set ?_ (Aside0.out (by assumption))) | exact HB.out))); rintro e w48 ⟨rfl, hb⟩; replace BK300 := bdZ BK300 hb; replace HB := stA hb; clear hb; have hcz49_0 := czZ BK300 0 (.bool t293); have hcz49_1 := czZ BK300 1 (.int .i64 t294); have hcz49_2 := czZ BK300 2 (.int .i64 t295); have hcz49_3 := czZ BK300 3 (.int .i64 t296); have hcz49_4 := czZ BK300 4 (.int .i64 t297); have hcz49_5 := czZ BK300 5 (.int .i64 t298); have hfz49_0 := blk_frozen BK300.out 0; have hfz49_1 := blk_frozen BK300.out 1; have hfz49_2 := blk_frozen BK300.out 2; have hfz49_3 := blk_frozen BK300.out 3; have hfz49_4 := blk_frozen BK300.out 4; have hfz49_5 := blk_frozen BK300.out 5) | (go_at_call 15; (with_reducible refine (cubic_AtS.calls t293 t294 t295 t296 t297 t298 4611686018427387904 t314 _ A18.out ?hT_).mono ?_); (case hT_ => exact tensB hL (by repeat (first | (with_reducible first | exact HB.out | apply below_alloc | apply pw_below_drewN | apply below_drew1 | refine below_set ?_ (Aside0.out (by assumption))) | exact HB.out))); rintro e w50 ⟨rfl, hb⟩; replace BK300 := bdZ BK300 hb; replace HB := stA hb; clear hb; have hcz51_0 := czZ BK300 0 (.bool t293); have hcz51_1 := czZ BK300 1 (.int .i64 t294); have hcz51_2 := czZ BK300 2 (.int .i64 t295); have hcz51_3 := czZ BK300 3 (.int .i64 t296); have hcz51_4 := czZ BK300 4 (.int .i64 t297); have hcz51_5 := czZ BK300 5 (.int .i64 t298); have hfz51_0 := blk_frozen BK300.out 0; have hfz51_1 := blk_frozen BK300.out 1; have hfz51_2 := blk_frozen BK300.out 2; have hfz51_3 := blk_frozen BK300.out 3; have hfz51_4 := blk_frozen BK300.out 4; have hfz51_5 := blk_frozen BK300.out 5) | (go_at_call 15; (with_reducible refine (cubic_AtS.calls t293 t294 t295 t296 t297 t298 (-4611686018427387904) t315 _ A20.out ?hT_).mono ?_); (case hT_ => exact tensB hL (by repeat (first | (with_reducible first | exact HB.out | apply below_alloc | apply pw_below_drewN | apply below_drew1 | refine below_set ?_ (Aside0.out (by assumption))) | exact HB.out))); rintro e w52 ⟨rfl, hb⟩; replace BK300 := bdZ BK300 hb; replace HB := stA hb; clear hb) | (go_at_call 15; (with_reducible refine (cubic_AtS.calls false 0 0 0 0 0 5 t316 _ A22.out ?hT_).mono ?_); (case hT_ => exact tensB hL (by repeat (first | (with_reducible first | exact HB.out | apply below_alloc | apply pw_below_drewN | apply below_drew1 | refine below_set ?_ (Aside0.out (by assumption))) | exact HB.out))); rintro e w53 ⟨rfl, hb⟩; replace BK300 := bdZ BK300 hb; replace HB := stA hb; clear hb; have hcz54_0 := czZ BK300 0 (.bool t293); have hcz54_1 := czZ BK300 1 (.int .i64 t294); have hcz54_2 := czZ BK300 2 (.int .i64 t295); have hcz54_3 := czZ BK300 3 (.int .i64 t296); have hcz54_4 := czZ BK300 4 (.int .i64 t297); have hcz54_5 := czZ BK300 5 (.int .i64 t298); have hfz54_0 := blk_frozen BK300.out 0; have hfz54_1 := blk_frozen BK300.out 1; have hfz54_2 := blk_frozen BK300.out 2; have hfz54_3 := blk_frozen BK300.out 3; have hfz54_4 := blk_frozen BK300.out 4; have hfz54_5 := blk_frozen BK300.out 5) | (go_at_call 17; (with_reducible refine (cubic_TargetS.calls t293 t294 t295 t296 t297 t298 1099511627776 524288 t317 _ A24.out ?hT_).mono ?_); (case hT_ => exact tensB hL (by repeat (first | (with_reducible first | exact HB.out | apply below_alloc | apply pw_below_drewN | apply below_drew1 | refine below_set ?_ (Aside0.out (by assumption))) | exact HB.out))); rintro e w55 ⟨rfl, hb⟩; replace BK300 := bdZ BK300 hb; replace HB := stA hb; clear hb; have hcz56_0 := czZ BK300 0 (.bool t293); have hcz56_1 := czZ BK300 1 (.int .i64 t294); have hcz56_2 := czZ BK300 2 (.int .i64 t295); have hcz56_3 := czZ BK300 3 (.int .i64 t296); have hcz56_4 := czZ BK300 4 (.int .i64 t297); have hcz56_5 := czZ BK300 5 (.int .i64 t298); have hfz56_0 := blk_frozen BK300.out 0; have hfz56_1 := blk_frozen BK300.out 1; have hfz56_2 := blk_frozen BK300.out 2; have hfz56_3 := blk_frozen BK300.out 3; have hfz56_4 := blk_frozen BK300.out 4; have hfz56_5 := blk_frozen BK300.out 5) | (go_at_call 17; (with_reducible refine (cubic_TargetS.calls t293 t294 t295 t296 t297 t298 1000 524288 t318 _ A26.out ?hT_).mono ?_); (case hT_ => exact tensB hL (by repeat (first | (with_reducible first | exact HB.out | apply below_alloc | apply pw_below_drewN | apply below_drew1 | refine below_set ?_ (Aside0.out (by assumption))) | exact HB.out))); rintro e w57 ⟨rfl, hb⟩; replace BK300 := bdZ BK300 hb; replace HB := stA hb; clear hb; have hcz58_0 := czZ BK300 0 (.bool t293); have hcz58_1 := czZ BK300 1 (.int .i64 t294); have hcz58_2 := czZ BK300 2 (.int .i64 t295); have hcz58_3 := czZ BK300 3 (.int .i64 t296); have hcz58_4 := czZ BK300 4 (.int .i64 t297); have hcz58_5 := czZ BK300 5 (.int .i64 t298); have hfz58_0 := blk_frozen BK300.out 0; have hfz58_1 := blk_frozen BK300.out 1; have hfz58_2 := blk_frozen BK300.out 2; have hfz58_3 := blk_frozen BK300.out 3; have hfz58_4 := blk_frozen BK300.out 4; have hfz58_5 := blk_frozen BK300.out 5) | (go_at_call 17; (with_reducible refine (cubic_TargetS.calls t293 t294 t295 t296 t297 t298 1000 (-4) t319 _ A28.out ?hT_).mono ?_); (case hT_ => exact tensB hL (by repeat (first | (with_reducible first | exact HB.out | apply below_alloc | apply pw_below_drewN | apply below_drew1 | refine below_set ?_ (Aside0.out (by assumption))) | exact HB.out))); rintro e w59 ⟨rfl, hb⟩; replace BK300 := bdZ BK300 hb; replace HB := stA hb; clear hb))
                 go_ret
                 exact ⟨by first | rfl | (simp [errW_none, errW_some] <;> rfl) | (simp [*, errW_none, errW_some] <;> rfl), by repeat (first | (with_reducible first | exact HB.out | apply below_alloc | apply pw_below_drewN | apply below_drew1 | refine below_set ?_ GE300.out) | exact HB.out)⟩
               ·replace c32 := Bool.eq_false_iff.mpr c32
                subst c32
                have H1 : (none) = some r := by rw [if_neg (show ¬ (false = true) by decide)] at H; exact H
                clear H; have H := H1; clear H1; exact absurd H (by simp)
              ·rw [if_neg c31] at H
               exact absurd H (by simp)
             ·rw [if_neg c30] at H
              exact absurd H (by simp)
            ·rw [if_neg c29] at H
             exact absurd H (by simp)
           ·rw [if_neg c27] at H
            exact absurd H (by simp)
          ·rw [if_neg c25] at H
           exact absurd H (by simp)
         ·rw [if_neg c23] at H
          exact absurd H (by simp)
        ·rw [if_neg c21] at H
         exact absurd H (by simp)
       ·rw [if_neg c19] at H
        exact absurd H (by simp)
      ·rw [if_neg c17] at H
       exact absurd H (by simp)
     ·rw [if_neg c15] at H
      exact absurd H (by simp)
    ·rw [if_neg c12] at H
     exact absurd H (by simp)
   ·rw [if_neg c10] at H
    exact absurd H (by simp)
  ·rw [if_neg c8] at H
   exact absurd H (by simp)
 ·rw [if_neg c6] at H
  exact absurd H (by simp)

/-! ### sawtoothlaw12_awakeS: pure, behind function 10 -/
section
open Go.Proofs.YtgakpcfmgcpeaaaDoor.Sp
noncomputable def sawtoothlaw12_awakeS.f  : Option (Bool) := some true
theorem sawtoothlaw12_awakeS.eq   : sawtoothlaw12_awakeS.f  = some true := rfl
theorem sawtoothlaw12_awake.main   : sawtoothlaw12_awake.f  = some true := by
 unfold sawtoothlaw12_awake.f
 have k2 : kQ 262144 = 2154434 := kQ_eq (by omega) (by omega) (by omega) (by omega) (by omega)
 have b1 : beginQ 1000 393216 655360 = (true, 1000, 393216, 655360, 2154434, 393216, 0) := by simp [beginQ, max2, k2]
 have ev : eOk true 1000 393216 655360 2154434 393216 = true := eOk_on.2 (by unfold eOn; simp [k2])
 have l0 : lawQ 655360 2154434 2154434 = 655360 := by simp [lawQ, riseQ, c31, clamp]
 have l1 : lawQ 655360 2154434 2100000 = 655355 := by simp [lawQ, riseQ, c31, clamp]
 have l2 : lawQ 655360 2154434 4611686018427386904 = 68719476736 := by simp [lawQ, riseQ, c31, clamp]
 have l3 : lawQ 655360 2154434 (-4611686018427388904) = 0 := by simp [lawQ, riseQ, c31, clamp]
 have l4 : lawQ 655360 2154434 1099511626776 = 68719476736 := by simp [lawQ, riseQ, c31, clamp]
 have l5 : lawQ 655360 2154434 0 ≤ 393216 := by simp [lawQ, riseQ, c31, clamp]
 have at' : ∀ t, atQ true 1000 393216 655360 2154434 393216 t = lawQ 655360 2154434 (t - 1000) := by intro t; unfold atQ; rw [if_pos ⟨rfl, ev⟩]
 have q1 : ∃ N, cubic_Reach.f true 1000 393216 655360 2154434 393216 655360 = some (N, true) ∧ N ≤ 2154434 ∧ N > 2100000 := by
  have d : 655360 ≤ lawQ 655360 2154434 2154434 := by omega
  obtain ⟨n0, n1, n2, n3⟩ := reachN_spec (h := 2154434) (by omega) d; refine ⟨reachN 655360 2154434 655360, ?_, n1, ?_⟩
  ·rw [cubic_Reach.eq (by omega) (by omega) (by omega) (by omega) (by omega) (by omega)]
   unfold reachQ
   have mm := lawQ_mono (m := 655360) (k := 2154434) (a := 2154434) (b := 2147483648 + 2154434) (by omega)
   rw [if_pos ⟨⟨rfl, ev⟩, by omega⟩]
  ·rcases Int.lt_or_le 2100000 (reachN 655360 2154434 655360) with x | x
   ·exact x
   ·have := lawQ_mono (m := 655360) (k := 2154434) x
    omega
 obtain ⟨N, q1, n1, n2⟩ := q1
 have q2 : cubic_Reach.f true 1000 393216 655360 2154434 393216 68719476737 = some (0, false) := by
  rw [cubic_Reach.eq (by omega) (by omega) (by omega) (by omega) (by omega) (by omega)]
  unfold reachQ
  rw [if_neg (fun x => by have := lawQ_bd 655360 2154434 (2147483648 + 2154434); have := x.2; omega)]
 have q3 : cubic_Reach.f false 0 0 0 0 0 0 = some (0, false) := by
  rw [cubic_Reach.eq (by omega) (by omega) (by omega) (by omega) (by omega) (by omega)]
  unfold reachQ
  rw [if_neg (fun x => by have := x.1.1; cases this)]
 have f1 : cubic_RiseS.f 1000000 = some 26214 := by rw [cubic_RiseS.eq (by omega)]; simp [riseQ, c31, clamp]
 have f2 : cubic_RiseS.f 2000000 = some 209715 := by rw [cubic_RiseS.eq (by omega)]; simp [riseQ, c31, clamp]
 have f3 : cubic_RiseS.f (-1000000) = some (-26215) := by rw [cubic_RiseS.eq (by omega)]; simp [riseQ, c31, clamp]
 have f4 : cubic_RiseS.f 0 = some 0 := by rw [cubic_RiseS.eq (by omega), riseQ_zero]
 have f5 : ∃ z, cubic_RiseS.f 1099511627776 = some z ∧ cubic_RiseS.f 2147483648 = some z := ⟨riseQ 2147483648, by rw [cubic_RiseS.eq (by omega), riseQ_far (by omega)], cubic_RiseS.eq (by omega)⟩
 obtain ⟨z, f5, f6⟩ := f5
 have g1 : cubic_AtS.f true 1000 393216 655360 2154434 393216 2155434 = some 655360 := by rw [cubic_AtS.eq (by omega) (by omega) (by omega) (by omega) (by omega), at', show (2155434 : Int) - 1000 = 2154434 by omega, l0]
 have g2 : cubic_AtS.f true 1000 393216 655360 2154434 393216 4611686018427387904 = some 68719476736 := by rw [cubic_AtS.eq (by omega) (by omega) (by omega) (by omega) (by omega), at', show (4611686018427387904 : Int) - 1000 = 4611686018427386904 by omega, l2]
 have g3 : cubic_AtS.f true 1000 393216 655360 2154434 393216 (-4611686018427387904) = some 0 := by rw [cubic_AtS.eq (by omega) (by omega) (by omega) (by omega) (by omega), at', show (-4611686018427387904 : Int) - 1000 = -4611686018427388904 by omega, l3]
 have g4 : cubic_AtS.f false 0 0 0 0 0 5 = some 0 := by rw [cubic_AtS.eq (by omega) (by omega) (by omega) (by omega) (by omega)]; unfold atQ; rw [if_neg (fun x => by have := x.1; cases this)]
 have t1 : cubic_TargetS.f true 1000 393216 655360 2154434 393216 1099511627776 524288 = some 786432 := by
  rw [cubic_TargetS.eq (by omega) (by omega) (by omega) (by omega) (by omega) (by omega)]
  unfold targetQ
  rw [if_neg (fun x => x.elim (by omega) (fun y => y ⟨rfl, ev⟩)), at', show (1099511627776 : Int) - 1000 = 1099511626776 by omega, l4]
  simp [clamp, near]
 have t2 : cubic_TargetS.f true 1000 393216 655360 2154434 393216 1000 524288 = some 524288 := by
  rw [cubic_TargetS.eq (by omega) (by omega) (by omega) (by omega) (by omega) (by omega)]
  unfold targetQ
  rw [if_neg (fun x => x.elim (by omega) (fun y => y ⟨rfl, ev⟩)), at', show (1000 : Int) - 1000 = 0 by omega]
  unfold clamp near
  generalize lawQ 655360 2154434 0 = q at *
  congr 1
  (repeat' split) <;> omega
 have t3 : cubic_TargetS.f true 1000 393216 655360 2154434 393216 1000 (-4) = some (-4) := by
  rw [cubic_TargetS.eq (by omega) (by omega) (by omega) (by omega) (by omega) (by omega)]
  unfold targetQ
  rw [if_pos (Or.inl (by omega))]
 rw [epoch_BeginS.eq (by omega) (by omega) (by omega), b1]
 simp only [Option.bind_some]
 rw [q1, q2, q3]
 simp only [Option.bind_some]
 rw [f1, f2, f3, f4, f5, f6, g1, g2, g3, g4, t1, t2, t3]
 simp only [Option.bind_some, if_true]
 rw [if_pos n1, if_pos n2]
 rfl
end
theorem sawtoothlaw12_awakeS.calls  (r : Bool) (w : World) (h : sawtoothlaw12_awakeS.f  = some r) (hL : Tens w) :
  Calls Tryd.prog 10 #[] w fun e w' => e = .returned (.bool r) ∧ Below w.heap.size w w' := by
 exact sawtoothlaw12_awake.calls  r w (by rw [sawtoothlaw12_awake.main ]; exact h) hL

/-! ### sawtoothref02_digits: function 45 -/
noncomputable def sawtoothref02_digits.f (a0_0 : Bool) (a0_1 : Int) (a0_2 : Int) : Option (Int × Int × Int × Int) := some (Int.tmod a0_2 4294967296, IntKind.u64.wrap (Int.tdiv a0_2 4294967296), Int.tmod a0_1 4294967296, IntKind.u64.wrap (Int.tdiv a0_1 4294967296))
set_option maxHeartbeats 8000000 in
set_option maxRecDepth 100000 in
theorem sawtoothref02_digits.calls (a0_0 : Bool) (a0_1 : Int) (a0_2 : Int) (r1 : Int) (r2 : Int) (r3 : Int) (r4 : Int) (w : World) (h : sawtoothref02_digits.f a0_0 a0_1 a0_2 = some (r1, r2, r3, r4)) :
  Calls Tryd.prog 45 #[.agg #[.bool a0_0, .int .u64 a0_1, .int .u64 a0_2]] w fun e w' => e = .returned (.agg #[.int .u64 r1, .int .u64 r2, .int .u64 r3, .int .u64 r4]) ∧ Below w.heap.size w w' := by
 have hu33 := Tryd.underlying33; have hu58 := Tryd.underlying58; have HB := Aside0.mk (Below.refl w.heap.size w); have H : (some (Int.tmod a0_2 4294967296, IntKind.u64.wrap (Int.tdiv a0_2 4294967296), Int.tmod a0_1 4294967296, IntKind.u64.wrap (Int.tdiv a0_1 4294967296))) = some (r1, r2, r3, r4) := h; clear h; simp only [Option.some.injEq, Prod.mk.injEq] at H; obtain ⟨rfl, rfl, rfl, rfl⟩ := H
 go_enter Tryd.func45, Tryd.ntmps45
 go_wp2_with (first | ((with_reducible refine gate_dst (N := 1) rfl ?_); refine box_event ?hg (N := 1) ?hd (cs := #[.bool a0_0, .int .u64 a0_1, .int .u64 a0_2]) (t := 33) ?hr ?_; (case hd => rfl); (case hg => rfl); (case hr => first | (go_simp; done) | (go_simp; rfl)); intro gb320 hg w2 hbox hb; have BK320 := Aside0.mk (hbox); obtain ⟨GW320, nHB⟩ := geA hg hb; have GE320 := GW320; replace HB := nHB; clear nHB; clear hb hbox hg) | ((with_reducible refine gate_dst (N := 2) rfl ?_); refine box_event ?hg (N := 2) ?hd (cs := #[.int .u64 0, .int .u64 0, .int .u64 0, .int .u64 0]) (t := 58) ?hr ?_; (case hd => rfl); (case hg => rfl); (case hr => first | (go_simp; done) | (go_simp; rfl)); intro gb321 hg w3 hbox hb; have BK321 := Aside0.mk (hbox); obtain ⟨GW321, nHB⟩ := geA hg hb; have GE321 := GW321; obtain ⟨NB320_321, NB321_320, nBK⟩ := nbA BK320 hg hb; replace BK320 := nBK; clear nBK; replace HB := nHB; clear nHB; clear hb hbox hg; have hnb4 := NB320_321.out; have hnc4 := NB321_320.out; have hcz5_0 := czZ BK320 0 (.bool a0_0); have hcz5_1 := czZ BK320 1 (.int .u64 a0_1); have hcz5_2 := czZ BK320 2 (.int .u64 a0_2); have hfz5_0 := blk_frozen BK320.out 0; have hfz5_1 := blk_frozen BK320.out 1; have hfz5_2 := blk_frozen BK320.out 2; have hcz6_0 := czZ BK321 0 (.int .u64 0); have hcz6_1 := czZ BK321 1 (.int .u64 0); have hcz6_2 := czZ BK321 2 (.int .u64 0); have hcz6_3 := czZ BK321 3 (.int .u64 0); have hfz6_0 := blk_frozen BK321.out 0; have hfz6_1 := blk_frozen BK321.out 1; have hfz6_2 := blk_frozen BK321.out 2; have hfz6_3 := blk_frozen BK321.out 3))
 refine bodyPost_ret (results_cell_row rfl _ _ gb321 58 #[.int .u64 (Int.tmod a0_2 4294967296), .int .u64 (IntKind.u64.wrap (Int.tdiv a0_2 4294967296)), .int .u64 (Int.tmod a0_1 4294967296), .int .u64 (IntKind.u64.wrap (Int.tdiv a0_1 4294967296))] (0, 0) _ rfl (by (with_reducible repeat first | apply blk_drewN | apply blk_drew | apply blk_alloc); refine blk_put (cs := #[.int .u64 (Int.tmod a0_2 4294967296), .int .u64 (IntKind.u64.wrap (Int.tdiv a0_2 4294967296)), .int .u64 (Int.tmod a0_1 4294967296), .int .u64 0]) ?_ 3 _ rfl; (with_reducible repeat first | apply blk_drewN | apply blk_drew | apply blk_alloc); refine blk_put (cs := #[.int .u64 (Int.tmod a0_2 4294967296), .int .u64 (IntKind.u64.wrap (Int.tdiv a0_2 4294967296)), .int .u64 0, .int .u64 0]) ?_ 2 _ rfl; (with_reducible repeat first | apply blk_drewN | apply blk_drew | apply blk_alloc); refine blk_put (cs := #[.int .u64 (Int.tmod a0_2 4294967296), .int .u64 0, .int .u64 0, .int .u64 0]) ?_ 1 _ rfl; (with_reducible repeat first | apply blk_drewN | apply blk_drew | apply blk_alloc); refine blk_put (cs := #[.int .u64 0, .int .u64 0, .int .u64 0, .int .u64 0]) ?_ 0 _ rfl; (with_reducible repeat first | apply blk_drewN | apply blk_drew | apply blk_alloc); exact BK321.out) Tryd.underlying58 rfl (by kernel_rfl)) rfl ?_; exact ⟨by first | rfl | (simp [errW_none, errW_some] <;> rfl) | (simp [*, errW_none, errW_some] <;> rfl), by repeat (first | (with_reducible first | exact HB.out | apply below_alloc | apply pw_below_drewN | apply below_drew1 | refine below_set ?_ (Aside0.out (by assumption))) | exact HB.out)⟩

/-! ### sawtoothref02_whole: function 46 -/
noncomputable def sawtoothref02_whole.f (a0_0 : Int) (a0_1 : Int) (a0_2 : Int) (a0_3 : Int) (a1 : Bool) : Option (Bool × Int × Int) := if a1 = true then (if (IntKind.u64.wrap ((IntKind.u64.wrap (a0_3 * 4294967296)) + a0_2)) > 0 then (some (true, IntKind.u64.wrap ((IntKind.u64.wrap (a0_3 * 4294967296)) + a0_2), IntKind.u64.wrap ((IntKind.u64.wrap (a0_1 * 4294967296)) + a0_0))) else (some (decide ((IntKind.u64.wrap ((IntKind.u64.wrap (a0_1 * 4294967296)) + a0_0)) > 0), IntKind.u64.wrap ((IntKind.u64.wrap (a0_3 * 4294967296)) + a0_2), IntKind.u64.wrap ((IntKind.u64.wrap (a0_1 * 4294967296)) + a0_0)))) else (some (false, IntKind.u64.wrap ((IntKind.u64.wrap (a0_3 * 4294967296)) + a0_2), IntKind.u64.wrap ((IntKind.u64.wrap (a0_1 * 4294967296)) + a0_0)))
set_option maxHeartbeats 8000000 in
set_option maxRecDepth 100000 in
theorem sawtoothref02_whole.calls (a0_0 : Int) (a0_1 : Int) (a0_2 : Int) (a0_3 : Int) (a1 : Bool) (r1 : Bool) (r2 : Int) (r3 : Int) (w : World) (h : sawtoothref02_whole.f a0_0 a0_1 a0_2 a0_3 a1 = some (r1, r2, r3)) :
  Calls Tryd.prog 46 #[.agg #[.int .u64 a0_0, .int .u64 a0_1, .int .u64 a0_2, .int .u64 a0_3], .bool a1] w fun e w' => e = .returned (.agg #[.bool r1, .int .u64 r2, .int .u64 r3]) ∧ Below w.heap.size w w' := by
 have hu58 := Tryd.underlying58; have hu33 := Tryd.underlying33; have HB := Aside0.mk (Below.refl w.heap.size w); have H : (if a1 = true then (if (IntKind.u64.wrap ((IntKind.u64.wrap (a0_3 * 4294967296)) + a0_2)) > 0 then (some (true, IntKind.u64.wrap ((IntKind.u64.wrap (a0_3 * 4294967296)) + a0_2), IntKind.u64.wrap ((IntKind.u64.wrap (a0_1 * 4294967296)) + a0_0))) else (some (decide ((IntKind.u64.wrap ((IntKind.u64.wrap (a0_1 * 4294967296)) + a0_0)) > 0), IntKind.u64.wrap ((IntKind.u64.wrap (a0_3 * 4294967296)) + a0_2), IntKind.u64.wrap ((IntKind.u64.wrap (a0_1 * 4294967296)) + a0_0)))) else (some (false, IntKind.u64.wrap ((IntKind.u64.wrap (a0_3 * 4294967296)) + a0_2), IntKind.u64.wrap ((IntKind.u64.wrap (a0_1 * 4294967296)) + a0_0)))) = some (r1, r2, r3) := h; clear h
 by_cases c3 : a1 = true
 ·subst c3
  have H1 : (if (IntKind.u64.wrap ((IntKind.u64.wrap (a0_3 * 4294967296)) + a0_2)) > 0 then (some (true, IntKind.u64.wrap ((IntKind.u64.wrap (a0_3 * 4294967296)) + a0_2), IntKind.u64.wrap ((IntKind.u64.wrap (a0_1 * 4294967296)) + a0_0))) else (some (decide ((IntKind.u64.wrap ((IntKind.u64.wrap (a0_1 * 4294967296)) + a0_0)) > 0), IntKind.u64.wrap ((IntKind.u64.wrap (a0_3 * 4294967296)) + a0_2), IntKind.u64.wrap ((IntKind.u64.wrap (a0_1 * 4294967296)) + a0_0)))) = some (r1, r2, r3) := by rw [if_pos rfl] at H; exact H
  clear H; have H := H1; clear H1
  by_cases c4 : (IntKind.u64.wrap ((IntKind.u64.wrap (a0_3 * 4294967296)) + a0_2)) > 0
  ·rw [if_pos c4] at H
   have c4b0 : decide (0 < (IntKind.u64.wrap ((IntKind.u64.wrap (a0_3 * 4294967296)) + a0_2))) = true := decide_eq_true c4; clear c4; simp only [Option.some.injEq, Prod.mk.injEq] at H; obtain ⟨rfl, rfl, rfl⟩ := H
   go_enter Tryd.func46, Tryd.ntmps46
   go_wp2_with (first | ((with_reducible refine gate_dst (N := 2) rfl ?_); refine box_event ?hg (N := 2) ?hd (cs := #[.int .u64 a0_0, .int .u64 a0_1, .int .u64 a0_2, .int .u64 a0_3]) (t := 58) ?hr ?_; (case hd => rfl); (case hg => rfl); (case hr => first | (go_simp; done) | (go_simp; rfl)); intro gb322 hg w5 hbox hb; have BK322 := Aside0.mk (hbox); obtain ⟨GW322, nHB⟩ := geA hg hb; have GE322 := GW322; replace HB := nHB; clear nHB; clear hb hbox hg) | ((with_reducible refine gate_dst (N := 4) rfl ?_); refine box_event ?hg (N := 4) ?hd (cs := #[.bool false, .int .u64 0, .int .u64 0]) (t := 33) ?hr ?_; (case hd => rfl); (case hg => rfl); (case hr => first | (go_simp; done) | (go_simp; rfl)); intro gb323 hg w6 hbox hb; have BK323 := Aside0.mk (hbox); obtain ⟨GW323, nHB⟩ := geA hg hb; have GE323 := GW323; obtain ⟨NB322_323, NB323_322, nBK⟩ := nbA BK322 hg hb; replace BK322 := nBK; clear nBK; replace HB := nHB; clear nHB; clear hb hbox hg; have hnb7 := NB322_323.out; have hnc7 := NB323_322.out; have hcz8_0 := czZ BK322 0 (.int .u64 a0_0); have hcz8_1 := czZ BK322 1 (.int .u64 a0_1); have hcz8_2 := czZ BK322 2 (.int .u64 a0_2); have hcz8_3 := czZ BK322 3 (.int .u64 a0_3); have hfz8_0 := blk_frozen BK322.out 0; have hfz8_1 := blk_frozen BK322.out 1; have hfz8_2 := blk_frozen BK322.out 2; have hfz8_3 := blk_frozen BK322.out 3) | ((with_reducible refine gate_dst (N := 5) rfl ?_); refine box_event ?hg (N := 5) ?hd (cs := #[.bool false, .int .u64 0, .int .u64 0]) (t := 33) ?hr ?_; (case hd => rfl); (case hg => rfl); (case hr => first | (go_simp; done) | (go_simp; rfl)); intro gb324 hg w9 hbox hb; have BK324 := Aside0.mk (hbox); obtain ⟨GW324, nHB⟩ := geA hg hb; have GE324 := GW324; obtain ⟨NB322_324, NB324_322, nBK⟩ := nbA BK322 hg hb; replace BK322 := nBK; clear nBK; obtain ⟨NB323_324, NB324_323, nBK⟩ := nbA BK323 hg hb; replace BK323 := nBK; clear nBK; replace HB := nHB; clear nHB; clear hb hbox hg; have hnb10 := NB324_322.out; have hnc10 := NB322_324.out; have hnb11 := NB324_323.out; have hnc11 := NB323_324.out; have hcz12_0 := czZ BK324 0 (.bool false); have hcz12_1 := czZ BK324 1 (.int .u64 0); have hcz12_2 := czZ BK324 2 (.int .u64 0); have hfz12_0 := blk_frozen BK324.out 0; have hfz12_1 := blk_frozen BK324.out 1; have hfz12_2 := blk_frozen BK324.out 2; have hcz13_0 := czZ BK323 0 (.bool false); have hcz13_1 := czZ BK323 1 (.int .u64 0); have hcz13_2 := czZ BK323 2 (.int .u64 0); have hfz13_0 := blk_frozen BK323.out 0; have hfz13_1 := blk_frozen BK323.out 1; have hfz13_2 := blk_frozen BK323.out 2))
   refine bodyPost_ret (results_cell_row rfl _ _ gb323 33 #[.bool true, .int .u64 (IntKind.u64.wrap ((IntKind.u64.wrap (a0_3 * 4294967296)) + a0_2)), .int .u64 (IntKind.u64.wrap ((IntKind.u64.wrap (a0_1 * 4294967296)) + a0_0))] (0, 0) _ rfl (by (with_reducible repeat first | apply blk_drewN | apply blk_drew | apply blk_alloc); refine blk_put (cs := #[.bool true, .int .u64 (IntKind.u64.wrap ((IntKind.u64.wrap (a0_3 * 4294967296)) + a0_2)), .int .u64 0]) ?_ 2 _ rfl; (with_reducible repeat first | apply blk_drewN | apply blk_drew | apply blk_alloc); refine blk_put (cs := #[.bool true, .int .u64 0, .int .u64 0]) ?_ 1 _ rfl; (with_reducible repeat first | apply blk_drewN | apply blk_drew | apply blk_alloc); refine blk_put (cs := #[.bool false, .int .u64 0, .int .u64 0]) ?_ 0 _ rfl; (with_reducible repeat first | apply blk_drewN | apply blk_drew | apply blk_alloc); refine blk_far ?_ NB323_324.out _; (with_reducible repeat first | apply blk_drewN | apply blk_drew | apply blk_alloc); refine blk_far ?_ NB323_324.out _; (with_reducible repeat first | apply blk_drewN | apply blk_drew | apply blk_alloc); refine blk_far ?_ NB323_324.out _; (with_reducible repeat first | apply blk_drewN | apply blk_drew | apply blk_alloc); refine blk_far ?_ NB323_324.out _; (with_reducible repeat first | apply blk_drewN | apply blk_drew | apply blk_alloc); exact BK323.out) Tryd.underlying33 rfl (by kernel_rfl)) rfl ?_; exact ⟨by first | rfl | (simp [errW_none, errW_some] <;> rfl) | (simp [*, errW_none, errW_some] <;> rfl), by repeat (first | (with_reducible first | exact HB.out | apply below_alloc | apply pw_below_drewN | apply below_drew1 | refine below_set ?_ (Aside0.out (by assumption))) | exact HB.out)⟩
  ·rw [if_neg c4] at H
   have c4b0 : decide (0 < (IntKind.u64.wrap ((IntKind.u64.wrap (a0_3 * 4294967296)) + a0_2))) = false := decide_eq_false c4; clear c4; simp only [Option.some.injEq, Prod.mk.injEq] at H; obtain ⟨rfl, rfl, rfl⟩ := H
   go_enter Tryd.func46, Tryd.ntmps46
   go_wp2_with (first | ((with_reducible refine gate_dst (N := 2) rfl ?_); refine box_event ?hg (N := 2) ?hd (cs := #[.int .u64 a0_0, .int .u64 a0_1, .int .u64 a0_2, .int .u64 a0_3]) (t := 58) ?hr ?_; (case hd => rfl); (case hg => rfl); (case hr => first | (go_simp; done) | (go_simp; rfl)); intro gb322 hg w14 hbox hb; have BK322 := Aside0.mk (hbox); obtain ⟨GW322, nHB⟩ := geA hg hb; have GE322 := GW322; replace HB := nHB; clear nHB; clear hb hbox hg) | ((with_reducible refine gate_dst (N := 4) rfl ?_); refine box_event ?hg (N := 4) ?hd (cs := #[.bool false, .int .u64 0, .int .u64 0]) (t := 33) ?hr ?_; (case hd => rfl); (case hg => rfl); (case hr => first | (go_simp; done) | (go_simp; rfl)); intro gb323 hg w15 hbox hb; have BK323 := Aside0.mk (hbox); obtain ⟨GW323, nHB⟩ := geA hg hb; have GE323 := GW323; obtain ⟨NB322_323, NB323_322, nBK⟩ := nbA BK322 hg hb; replace BK322 := nBK; clear nBK; replace HB := nHB; clear nHB; clear hb hbox hg; have hnb16 := NB322_323.out; have hnc16 := NB323_322.out; have hcz17_0 := czZ BK322 0 (.int .u64 a0_0); have hcz17_1 := czZ BK322 1 (.int .u64 a0_1); have hcz17_2 := czZ BK322 2 (.int .u64 a0_2); have hcz17_3 := czZ BK322 3 (.int .u64 a0_3); have hfz17_0 := blk_frozen BK322.out 0; have hfz17_1 := blk_frozen BK322.out 1; have hfz17_2 := blk_frozen BK322.out 2; have hfz17_3 := blk_frozen BK322.out 3) | ((with_reducible refine gate_dst (N := 5) rfl ?_); refine box_event ?hg (N := 5) ?hd (cs := #[.bool false, .int .u64 0, .int .u64 0]) (t := 33) ?hr ?_; (case hd => rfl); (case hg => rfl); (case hr => first | (go_simp; done) | (go_simp; rfl)); intro gb324 hg w18 hbox hb; have BK324 := Aside0.mk (hbox); obtain ⟨GW324, nHB⟩ := geA hg hb; have GE324 := GW324; obtain ⟨NB322_324, NB324_322, nBK⟩ := nbA BK322 hg hb; replace BK322 := nBK; clear nBK; obtain ⟨NB323_324, NB324_323, nBK⟩ := nbA BK323 hg hb; replace BK323 := nBK; clear nBK; replace HB := nHB; clear nHB; clear hb hbox hg; have hnb19 := NB324_322.out; have hnc19 := NB322_324.out; have hnb20 := NB324_323.out; have hnc20 := NB323_324.out; have hcz21_0 := czZ BK324 0 (.bool false); have hcz21_1 := czZ BK324 1 (.int .u64 0); have hcz21_2 := czZ BK324 2 (.int .u64 0); have hfz21_0 := blk_frozen BK324.out 0; have hfz21_1 := blk_frozen BK324.out 1; have hfz21_2 := blk_frozen BK324.out 2; have hcz22_0 := czZ BK323 0 (.bool false); have hcz22_1 := czZ BK323 1 (.int .u64 0); have hcz22_2 := czZ BK323 2 (.int .u64 0); have hfz22_0 := blk_frozen BK323.out 0; have hfz22_1 := blk_frozen BK323.out 1; have hfz22_2 := blk_frozen BK323.out 2))
   refine bodyPost_ret (results_cell_row rfl _ _ gb323 33 #[.bool (decide ((IntKind.u64.wrap ((IntKind.u64.wrap (a0_1 * 4294967296)) + a0_0)) > 0)), .int .u64 (IntKind.u64.wrap ((IntKind.u64.wrap (a0_3 * 4294967296)) + a0_2)), .int .u64 (IntKind.u64.wrap ((IntKind.u64.wrap (a0_1 * 4294967296)) + a0_0))] (0, 0) _ rfl (by (with_reducible repeat first | apply blk_drewN | apply blk_drew | apply blk_alloc); refine blk_put (cs := #[.bool (decide ((IntKind.u64.wrap ((IntKind.u64.wrap (a0_1 * 4294967296)) + a0_0)) > 0)), .int .u64 (IntKind.u64.wrap ((IntKind.u64.wrap (a0_3 * 4294967296)) + a0_2)), .int .u64 0]) ?_ 2 _ rfl; (with_reducible repeat first | apply blk_drewN | apply blk_drew | apply blk_alloc); refine blk_put (cs := #[.bool (decide ((IntKind.u64.wrap ((IntKind.u64.wrap (a0_1 * 4294967296)) + a0_0)) > 0)), .int .u64 0, .int .u64 0]) ?_ 1 _ rfl; (with_reducible repeat first | apply blk_drewN | apply blk_drew | apply blk_alloc); refine blk_put (cs := #[.bool false, .int .u64 0, .int .u64 0]) ?_ 0 _ rfl; (with_reducible repeat first | apply blk_drewN | apply blk_drew | apply blk_alloc); refine blk_far ?_ NB323_324.out _; (with_reducible repeat first | apply blk_drewN | apply blk_drew | apply blk_alloc); refine blk_far ?_ NB323_324.out _; (with_reducible repeat first | apply blk_drewN | apply blk_drew | apply blk_alloc); refine blk_far ?_ NB323_324.out _; (with_reducible repeat first | apply blk_drewN | apply blk_drew | apply blk_alloc); refine blk_far ?_ NB323_324.out _; (with_reducible repeat first | apply blk_drewN | apply blk_drew | apply blk_alloc); exact BK323.out) Tryd.underlying33 rfl (by kernel_rfl)) rfl ?_; exact ⟨by first | rfl | (simp [errW_none, errW_some] <;> rfl) | (simp [*, errW_none, errW_some] <;> rfl), by repeat (first | (with_reducible first | exact HB.out | apply below_alloc | apply pw_below_drewN | apply below_drew1 | refine below_set ?_ (Aside0.out (by assumption))) | exact HB.out)⟩
 ·replace c3 := Bool.eq_false_iff.mpr c3
  subst c3
  have H1 : (some (false, IntKind.u64.wrap ((IntKind.u64.wrap (a0_3 * 4294967296)) + a0_2), IntKind.u64.wrap ((IntKind.u64.wrap (a0_1 * 4294967296)) + a0_0))) = some (r1, r2, r3) := by rw [if_neg (show ¬ (false = true) by decide)] at H; exact H
  clear H; have H := H1; clear H1; simp only [Option.some.injEq, Prod.mk.injEq] at H; obtain ⟨rfl, rfl, rfl⟩ := H
  go_enter Tryd.func46, Tryd.ntmps46
  go_wp2_with (first | ((with_reducible refine gate_dst (N := 2) rfl ?_); refine box_event ?hg (N := 2) ?hd (cs := #[.int .u64 a0_0, .int .u64 a0_1, .int .u64 a0_2, .int .u64 a0_3]) (t := 58) ?hr ?_; (case hd => rfl); (case hg => rfl); (case hr => first | (go_simp; done) | (go_simp; rfl)); intro gb322 hg w23 hbox hb; have BK322 := Aside0.mk (hbox); obtain ⟨GW322, nHB⟩ := geA hg hb; have GE322 := GW322; replace HB := nHB; clear nHB; clear hb hbox hg) | ((with_reducible refine gate_dst (N := 4) rfl ?_); refine box_event ?hg (N := 4) ?hd (cs := #[.bool false, .int .u64 0, .int .u64 0]) (t := 33) ?hr ?_; (case hd => rfl); (case hg => rfl); (case hr => first | (go_simp; done) | (go_simp; rfl)); intro gb323 hg w24 hbox hb; have BK323 := Aside0.mk (hbox); obtain ⟨GW323, nHB⟩ := geA hg hb; have GE323 := GW323; obtain ⟨NB322_323, NB323_322, nBK⟩ := nbA BK322 hg hb; replace BK322 := nBK; clear nBK; replace HB := nHB; clear nHB; clear hb hbox hg; have hnb25 := NB322_323.out; have hnc25 := NB323_322.out; have hcz26_0 := czZ BK322 0 (.int .u64 a0_0); have hcz26_1 := czZ BK322 1 (.int .u64 a0_1); have hcz26_2 := czZ BK322 2 (.int .u64 a0_2); have hcz26_3 := czZ BK322 3 (.int .u64 a0_3); have hfz26_0 := blk_frozen BK322.out 0; have hfz26_1 := blk_frozen BK322.out 1; have hfz26_2 := blk_frozen BK322.out 2; have hfz26_3 := blk_frozen BK322.out 3) | ((with_reducible refine gate_dst (N := 5) rfl ?_); refine box_event ?hg (N := 5) ?hd (cs := #[.bool false, .int .u64 0, .int .u64 0]) (t := 33) ?hr ?_; (case hd => rfl); (case hg => rfl); (case hr => first | (go_simp; done) | (go_simp; rfl)); intro gb324 hg w27 hbox hb; have BK324 := Aside0.mk (hbox); obtain ⟨GW324, nHB⟩ := geA hg hb; have GE324 := GW324; obtain ⟨NB322_324, NB324_322, nBK⟩ := nbA BK322 hg hb; replace BK322 := nBK; clear nBK; obtain ⟨NB323_324, NB324_323, nBK⟩ := nbA BK323 hg hb; replace BK323 := nBK; clear nBK; replace HB := nHB; clear nHB; clear hb hbox hg; have hnb28 := NB324_322.out; have hnc28 := NB322_324.out; have hnb29 := NB324_323.out; have hnc29 := NB323_324.out; have hcz30_0 := czZ BK324 0 (.bool false); have hcz30_1 := czZ BK324 1 (.int .u64 0); have hcz30_2 := czZ BK324 2 (.int .u64 0); have hfz30_0 := blk_frozen BK324.out 0; have hfz30_1 := blk_frozen BK324.out 1; have hfz30_2 := blk_frozen BK324.out 2; have hcz31_0 := czZ BK323 0 (.bool false); have hcz31_1 := czZ BK323 1 (.int .u64 0); have hcz31_2 := czZ BK323 2 (.int .u64 0); have hfz31_0 := blk_frozen BK323.out 0; have hfz31_1 := blk_frozen BK323.out 1; have hfz31_2 := blk_frozen BK323.out 2))
  refine bodyPost_ret (results_cell_row rfl _ _ gb323 33 #[.bool false, .int .u64 (IntKind.u64.wrap ((IntKind.u64.wrap (a0_3 * 4294967296)) + a0_2)), .int .u64 (IntKind.u64.wrap ((IntKind.u64.wrap (a0_1 * 4294967296)) + a0_0))] (0, 0) _ rfl (by (with_reducible repeat first | apply blk_drewN | apply blk_drew | apply blk_alloc); refine blk_put (cs := #[.bool false, .int .u64 (IntKind.u64.wrap ((IntKind.u64.wrap (a0_3 * 4294967296)) + a0_2)), .int .u64 0]) ?_ 2 _ rfl; (with_reducible repeat first | apply blk_drewN | apply blk_drew | apply blk_alloc); refine blk_put (cs := #[.bool false, .int .u64 0, .int .u64 0]) ?_ 1 _ rfl; (with_reducible repeat first | apply blk_drewN | apply blk_drew | apply blk_alloc); refine blk_put (cs := #[.bool false, .int .u64 0, .int .u64 0]) ?_ 0 _ rfl; (with_reducible repeat first | apply blk_drewN | apply blk_drew | apply blk_alloc); refine blk_far ?_ NB323_324.out _; (with_reducible repeat first | apply blk_drewN | apply blk_drew | apply blk_alloc); refine blk_far ?_ NB323_324.out _; (with_reducible repeat first | apply blk_drewN | apply blk_drew | apply blk_alloc); refine blk_far ?_ NB323_324.out _; (with_reducible repeat first | apply blk_drewN | apply blk_drew | apply blk_alloc); refine blk_far ?_ NB323_324.out _; (with_reducible repeat first | apply blk_drewN | apply blk_drew | apply blk_alloc); exact BK323.out) Tryd.underlying33 rfl (by kernel_rfl)) rfl ?_; exact ⟨by first | rfl | (simp [errW_none, errW_some] <;> rfl) | (simp [*, errW_none, errW_some] <;> rfl), by repeat (first | (with_reducible first | exact HB.out | apply below_alloc | apply pw_below_drewN | apply below_drew1 | refine below_set ?_ (Aside0.out (by assumption))) | exact HB.out)⟩

/-! ### sawtoothref02_wholeS: four digits and a sign: pure, behind function 46 -/
noncomputable def sawtoothref02_wholeS.f (a b c d : Int) (s : Bool) : Option (Bool × Int × Int) := Sp.need (Sp.Dg a ∧ Sp.Dg b ∧ Sp.Dg c ∧ Sp.Dg d) (some (Sp.encN (Sp.val s (d * 4294967296 + c) (b * 4294967296 + a)), Sp.encH (Sp.val s (d * 4294967296 + c) (b * 4294967296 + a)), Sp.encL (Sp.val s (d * 4294967296 + c) (b * 4294967296 + a))))
section Ref02Whole
open Go.Proofs.YtgakpcfmgcpeaaaDoor.Sp
theorem sawtoothref02_digits.eq {n : Bool} {h l : Int} (h1 : U h) (h2 : U l) : sawtoothref02_digits.f n h l = some (l % 4294967296, l / 4294967296, h % 4294967296, h / 4294967296) := by
 have tm : ∀ {x : Int}, U x → Int.tmod x 4294967296 = x % 4294967296 := fun h => Int.tmod_eq_emod_of_nonneg h.1
 have td : ∀ {x : Int}, U x → IntKind.u64.wrap (Int.tdiv x 4294967296) = x / 4294967296 := fun h => by rw [Int.tdiv_eq_ediv_of_nonneg h.1]; exact u64w_in (by omega)
 unfold sawtoothref02_digits.f; rw [tm h2, td h2, tm h1, td h1]
theorem sawtoothref02_wholeS.eq {a b c d : Int} {s : Bool} (h1 : Dg a) (h2 : Dg b) (h3 : Dg c) (h4 : Dg d) : sawtoothref02_wholeS.f a b c d s = some (encN (val s (d * 4294967296 + c) (b * 4294967296 + a)), encH (val s (d * 4294967296 + c) (b * 4294967296 + a)), encL (val s (d * 4294967296 + c) (b * 4294967296 + a))) := need_pos ⟨h1, h2, h3, h4⟩
theorem sawtoothref02_whole.main {a b c d : Int} {s : Bool} (h1 : Dg a) (h2 : Dg b) (h3 : Dg c) (h4 : Dg d) : sawtoothref02_whole.f a b c d s = some (encN (val s (d * 4294967296 + c) (b * 4294967296 + a)), encH (val s (d * 4294967296 + c) (b * 4294967296 + a)), encL (val s (d * 4294967296 + c) (b * 4294967296 + a))) := by
 unfold sawtoothref02_whole.f
 have e1 : IntKind.u64.wrap (IntKind.u64.wrap (d * 4294967296) + c) = d * 4294967296 + c := by rw [u64w, u64w]; omega
 have e2 : IntKind.u64.wrap (IntKind.u64.wrap (b * 4294967296) + a) = b * 4294967296 + a := by rw [u64w, u64w]; omega
 rw [e1, e2]
 have u1 : U (d * 4294967296 + c) := by omega
 have u2 : U (b * 4294967296 + a) := by omega
 clear e1 e2 h1 h2 h3 h4
 generalize d * 4294967296 + c = h at *
 generalize b * 4294967296 + a = l at *
 cases s with
 | false =>
  obtain ⟨k1, k2, k3⟩ := enc_of (n := false) u1 u2 (by simp)
  rw [if_neg (by simp), k1, k2, k3]
 | true =>
  rw [if_pos rfl]
  by_cases hz : h = 0 ∧ l = 0
  ·obtain ⟨rfl, rfl⟩ := hz
   rw [val_t]; simp [encN, encH, encL]
  ·obtain ⟨k1, k2, k3⟩ := enc_of (n := true) u1 u2 (fun _ => hz)
   rw [k1, k2, k3]
   by_cases hp : h > 0
   ·rw [if_pos hp]
   ·rw [if_neg hp, decide_eq_true (by omega)]
end Ref02Whole
theorem sawtoothref02_wholeS.calls (a b c d : Int) (s : Bool) (r1 : Bool) (r2 r3 : Int) (w : World) (h : sawtoothref02_wholeS.f a b c d s = some (r1, r2, r3)) :
  Calls Tryd.prog 46 #[.agg #[.int .u64 a, .int .u64 b, .int .u64 c, .int .u64 d], .bool s] w fun e w' => e = .returned (.agg #[.bool r1, .int .u64 r2, .int .u64 r3]) ∧ Below w.heap.size w w' := by
 obtain ⟨hc, h⟩ := Sp.need_some h; obtain ⟨h1, h2, h3, h4⟩ := hc; exact sawtoothref02_whole.calls a b c d s r1 r2 r3 w (by rw [sawtoothref02_whole.main h1 h2 h3 h4]; exact h)

end Go.Proofs.YtgakpcfmgcpeaaaDoor.Px
