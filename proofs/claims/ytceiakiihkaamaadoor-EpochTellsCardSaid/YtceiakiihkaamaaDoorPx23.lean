/- Printed by px.py, over the kit's print. Conditions: none beside the theorems' own. -/
import Derived.Test.YtceiakiihkaamaaDoorPx0
import Derived.Test.YtceiakiihkaamaaDoorPx4
import Derived.Test.YtceiakiihkaamaaDoorPx5
import Derived.Test.YtceiakiihkaamaaDoorPx6
import Derived.Test.YtceiakiihkaamaaDoorPx7
import Derived.Test.YtceiakiihkaamaaDoorPx8
import Derived.Test.YtceiakiihkaamaaDoorPx17
import Derived.Test.YtceiakiihkaamaaDoorPx22
import Derived.Test.YtceiakiihkaamaaDoorSpec
namespace Go.Proofs.YtceiakiihkaamaaDoor.Px
open Go.RowKit Go.Proofs.YtceiakiihkaamaaDoorW.PrintWords Go.Proofs.YtceiakiihkaamaaDoorW.PrintLast Go.Proofs.YtceiakiihkaamaaDoorW.PrintMore
attribute [local go_sem] max2_int min2_int max_two min_two max_three min_three max_four min_four
set_option linter.unusedVariables false
set_option linter.unusedSimpArgs false

/-! ### epoch_K: function 13 -/
/-- The table of the parts of 10^19 lies as the program's text lays it. -/
def Tens (w : World) : Prop := ∃ t, w.heap[0]? = some (.cells #[.int .u64 1000000000, .int .u64 10000000000] t (0, 0))
theorem tensB {w w' : World} (h : Tens w) (hb : Below w.heap.size w w') : Tens w' := by
 obtain ⟨t, h⟩ := h; exact ⟨t, by rw [hb.block _ (Array.getElem?_eq_some_iff.1 h).1]; exact h⟩
noncomputable def epoch_K.f (a : Int) : Option Int := Sp.need (Sp.I a) (some (Sp.kQ a))
theorem epoch_K.eq {a : Int} (h1 : Sp.I a) : epoch_K.f a = some (Sp.kQ a) := Sp.need_pos h1
theorem epoch_K.put {w : World} {g : Nat} {x y z : Value} {t : TypeId} (h : w.heap[g]? = some (.cells #[x, y, z] t (0, 0))) (a b c : Value) : (((w.setCell ⟨g, 0, none⟩ a).setCell ⟨g, 1, none⟩ b).setCell ⟨g, 2, none⟩ c).heap[g]? = some (.cells #[a, b, c] t (0, 0)) :=
 blk_put (blk_put (blk_put h 0 a rfl) 1 b rfl) 2 c rfl
set_option maxHeartbeats 2000000 in
set_option maxRecDepth 100000 in
theorem epoch_K.walk (a0 c n0 n1 n2 n3 n4 n5 : Int) (s0 s1 s2 s3 : Bool) (q0 q1 rm rt r : Int) (HS1 : Aside0 (safe_ClampS.f a0 0 68719476736 = some c)) (HS2 : Aside0 (big_OfS.f c = some (s0, n0, n1))) (HS3 : Aside0 (big_ScaleS.f s0 n0 n1 1000000000 = some (s1, n2, n3, 0)))
  (HS4 : Aside0 (big_ScaleS.f s1 n2 n3 10000000000 = some (s2, n4, n5, 0))) (HS5 : Aside0 (big_DivS.f s2 n4 n5 262144 = some (s3, q0, q1, rm, 0))) (HS6 : Aside0 (root_Third.f s3 q0 q1 = some rt)) (hr : wrap64 rt = r) (w : World) (hL : Tens w) :
  Calls Tryd.prog 13 #[.int .i64 a0] w fun e w' => e = .returned (.int .i64 r) ∧ Below w.heap.size w w' := by
 have HB := Aside0.mk (Below.refl w.heap.size w); obtain ⟨tt, hT⟩ := hL; have BT := Aside0.mk hT
 have hi0 : ∀ w : World, (Instr.index 49 (.agg #[.int .u64 1000000000, .int .u64 10000000000]) (.int .i64 0)).run Tryd.prog w = .ok (.int .u64 1000000000) w := fun _ => by kernel_rfl
 have hi1 : ∀ w : World, (Instr.index 49 (.agg #[.int .u64 1000000000, .int .u64 10000000000]) (.int .i64 1)).run Tryd.prog w = .ok (.int .u64 10000000000) w := fun _ => by kernel_rfl
 clear hT
 go_enter Tryd.func13, Tryd.ntmps13
 go_wp2_with (first
  | (go_at_call 28; refine (safe_ClampS.calls a0 0 68719476736 c _ HS1.out).mono ?_; rintro e1 w1 ⟨rfl, hb⟩; replace BT := bbZ BT hb; replace HB := stA hb; clear hb)
  | (go_at_call 23; refine (big_OfS.calls c s0 n0 n1 _ HS2.out).mono ?_; rintro e1 w2 ⟨rfl, hb⟩; replace BT := bbZ BT hb; replace HB := stA hb; clear hb)
  | ((with_reducible refine gate_dst (N := 3) rfl ?_); refine box_event ?hg (N := 3) ?hd (cs := #[.bool false, .int .u64 0, .int .u64 0]) (t := 35) ?hr ?_; (case hd => rfl); (case hg => rfl); (case hr => first | (go_simp; done) | (go_simp; rfl)); intro gb hg w3 hbox hb; have BK1 := Aside0.mk hbox; obtain ⟨GW1, nHB⟩ := geA hg hb; have GE1 := GW1; obtain ⟨NB1, NB2, nBK⟩ := nbA BT hg hb; replace BT := nBK; clear nBK; replace HB := nHB; clear nHB; clear hb hbox hg; have z0 := czZ BK1 0 (.bool false); have z1 := czZ BK1 1 (.int .u64 0); have z2 := czZ BK1 2 (.int .u64 0); have f0 := blk_frozen BK1.out 0; have f1 := blk_frozen BK1.out 1; have f2 := blk_frozen BK1.out 2; have y0 := czZ BT 0 (.int .u64 1000000000); have y1 := czZ BT 1 (.int .u64 10000000000); have n1_ := NB1.out; have n2_ := NB2.out)
  | fail)
 refine wp_loop_rounds 3 ?_
 rw [rounds_succ]
 go_wp2_with (first | (go_at_call 22; refine (big_ScaleS.calls s0 n0 n1 1000000000 s1 n2 n3 0 _ HS3.out).mono ?_; rintro e1 w4 ⟨rfl, hb⟩; replace BK1 := Aside0.mk (blk_below (epoch_K.put BK1.out (.bool s0) (.int .u64 n0) (.int .u64 n1)) hb); replace HB := Aside0.mk (below_step (by repeat (first | (with_reducible first | apply below_alloc | exact HB.out | apply pw_below_drewN | apply below_drew1 | refine below_set ?_ GE1.out) | exact HB.out)) hb); clear hb z0 z1 z2 f0 f1 f2; have z0 := czZ BK1 0 (.bool s0); have z1 := czZ BK1 1 (.int .u64 n0); have z2 := czZ BK1 2 (.int .u64 n1); have f0 := blk_frozen BK1.out 0; have f1 := blk_frozen BK1.out 1; have f2 := blk_frozen BK1.out 2) | fail)
 rw [rounds_succ]
 go_wp2_with (first | (go_at_call 22; refine (big_ScaleS.calls s1 n2 n3 10000000000 s2 n4 n5 0 _ HS4.out).mono ?_; rintro e1 w5 ⟨rfl, hb⟩; replace BK1 := Aside0.mk (blk_below (epoch_K.put BK1.out (.bool s1) (.int .u64 n2) (.int .u64 n3)) hb); replace HB := Aside0.mk (below_step (by repeat (first | (with_reducible first | apply below_alloc | exact HB.out | apply pw_below_drewN | apply below_drew1 | refine below_set ?_ GE1.out) | exact HB.out)) hb); clear hb z0 z1 z2 f0 f1 f2; have z0 := czZ BK1 0 (.bool s1); have z1 := czZ BK1 1 (.int .u64 n2); have z2 := czZ BK1 2 (.int .u64 n3); have f0 := blk_frozen BK1.out 0; have f1 := blk_frozen BK1.out 1; have f2 := blk_frozen BK1.out 2) | fail)
 rw [rounds_succ]
 go_wp2_with (first | (go_at_call 29; refine (big_DivS.calls s2 n4 n5 262144 s3 q0 q1 rm 0 _ HS5.out).mono ?_; rintro e1 w6 ⟨rfl, hb⟩; replace BK1 := Aside0.mk (blk_below (epoch_K.put BK1.out (.bool s2) (.int .u64 n4) (.int .u64 n5)) hb); replace HB := Aside0.mk (below_step (by repeat (first | (with_reducible first | apply below_alloc | exact HB.out | apply pw_below_drewN | apply below_drew1 | refine below_set ?_ GE1.out) | exact HB.out)) hb); clear hb z0 z1 z2 f0 f1 f2; have z0 := czZ BK1 0 (.bool s2); have z1 := czZ BK1 1 (.int .u64 n4); have z2 := czZ BK1 2 (.int .u64 n5); have f0 := blk_frozen BK1.out 0; have f1 := blk_frozen BK1.out 1; have f2 := blk_frozen BK1.out 2) | (go_at_call 30; refine (root_Third.calls s3 q0 q1 rt _ HS6.out).mono ?_; rintro e1 w7 ⟨rfl, hb⟩; replace HB := Aside0.mk (below_step (by repeat (first | (with_reducible first | apply below_alloc | exact HB.out | apply pw_below_drewN | apply below_drew1 | refine below_set ?_ GE1.out) | exact HB.out)) hb); clear hb) | fail)
 go_ret
 exact ⟨by first | rfl | (simp; done) | (simp [*]; done), (by repeat (first | (with_reducible first | apply below_alloc | exact HB.out | apply pw_below_drewN | apply below_drew1 | refine below_set ?_ GE1.out) | exact HB.out))⟩
theorem epoch_K.calls (a0 r : Int) (w : World) (h : epoch_K.f a0 = some r) (hL : Tens w) :
  Calls Tryd.prog 13 #[.int .i64 a0] w fun e w' => e = .returned (.int .i64 r) ∧ Below w.heap.size w w' := by
 obtain ⟨h1, h⟩ := Sp.need_some h; obtain rfl := Option.some.inj h; have c := Sp.clamp_bd (a := a0) (low := 0) (high := 68719476736) (by omega); have kb := Sp.kQ_bd a0; have e0 : Sp.kQ a0 = Sp.root3 (Sp.clamp a0 0 68719476736 * 10000000000000000000 / 262144) := rfl; have s0 := safe_ClampS.eq (a := a0) (b := 0) (c := 68719476736) h1 (by omega) (by omega)
 generalize Sp.clamp a0 0 68719476736 = g at *
 have e1 : g * 1000000000 * 10000000000 = g * 10000000000000000000 := by omega
 have s1 := (big_ScaleS.enc (v := g) (k := 1000000000) (by omega) (by omega)).trans (Sp.held_in (by omega)); have s2 := (big_ScaleS.enc (v := g * 1000000000) (k := 10000000000) (by omega) (by omega)).trans (Sp.held_in (by omega)); have s3 := (big_DivS.enc (v := g * 1000000000 * 10000000000) (d := 262144) (by omega) (by omega)).trans (Sp.quo_pos (by omega))
 have bq : Sp.B (g * 1000000000 * 10000000000 / 262144) := by omega
 have s4 := root_Third.eq (n := Sp.encN (g * 1000000000 * 10000000000 / 262144)) (Sp.encH_U bq) (Sp.encL_U (v := g * 1000000000 * 10000000000 / 262144)); have ve := @Sp.val_enc (g * 1000000000 * 10000000000 / 262144)
 rw [Sp.encN_pos (by omega), Sp.val_f] at ve
 refine epoch_K.walk a0 g _ _ _ _ _ _ _ _ _ _ _ _ _ _ _ ⟨s0⟩ ⟨big_OfS.eq (by omega)⟩ ⟨s1⟩ ⟨s2⟩ ⟨s3⟩ ⟨s4⟩ ?_ w hL
 rw [ve, e1, ← e0, Sp.w64 (by omega)]

/-! ### epoch_time: function 25 -/
noncomputable def epoch_time.f (a0 : Int) : Option (Bool) := if a0 ≥ 0 then (some (decide (a0 ≤ 1099511627776))) else (some false)
set_option maxHeartbeats 8000000 in
set_option maxRecDepth 100000 in
theorem epoch_time.calls (a0 : Int) (r : Bool) (w : World) (h : epoch_time.f a0 = some r) :
  Calls Tryd.prog 25 #[.int .i64 a0] w fun e w' => e = .returned (.bool r) ∧ Drawn0 w w' := by
 have H : (if a0 ≥ 0 then (some (decide (a0 ≤ 1099511627776))) else (some false)) = some r := h; clear h
 by_cases c2 : a0 ≥ 0
 ·rw [if_pos c2] at H
  have c2b0 : decide (0 ≤ a0) = true := decide_eq_true c2; clear c2; obtain rfl := Option.some.inj H
  go_enter Tryd.func25, Tryd.ntmps25
  go_wp2
  go_ret
  exact ⟨by first | rfl | (simp; done) | (simp [*]; done), by repeat (first | exact Drawn0.refl _ | apply Drawn0.step)⟩
 ·rw [if_neg c2] at H
  have c2b0 : decide (0 ≤ a0) = false := decide_eq_false c2; clear c2; obtain rfl := Option.some.inj H
  go_enter Tryd.func25, Tryd.ntmps25
  go_wp2
  go_ret
  exact ⟨by first | rfl | (simp; done) | (simp [*]; done), by repeat (first | exact Drawn0.refl _ | apply Drawn0.step)⟩

/-! ### epoch_window: function 26 -/
noncomputable def epoch_window.f (a0 : Int) : Option (Bool) := if a0 ≥ 0 then (some (decide (a0 ≤ 68719476736))) else (some false)
set_option maxHeartbeats 8000000 in
set_option maxRecDepth 100000 in
theorem epoch_window.calls (a0 : Int) (r : Bool) (w : World) (h : epoch_window.f a0 = some r) :
  Calls Tryd.prog 26 #[.int .i64 a0] w fun e w' => e = .returned (.bool r) ∧ Drawn0 w w' := by
 have H : (if a0 ≥ 0 then (some (decide (a0 ≤ 68719476736))) else (some false)) = some r := h; clear h
 by_cases c2 : a0 ≥ 0
 ·rw [if_pos c2] at H
  have c2b0 : decide (0 ≤ a0) = true := decide_eq_true c2; clear c2; obtain rfl := Option.some.inj H
  go_enter Tryd.func26, Tryd.ntmps26
  go_wp2
  go_ret
  exact ⟨by first | rfl | (simp; done) | (simp [*]; done), by repeat (first | exact Drawn0.refl _ | apply Drawn0.step)⟩
 ·rw [if_neg c2] at H
  have c2b0 : decide (0 ≤ a0) = false := decide_eq_false c2; clear c2; obtain rfl := Option.some.inj H
  go_enter Tryd.func26, Tryd.ntmps26
  go_wp2
  go_ret
  exact ⟨by first | rfl | (simp; done) | (simp [*]; done), by repeat (first | exact Drawn0.refl _ | apply Drawn0.step)⟩

/-! ### epoch_windowS: pure, behind function 26 -/
section
open Go.Proofs.YtceiakiihkaamaaDoor.Sp
noncomputable def epoch_windowS.f (n : Int) : Option (Bool) := some (winOk n)
theorem epoch_windowS.eq {n : Int}  : epoch_windowS.f n = some (winOk n) := rfl
theorem epoch_window.main {n : Int}  : epoch_window.f n = some (winOk n) := by
 unfold epoch_window.f winOk
 by_cases c1 : 0 ≤ n <;> by_cases c2 : n ≤ 68719476736 <;> simp [c1, c2]
end
theorem epoch_windowS.calls (a0 : Int) (r : Bool) (w : World) (h : epoch_windowS.f a0 = some r) :
  Calls Tryd.prog 26 #[.int .i64 a0] w fun e w' => e = .returned (.bool r) ∧ Below w.heap.size w w' := by
 refine (epoch_window.calls a0 r w (by rw [epoch_window.main ]; exact h)).mono (fun e w' hq => ⟨hq.1, ?_⟩); obtain ⟨nd, rfl⟩ := hq.2; exact pw_below_drewN (Below.refl _ _) nd

/-! ### epoch_Begin: function 11 -/
noncomputable def epoch_Begin.f (a0 : Int) (a1 : Int) (a2 : Int) : Option (Bool × Int × Int × Int × Int × Int × Int) := (epoch_time.f a0).bind fun t230 => (if t230 = true then ((epoch_windowS.f a1).bind fun t231 => (if t231 = true then ((epoch_windowS.f a2).bind fun t232 => (if t232 = true then ((epoch_K.f (wrap64 ((mx a2 a1) - a1))).bind fun t233 => (some (true, a0, a1, mx a2 a1, t233, a1, 0))) else (some (false, 0, 0, 0, 0, 0, 201)))) else (some (false, 0, 0, 0, 0, 0, 201)))) else (some (false, 0, 0, 0, 0, 0, 201)))
set_option maxHeartbeats 8000000 in
set_option maxRecDepth 100000 in
theorem epoch_Begin.calls (a0 : Int) (a1 : Int) (a2 : Int) (r1 : Bool) (r2 : Int) (r3 : Int) (r4 : Int) (r5 : Int) (r6 : Int) (r7 : Int) (w : World) (h : epoch_Begin.f a0 a1 a2 = some (r1, r2, r3, r4, r5, r6, r7)) (hL : Tens w) :
  Calls Tryd.prog 11 #[.int .i64 a0, .int .i64 a1, .int .i64 a2] w fun e w' => e = .returned (.tuple #[.agg #[.bool r1, .int .i64 r2, .int .i64 r3, .int .i64 r4, .int .i64 r5, .int .i64 r6], .int .i64 r7]) ∧ Below w.heap.size w w' := by
 have hu23 := Tryd.underlying23; have HB := Aside0.mk (Below.refl w.heap.size w); have H : ((epoch_time.f a0).bind fun t230 => (if t230 = true then ((epoch_windowS.f a1).bind fun t231 => (if t231 = true then ((epoch_windowS.f a2).bind fun t232 => (if t232 = true then ((epoch_K.f (wrap64 ((mx a2 a1) - a1))).bind fun t233 => (some (true, a0, a1, mx a2 a1, t233, a1, 0))) else (some (false, 0, 0, 0, 0, 0, 201)))) else (some (false, 0, 0, 0, 0, 0, 201)))) else (some (false, 0, 0, 0, 0, 0, 201)))) = some (r1, r2, r3, r4, r5, r6, r7) := h; clear h; replace H := Option.bind_eq_some_iff.mp H; obtain ⟨t230, A40, H⟩ := H; (try dsimp only at H); have A4 := Aside0.mk A40; clear A40
 by_cases c5 : t230 = true
 ·subst c5
  have H1 : ((epoch_windowS.f a1).bind fun t231 => (if t231 = true then ((epoch_windowS.f a2).bind fun t232 => (if t232 = true then ((epoch_K.f (wrap64 ((mx a2 a1) - a1))).bind fun t233 => (some (true, a0, a1, mx a2 a1, t233, a1, 0))) else (some (false, 0, 0, 0, 0, 0, 201)))) else (some (false, 0, 0, 0, 0, 0, 201)))) = some (r1, r2, r3, r4, r5, r6, r7) := by rw [if_pos rfl] at H; exact H
  clear H; have H := H1; clear H1; replace H := Option.bind_eq_some_iff.mp H; obtain ⟨t231, A60, H⟩ := H; (try dsimp only at H); have A6 := Aside0.mk A60; clear A60
  by_cases c7 : t231 = true
  ·subst c7
   have H1 : ((epoch_windowS.f a2).bind fun t232 => (if t232 = true then ((epoch_K.f (wrap64 ((mx a2 a1) - a1))).bind fun t233 => (some (true, a0, a1, mx a2 a1, t233, a1, 0))) else (some (false, 0, 0, 0, 0, 0, 201)))) = some (r1, r2, r3, r4, r5, r6, r7) := by rw [if_pos rfl] at H; exact H
   clear H; have H := H1; clear H1; replace H := Option.bind_eq_some_iff.mp H; obtain ⟨t232, A80, H⟩ := H; (try dsimp only at H); have A8 := Aside0.mk A80; clear A80
   by_cases c9 : t232 = true
   ·subst c9
    have H1 : ((epoch_K.f (wrap64 ((mx a2 a1) - a1))).bind fun t233 => (some (true, a0, a1, mx a2 a1, t233, a1, 0))) = some (r1, r2, r3, r4, r5, r6, r7) := by rw [if_pos rfl] at H; exact H
    clear H; have H := H1; clear H1
    obtain ⟨ji10, hji10⟩ : ∃ j_ : Int, (mx a2 a1) = j_ := ⟨_, rfl⟩
    replace H : ((epoch_K.f (wrap64 ((ji10) - a1))).bind fun t233 => (some (true, a0, a1, ji10, t233, a1, 0))) = some (r1, r2, r3, r4, r5, r6, r7) := by first | (rw [hji10] at H; exact H) | (simp only [hji10] at H ⊢; exact H)
    (try rw [hji10] at A4)
    (try rw [hji10] at A6)
    (try rw [hji10] at A8)
    have hji10_ : (if a2 < a1 then a1 else a2) = ji10 := hji10; replace H := Option.bind_eq_some_iff.mp H; obtain ⟨t233, A110, H⟩ := H; replace H : (some (true, a0, a1, ji10, t233, a1, 0)) = some (r1, r2, r3, r4, r5, r6, r7) := H; have A11 := Aside0.mk A110; clear A110; simp only [Option.some.injEq, Prod.mk.injEq] at H; obtain ⟨rfl, rfl, rfl, rfl, rfl, rfl, rfl⟩ := H
    go_enter Tryd.func11, Tryd.ntmps11
    go_wp2_with (first | ((with_reducible refine gate_dst (N := 6) rfl ?_); refine box_event ?hg (N := 6) ?hd (cs := #[.bool false, .int .i64 0, .int .i64 0, .int .i64 0, .int .i64 0, .int .i64 0]) (t := 23) ?hr ?_; (case hd => rfl); (case hg => rfl); (case hr => first | (go_simp; done) | (go_simp; rfl)); intro gb229 hg w12 hbox hb; have BK229 := Aside0.mk (hbox); obtain ⟨GW229, nHB⟩ := geA hg hb; have GE229 := GW229; replace HB := nHB; clear nHB; clear hb hbox hg) | ((with_reducible refine gate_callee (f := 25) rfl ?_); refine goesLA_ (some 9) rfl rfl Tryd.func25 rfl #[.int .i64 a0] rfl ?_; (with_reducible refine (epoch_time.calls a0 true _ A4.out).mono ?_); rintro e w' ⟨rfl, ⟨nd, rfl⟩⟩; refine ⟨_, rfl, ?_⟩; (try (rw [drewN_self w12]; generalize hq_ : World.drewN w12 _ = w12; have n0_ : Aside0 (w12.heap[gb229]? = some (.cells #[.bool false, .int .i64 0, .int .i64 0, .int .i64 0, .int .i64 0, .int .i64 0] 23 (0, 0))) := ⟨by rw [← hq_]; exact (by (with_reducible repeat first | apply blk_drewN | apply blk_drew | apply blk_alloc); exact BK229.out)⟩; have n1_ : Aside0 (Below w.heap.size w w12) := ⟨by rw [← hq_]; exact (by repeat (first | (with_reducible first | exact HB.out | apply below_alloc | apply pw_below_drewN | apply below_drew1 | refine below_set ?_ GE229.out) | exact HB.out))⟩; clear BK229 HB hq_; have BK229 := n0_; have HB := n1_; clear n0_ n1_))) | (go_at_call 26; (with_reducible refine (epoch_windowS.calls a1 true _ A6.out).mono ?_); rintro e w13 ⟨rfl, hb⟩; replace BK229 := bdZ BK229 hb; replace HB := stA hb; clear hb) | (go_at_call 26; (with_reducible refine (epoch_windowS.calls a2 true _ A8.out).mono ?_); rintro e w14 ⟨rfl, hb⟩; replace BK229 := bdZ BK229 hb; replace HB := stA hb; clear hb) | ((with_reducible refine gate_callee (f := 13) rfl ?_); refine goesL_ (some 31) rfl rfl Tryd.func13 (by kernel_rfl) rfl #[.int .i64 (wrap64 ((ji10) - a1))] rfl (by (try simp only [List.map_toArray, List.map_cons, List.map_nil]); first | done | (simp only [hji10]; rfl) | rfl | (simp only [List.length_drop, List.length_take]; rfl)) ?_; (with_reducible refine (epoch_K.calls (wrap64 ((ji10) - a1)) t233 _ A11.out ?hT_).mono ?_); (case hT_ => exact tensB hL (by repeat (first | (with_reducible first | exact HB.out | apply below_alloc | apply pw_below_drewN | apply below_drew1 | refine below_set ?_ (Aside0.out (by assumption))) | exact HB.out))); rintro e w15 ⟨rfl, hb⟩; refine ⟨_, rfl, ?_⟩; replace BK229 := bdZ BK229 hb; replace HB := stA hb; clear hb; have hcz16_0 := czZ BK229 0 (.bool false); have hcz16_1 := czZ BK229 1 (.int .i64 0); have hcz16_2 := czZ BK229 2 (.int .i64 0); have hcz16_3 := czZ BK229 3 (.int .i64 0); have hcz16_4 := czZ BK229 4 (.int .i64 0); have hcz16_5 := czZ BK229 5 (.int .i64 0); have hfz16_0 := blk_frozen BK229.out 0; have hfz16_1 := blk_frozen BK229.out 1; have hfz16_2 := blk_frozen BK229.out 2; have hfz16_3 := blk_frozen BK229.out 3; have hfz16_4 := blk_frozen BK229.out 4; have hfz16_5 := blk_frozen BK229.out 5))
    refine bodyPost_ret (results_ct rfl _ _ gb229 23 #[.bool true, .int .i64 a0, .int .i64 a1, .int .i64 ji10, .int .i64 t233, .int .i64 a1] (0, 0) _ rfl (by (with_reducible repeat first | apply blk_drewN | apply blk_drew | apply blk_alloc); refine blk_put (cs := #[.bool true, .int .i64 a0, .int .i64 a1, .int .i64 ji10, .int .i64 t233, .int .i64 0]) ?_ 5 _ rfl; (with_reducible repeat first | apply blk_drewN | apply blk_drew | apply blk_alloc); refine blk_put (cs := #[.bool true, .int .i64 a0, .int .i64 a1, .int .i64 ji10, .int .i64 0, .int .i64 0]) ?_ 4 _ rfl; (with_reducible repeat first | apply blk_drewN | apply blk_drew | apply blk_alloc); refine blk_put (cs := #[.bool true, .int .i64 a0, .int .i64 a1, .int .i64 0, .int .i64 0, .int .i64 0]) ?_ 3 _ rfl; (with_reducible repeat first | apply blk_drewN | apply blk_drew | apply blk_alloc); refine blk_put (cs := #[.bool true, .int .i64 a0, .int .i64 0, .int .i64 0, .int .i64 0, .int .i64 0]) ?_ 2 _ rfl; (with_reducible repeat first | apply blk_drewN | apply blk_drew | apply blk_alloc); refine blk_put (cs := #[.bool true, .int .i64 0, .int .i64 0, .int .i64 0, .int .i64 0, .int .i64 0]) ?_ 1 _ rfl; (with_reducible repeat first | apply blk_drewN | apply blk_drew | apply blk_alloc); refine blk_put (cs := #[.bool false, .int .i64 0, .int .i64 0, .int .i64 0, .int .i64 0, .int .i64 0]) ?_ 0 _ rfl; (with_reducible repeat first | apply blk_drewN | apply blk_drew | apply blk_alloc); exact BK229.out) Tryd.underlying23 rfl (by kernel_rfl)) rfl ?_; exact ⟨by first | rfl | (simp [errW_none, errW_some] <;> rfl) | (simp only [← hji10]; first | rfl | (simp [errW_none, errW_some] <;> rfl)) | (simp [*, errW_none, errW_some] <;> rfl), by repeat (first | (with_reducible first | exact HB.out | apply below_alloc | apply pw_below_drewN | apply below_drew1 | refine below_set ?_ GE229.out) | exact HB.out)⟩
   ·replace c9 := Bool.eq_false_iff.mpr c9
    subst c9
    have H1 : (some (false, 0, 0, 0, 0, 0, 201)) = some (r1, r2, r3, r4, r5, r6, r7) := by rw [if_neg (show ¬ (false = true) by decide)] at H; exact H
    clear H; have H := H1; clear H1; simp only [Option.some.injEq, Prod.mk.injEq] at H; obtain ⟨rfl, rfl, rfl, rfl, rfl, rfl, rfl⟩ := H
    go_enter Tryd.func11, Tryd.ntmps11
    go_wp2_with (first | ((with_reducible refine gate_dst (N := 6) rfl ?_); refine box_event ?hg (N := 6) ?hd (cs := #[.bool false, .int .i64 0, .int .i64 0, .int .i64 0, .int .i64 0, .int .i64 0]) (t := 23) ?hr ?_; (case hd => rfl); (case hg => rfl); (case hr => first | (go_simp; done) | (go_simp; rfl)); intro gb229 hg w17 hbox hb; have BK229 := Aside0.mk (hbox); obtain ⟨GW229, nHB⟩ := geA hg hb; have GE229 := GW229; replace HB := nHB; clear nHB; clear hb hbox hg) | ((with_reducible refine gate_callee (f := 25) rfl ?_); refine goesLA_ (some 9) rfl rfl Tryd.func25 rfl #[.int .i64 a0] rfl ?_; (with_reducible refine (epoch_time.calls a0 true _ A4.out).mono ?_); rintro e w' ⟨rfl, ⟨nd, rfl⟩⟩; refine ⟨_, rfl, ?_⟩; (try (rw [drewN_self w17]; generalize hq_ : World.drewN w17 _ = w17; have n0_ : Aside0 (w17.heap[gb229]? = some (.cells #[.bool false, .int .i64 0, .int .i64 0, .int .i64 0, .int .i64 0, .int .i64 0] 23 (0, 0))) := ⟨by rw [← hq_]; exact (by (with_reducible repeat first | apply blk_drewN | apply blk_drew | apply blk_alloc); exact BK229.out)⟩; have n1_ : Aside0 (Below w.heap.size w w17) := ⟨by rw [← hq_]; exact (by repeat (first | (with_reducible first | exact HB.out | apply below_alloc | apply pw_below_drewN | apply below_drew1 | refine below_set ?_ GE229.out) | exact HB.out))⟩; clear BK229 HB hq_; have BK229 := n0_; have HB := n1_; clear n0_ n1_))) | (go_at_call 26; (with_reducible refine (epoch_windowS.calls a1 true _ A6.out).mono ?_); rintro e w18 ⟨rfl, hb⟩; replace BK229 := bdZ BK229 hb; replace HB := stA hb; clear hb) | (go_at_call 26; (with_reducible refine (epoch_windowS.calls a2 false _ A8.out).mono ?_); rintro e w19 ⟨rfl, hb⟩; replace BK229 := bdZ BK229 hb; replace HB := stA hb; clear hb; have hcz20_0 := czZ BK229 0 (.bool false); have hcz20_1 := czZ BK229 1 (.int .i64 0); have hcz20_2 := czZ BK229 2 (.int .i64 0); have hcz20_3 := czZ BK229 3 (.int .i64 0); have hcz20_4 := czZ BK229 4 (.int .i64 0); have hcz20_5 := czZ BK229 5 (.int .i64 0); have hfz20_0 := blk_frozen BK229.out 0; have hfz20_1 := blk_frozen BK229.out 1; have hfz20_2 := blk_frozen BK229.out 2; have hfz20_3 := blk_frozen BK229.out 3; have hfz20_4 := blk_frozen BK229.out 4; have hfz20_5 := blk_frozen BK229.out 5))
    refine bodyPost_ret (results_ct rfl _ _ gb229 23 #[.bool false, .int .i64 0, .int .i64 0, .int .i64 0, .int .i64 0, .int .i64 0] (0, 0) _ rfl (by (with_reducible repeat first | apply blk_drewN | apply blk_drew | apply blk_alloc); refine blk_put (cs := #[.bool false, .int .i64 0, .int .i64 0, .int .i64 0, .int .i64 0, .int .i64 0]) ?_ 5 _ rfl; (with_reducible repeat first | apply blk_drewN | apply blk_drew | apply blk_alloc); refine blk_put (cs := #[.bool false, .int .i64 0, .int .i64 0, .int .i64 0, .int .i64 0, .int .i64 0]) ?_ 4 _ rfl; (with_reducible repeat first | apply blk_drewN | apply blk_drew | apply blk_alloc); refine blk_put (cs := #[.bool false, .int .i64 0, .int .i64 0, .int .i64 0, .int .i64 0, .int .i64 0]) ?_ 3 _ rfl; (with_reducible repeat first | apply blk_drewN | apply blk_drew | apply blk_alloc); refine blk_put (cs := #[.bool false, .int .i64 0, .int .i64 0, .int .i64 0, .int .i64 0, .int .i64 0]) ?_ 2 _ rfl; (with_reducible repeat first | apply blk_drewN | apply blk_drew | apply blk_alloc); refine blk_put (cs := #[.bool false, .int .i64 0, .int .i64 0, .int .i64 0, .int .i64 0, .int .i64 0]) ?_ 1 _ rfl; (with_reducible repeat first | apply blk_drewN | apply blk_drew | apply blk_alloc); refine blk_put (cs := #[.bool false, .int .i64 0, .int .i64 0, .int .i64 0, .int .i64 0, .int .i64 0]) ?_ 0 _ rfl; (with_reducible repeat first | apply blk_drewN | apply blk_drew | apply blk_alloc); exact BK229.out) Tryd.underlying23 rfl (by kernel_rfl)) rfl ?_; exact ⟨by first | rfl | (simp [errW_none, errW_some] <;> rfl) | (simp [*, errW_none, errW_some] <;> rfl), by repeat (first | (with_reducible first | exact HB.out | apply below_alloc | apply pw_below_drewN | apply below_drew1 | refine below_set ?_ GE229.out) | exact HB.out)⟩
  ·replace c7 := Bool.eq_false_iff.mpr c7
   subst c7
   have H1 : (some (false, 0, 0, 0, 0, 0, 201)) = some (r1, r2, r3, r4, r5, r6, r7) := by rw [if_neg (show ¬ (false = true) by decide)] at H; exact H
   clear H; have H := H1; clear H1; simp only [Option.some.injEq, Prod.mk.injEq] at H; obtain ⟨rfl, rfl, rfl, rfl, rfl, rfl, rfl⟩ := H
   go_enter Tryd.func11, Tryd.ntmps11
   go_wp2_with (first | ((with_reducible refine gate_dst (N := 6) rfl ?_); refine box_event ?hg (N := 6) ?hd (cs := #[.bool false, .int .i64 0, .int .i64 0, .int .i64 0, .int .i64 0, .int .i64 0]) (t := 23) ?hr ?_; (case hd => rfl); (case hg => rfl); (case hr => first | (go_simp; done) | (go_simp; rfl)); intro gb229 hg w21 hbox hb; have BK229 := Aside0.mk (hbox); obtain ⟨GW229, nHB⟩ := geA hg hb; have GE229 := GW229; replace HB := nHB; clear nHB; clear hb hbox hg) | ((with_reducible refine gate_callee (f := 25) rfl ?_); refine goesLA_ (some 9) rfl rfl Tryd.func25 rfl #[.int .i64 a0] rfl ?_; (with_reducible refine (epoch_time.calls a0 true _ A4.out).mono ?_); rintro e w' ⟨rfl, ⟨nd, rfl⟩⟩; refine ⟨_, rfl, ?_⟩; (try (rw [drewN_self w21]; generalize hq_ : World.drewN w21 _ = w21; have n0_ : Aside0 (w21.heap[gb229]? = some (.cells #[.bool false, .int .i64 0, .int .i64 0, .int .i64 0, .int .i64 0, .int .i64 0] 23 (0, 0))) := ⟨by rw [← hq_]; exact (by (with_reducible repeat first | apply blk_drewN | apply blk_drew | apply blk_alloc); exact BK229.out)⟩; have n1_ : Aside0 (Below w.heap.size w w21) := ⟨by rw [← hq_]; exact (by repeat (first | (with_reducible first | exact HB.out | apply below_alloc | apply pw_below_drewN | apply below_drew1 | refine below_set ?_ GE229.out) | exact HB.out))⟩; clear BK229 HB hq_; have BK229 := n0_; have HB := n1_; clear n0_ n1_))) | (go_at_call 26; (with_reducible refine (epoch_windowS.calls a1 false _ A6.out).mono ?_); rintro e w22 ⟨rfl, hb⟩; replace BK229 := bdZ BK229 hb; replace HB := stA hb; clear hb; have hcz23_0 := czZ BK229 0 (.bool false); have hcz23_1 := czZ BK229 1 (.int .i64 0); have hcz23_2 := czZ BK229 2 (.int .i64 0); have hcz23_3 := czZ BK229 3 (.int .i64 0); have hcz23_4 := czZ BK229 4 (.int .i64 0); have hcz23_5 := czZ BK229 5 (.int .i64 0); have hfz23_0 := blk_frozen BK229.out 0; have hfz23_1 := blk_frozen BK229.out 1; have hfz23_2 := blk_frozen BK229.out 2; have hfz23_3 := blk_frozen BK229.out 3; have hfz23_4 := blk_frozen BK229.out 4; have hfz23_5 := blk_frozen BK229.out 5))
   refine bodyPost_ret (results_ct rfl _ _ gb229 23 #[.bool false, .int .i64 0, .int .i64 0, .int .i64 0, .int .i64 0, .int .i64 0] (0, 0) _ rfl (by (with_reducible repeat first | apply blk_drewN | apply blk_drew | apply blk_alloc); refine blk_put (cs := #[.bool false, .int .i64 0, .int .i64 0, .int .i64 0, .int .i64 0, .int .i64 0]) ?_ 5 _ rfl; (with_reducible repeat first | apply blk_drewN | apply blk_drew | apply blk_alloc); refine blk_put (cs := #[.bool false, .int .i64 0, .int .i64 0, .int .i64 0, .int .i64 0, .int .i64 0]) ?_ 4 _ rfl; (with_reducible repeat first | apply blk_drewN | apply blk_drew | apply blk_alloc); refine blk_put (cs := #[.bool false, .int .i64 0, .int .i64 0, .int .i64 0, .int .i64 0, .int .i64 0]) ?_ 3 _ rfl; (with_reducible repeat first | apply blk_drewN | apply blk_drew | apply blk_alloc); refine blk_put (cs := #[.bool false, .int .i64 0, .int .i64 0, .int .i64 0, .int .i64 0, .int .i64 0]) ?_ 2 _ rfl; (with_reducible repeat first | apply blk_drewN | apply blk_drew | apply blk_alloc); refine blk_put (cs := #[.bool false, .int .i64 0, .int .i64 0, .int .i64 0, .int .i64 0, .int .i64 0]) ?_ 1 _ rfl; (with_reducible repeat first | apply blk_drewN | apply blk_drew | apply blk_alloc); refine blk_put (cs := #[.bool false, .int .i64 0, .int .i64 0, .int .i64 0, .int .i64 0, .int .i64 0]) ?_ 0 _ rfl; (with_reducible repeat first | apply blk_drewN | apply blk_drew | apply blk_alloc); exact BK229.out) Tryd.underlying23 rfl (by kernel_rfl)) rfl ?_; exact ⟨by first | rfl | (simp [errW_none, errW_some] <;> rfl) | (simp [*, errW_none, errW_some] <;> rfl), by repeat (first | (with_reducible first | exact HB.out | apply below_alloc | apply pw_below_drewN | apply below_drew1 | refine below_set ?_ GE229.out) | exact HB.out)⟩
 ·replace c5 := Bool.eq_false_iff.mpr c5
  subst c5
  have H1 : (some (false, 0, 0, 0, 0, 0, 201)) = some (r1, r2, r3, r4, r5, r6, r7) := by rw [if_neg (show ¬ (false = true) by decide)] at H; exact H
  clear H; have H := H1; clear H1; simp only [Option.some.injEq, Prod.mk.injEq] at H; obtain ⟨rfl, rfl, rfl, rfl, rfl, rfl, rfl⟩ := H
  go_enter Tryd.func11, Tryd.ntmps11
  go_wp2_with (first | ((with_reducible refine gate_dst (N := 6) rfl ?_); refine box_event ?hg (N := 6) ?hd (cs := #[.bool false, .int .i64 0, .int .i64 0, .int .i64 0, .int .i64 0, .int .i64 0]) (t := 23) ?hr ?_; (case hd => rfl); (case hg => rfl); (case hr => first | (go_simp; done) | (go_simp; rfl)); intro gb229 hg w24 hbox hb; have BK229 := Aside0.mk (hbox); obtain ⟨GW229, nHB⟩ := geA hg hb; have GE229 := GW229; replace HB := nHB; clear nHB; clear hb hbox hg) | ((with_reducible refine gate_callee (f := 25) rfl ?_); refine goesLA_ (some 9) rfl rfl Tryd.func25 rfl #[.int .i64 a0] rfl ?_; (with_reducible refine (epoch_time.calls a0 false _ A4.out).mono ?_); rintro e w' ⟨rfl, ⟨nd, rfl⟩⟩; refine ⟨_, rfl, ?_⟩; (try (rw [drewN_self w24]; generalize hq_ : World.drewN w24 _ = w24; have n0_ : Aside0 (w24.heap[gb229]? = some (.cells #[.bool false, .int .i64 0, .int .i64 0, .int .i64 0, .int .i64 0, .int .i64 0] 23 (0, 0))) := ⟨by rw [← hq_]; exact (by (with_reducible repeat first | apply blk_drewN | apply blk_drew | apply blk_alloc); exact BK229.out)⟩; have n1_ : Aside0 (Below w.heap.size w w24) := ⟨by rw [← hq_]; exact (by repeat (first | (with_reducible first | exact HB.out | apply below_alloc | apply pw_below_drewN | apply below_drew1 | refine below_set ?_ GE229.out) | exact HB.out))⟩; clear BK229 HB hq_; have BK229 := n0_; have HB := n1_; clear n0_ n1_)); have hcz25_0 := czZ BK229 0 (.bool false); have hcz25_1 := czZ BK229 1 (.int .i64 0); have hcz25_2 := czZ BK229 2 (.int .i64 0); have hcz25_3 := czZ BK229 3 (.int .i64 0); have hcz25_4 := czZ BK229 4 (.int .i64 0); have hcz25_5 := czZ BK229 5 (.int .i64 0); have hfz25_0 := blk_frozen BK229.out 0; have hfz25_1 := blk_frozen BK229.out 1; have hfz25_2 := blk_frozen BK229.out 2; have hfz25_3 := blk_frozen BK229.out 3; have hfz25_4 := blk_frozen BK229.out 4; have hfz25_5 := blk_frozen BK229.out 5))
  refine bodyPost_ret (results_ct rfl _ _ gb229 23 #[.bool false, .int .i64 0, .int .i64 0, .int .i64 0, .int .i64 0, .int .i64 0] (0, 0) _ rfl (by (with_reducible repeat first | apply blk_drewN | apply blk_drew | apply blk_alloc); refine blk_put (cs := #[.bool false, .int .i64 0, .int .i64 0, .int .i64 0, .int .i64 0, .int .i64 0]) ?_ 5 _ rfl; (with_reducible repeat first | apply blk_drewN | apply blk_drew | apply blk_alloc); refine blk_put (cs := #[.bool false, .int .i64 0, .int .i64 0, .int .i64 0, .int .i64 0, .int .i64 0]) ?_ 4 _ rfl; (with_reducible repeat first | apply blk_drewN | apply blk_drew | apply blk_alloc); refine blk_put (cs := #[.bool false, .int .i64 0, .int .i64 0, .int .i64 0, .int .i64 0, .int .i64 0]) ?_ 3 _ rfl; (with_reducible repeat first | apply blk_drewN | apply blk_drew | apply blk_alloc); refine blk_put (cs := #[.bool false, .int .i64 0, .int .i64 0, .int .i64 0, .int .i64 0, .int .i64 0]) ?_ 2 _ rfl; (with_reducible repeat first | apply blk_drewN | apply blk_drew | apply blk_alloc); refine blk_put (cs := #[.bool false, .int .i64 0, .int .i64 0, .int .i64 0, .int .i64 0, .int .i64 0]) ?_ 1 _ rfl; (with_reducible repeat first | apply blk_drewN | apply blk_drew | apply blk_alloc); refine blk_put (cs := #[.bool false, .int .i64 0, .int .i64 0, .int .i64 0, .int .i64 0, .int .i64 0]) ?_ 0 _ rfl; (with_reducible repeat first | apply blk_drewN | apply blk_drew | apply blk_alloc); exact BK229.out) Tryd.underlying23 rfl (by kernel_rfl)) rfl ?_; exact ⟨by first | rfl | (simp [errW_none, errW_some] <;> rfl) | (simp [*, errW_none, errW_some] <;> rfl), by repeat (first | (with_reducible first | exact HB.out | apply below_alloc | apply pw_below_drewN | apply below_drew1 | refine below_set ?_ GE229.out) | exact HB.out)⟩

/-! ### epoch_BeginS: pure, behind function 11 -/
section
open Go.Proofs.YtceiakiihkaamaaDoor.Sp
noncomputable def epoch_BeginS.f (s : Int) (f : Int) (m : Int) : Option (Bool × Int × Int × Int × Int × Int × Int) := need ((I s) ∧ (I f) ∧ (I m)) (some (beginQ s f m))
theorem epoch_BeginS.eq {s : Int} {f : Int} {m : Int} (h1 : I s) (h2 : I f) (h3 : I m) : epoch_BeginS.f s f m = some (beginQ s f m) := need_pos ⟨h1, h2, h3⟩
theorem epoch_Begin.main {s : Int} {f : Int} {m : Int} (h1 : I s) (h2 : I f) (h3 : I m) : epoch_Begin.f s f m = some (beginQ s f m) := by
 unfold epoch_Begin.f epoch_time.f beginQ
 rw [epoch_windowS.eq, epoch_windowS.eq]
 have e : mx m f = max2 m f := rfl
 rw [e]
 simp only [Option.bind_some]
 by_cases h : 0 ≤ s ∧ s ≤ 1099511627776 ∧ 0 ≤ f ∧ f ≤ 68719476736 ∧ 0 ≤ m ∧ m ≤ 68719476736
 ·have b : f ≤ max2 m f ∧ max2 m f ≤ 68719476736 := by unfold max2; split <;> omega
  have wf : winOk f = true := by unfold winOk; exact decide_eq_true (by omega)
  have wm : winOk m = true := by unfold winOk; exact decide_eq_true (by omega)
  rw [if_pos h, if_pos (show s ≥ 0 from h.1), decide_eq_true h.2.1, wf, wm, w64 (x := max2 m f - f) (by omega), epoch_K.eq (by omega)]
  rfl
 ·rw [if_neg h]
  by_cases c1 : s ≥ 0
  ·rw [if_pos c1]
   by_cases c2 : s ≤ 1099511627776
   ·rw [decide_eq_true c2]
    cases wf : winOk f
    ·rfl
    ·cases wm : winOk m
     ·rfl
     ·unfold winOk at wf wm
      have x := of_decide_eq_true wf; have y := of_decide_eq_true wm; exact absurd ⟨c1, c2, x.1, x.2, y.1, y.2⟩ h
   ·rw [decide_eq_false c2]; rfl
  ·rw [if_neg c1]; rfl
end
theorem epoch_BeginS.calls (a0 : Int) (a1 : Int) (a2 : Int) (r1 : Bool) (r2 : Int) (r3 : Int) (r4 : Int) (r5 : Int) (r6 : Int) (r7 : Int) (w : World) (h : epoch_BeginS.f a0 a1 a2 = some (r1, r2, r3, r4, r5, r6, r7)) (hL : Tens w) :
  Calls Tryd.prog 11 #[.int .i64 a0, .int .i64 a1, .int .i64 a2] w fun e w' => e = .returned (.tuple #[.agg #[.bool r1, .int .i64 r2, .int .i64 r3, .int .i64 r4, .int .i64 r5, .int .i64 r6], .int .i64 r7]) ∧ Below w.heap.size w w' := by
 obtain ⟨hc, h⟩ := Sp.need_some h; obtain ⟨h1, h2, h3⟩ := hc; exact epoch_Begin.calls a0 a1 a2 r1 r2 r3 r4 r5 r6 r7 w (by rw [epoch_Begin.main h1 h2 h3]; exact h) hL

/-! ### frac_Floor_1: function 53 -/
noncomputable def frac_Floor_1.f (a0 : Int) (a1 : Int) : Option (Bool) := some false
set_option maxHeartbeats 8000000 in
set_option maxRecDepth 100000 in
theorem frac_Floor_1.calls (a0 : Int) (a1 : Int) (r : Bool) (w : World) (h : frac_Floor_1.f a0 a1 = some r) :
  Calls Tryd.prog 53 #[.int .u64 a0, .int .u64 a1] w fun e w' => e = .returned (.bool r) ∧ Drawn0 w w' := by
 have H : (some false) = some r := h; clear h; obtain rfl := Option.some.inj H
 go_enter Tryd.func53, Tryd.ntmps53
 go_wp2
 go_ret
 exact ⟨by first | rfl | (simp; done) | (simp [*]; done), by repeat (first | exact Drawn0.refl _ | apply Drawn0.step)⟩

/-! ### big_Mul: function 71 -/
noncomputable def big_Mul.f (a0 : Int) (a1 : Int) : Option (Bool × Int × Int) := (big_far.f a0).bind fun t235 => ((big_far.f a1).bind fun t236 => ((bits_Mul64.f t235 t236).bind fun bt237 => ((big_size_with.f bt237.1 bt237.2 ((decide (a0 < 0)) != (decide (a1 < 0)))).bind fun bt239 => (some (bt239.1, bt239.2.1, bt239.2.2)))))
set_option maxHeartbeats 8000000 in
set_option maxRecDepth 100000 in
theorem big_Mul.calls (a0 : Int) (a1 : Int) (r1 : Bool) (r2 : Int) (r3 : Int) (w : World) (h : big_Mul.f a0 a1 = some (r1, r2, r3)) :
  Calls Tryd.prog 71 #[.int .i64 a0, .int .i64 a1] w fun e w' => e = .returned (.agg #[.bool r1, .int .u64 r2, .int .u64 r3]) ∧ Below w.heap.size w w' := by
 have hu35 := Tryd.underlying35; have hu61 := Tryd.underlying61; have HB := Aside0.mk (Below.refl w.heap.size w); have H : ((big_far.f a0).bind fun t235 => ((big_far.f a1).bind fun t236 => ((bits_Mul64.f t235 t236).bind fun bt237 => ((big_size_with.f bt237.1 bt237.2 ((decide (a0 < 0)) != (decide (a1 < 0)))).bind fun bt239 => (some (bt239.1, bt239.2.1, bt239.2.2)))))) = some (r1, r2, r3) := h; clear h; replace H := Option.bind_eq_some_iff.mp H; obtain ⟨t235, A30, H⟩ := H; (try dsimp only at H); have A3 := Aside0.mk A30; clear A30; replace H := Option.bind_eq_some_iff.mp H; obtain ⟨t236, A40, H⟩ := H; replace H : ((bits_Mul64.f t235 t236).bind fun bt237 => ((big_size_with.f bt237.1 bt237.2 ((decide (a0 < 0)) != (decide (a1 < 0)))).bind fun bt239 => (some (bt239.1, bt239.2.1, bt239.2.2)))) = some (r1, r2, r3) := H; have A4 := Aside0.mk A40; clear A40; replace H := Option.bind_eq_some_iff.mp H; obtain ⟨⟨t237, t238⟩, A50, H⟩ := H; replace H : ((big_size_with.f t237 t238 ((decide (a0 < 0)) != (decide (a1 < 0)))).bind fun bt239 => (some (bt239.1, bt239.2.1, bt239.2.2))) = some (r1, r2, r3) := H; have A5 := Aside0.mk A50; clear A50; replace H := Option.bind_eq_some_iff.mp H; obtain ⟨⟨t239, t240, t241⟩, A60, H⟩ := H; replace H : (some (t239, t240, t241)) = some (r1, r2, r3) := H; have A6 := Aside0.mk A60; clear A60; simp only [Option.some.injEq, Prod.mk.injEq] at H; obtain ⟨rfl, rfl, rfl⟩ := H
 go_enter Tryd.func71, Tryd.ntmps71
 go_wp2_with (first | ((with_reducible refine gate_dst (N := 4) rfl ?_); refine box_event ?hg (N := 4) ?hd (cs := #[.bool false, .int .u64 0, .int .u64 0]) (t := 35) ?hr ?_; (case hd => rfl); (case hg => rfl); (case hr => first | (go_simp; done) | (go_simp; rfl)); intro gb234 hg w7 hbox hb; have BK234 := Aside0.mk (hbox); obtain ⟨GW234, nHB⟩ := geA hg hb; have GE234 := GW234; replace HB := nHB; clear nHB; clear hb hbox hg) | ((with_reducible refine gate_callee (f := 41) rfl ?_); refine goesLA_ (some 9) rfl rfl Tryd.func41 rfl #[.int .i64 a0] rfl ?_; (with_reducible refine (big_far.calls a0 t235 _ A3.out).mono ?_); rintro e w' ⟨rfl, ⟨nd, rfl⟩⟩; refine ⟨_, rfl, ?_⟩; (try (rw [drewN_self w7]; generalize hq_ : World.drewN w7 _ = w7; have n0_ : Aside0 (w7.heap[gb234]? = some (.cells #[.bool false, .int .u64 0, .int .u64 0] 35 (0, 0))) := ⟨by rw [← hq_]; exact (by (with_reducible repeat first | apply blk_drewN | apply blk_drew | apply blk_alloc); exact BK234.out)⟩; have n1_ : Aside0 (Below w.heap.size w w7) := ⟨by rw [← hq_]; exact (by repeat (first | (with_reducible first | exact HB.out | apply below_alloc | apply pw_below_drewN | apply below_drew1 | refine below_set ?_ GE234.out) | exact HB.out))⟩; clear BK234 HB hq_; have BK234 := n0_; have HB := n1_; clear n0_ n1_))) | ((with_reducible refine gate_callee (f := 41) rfl ?_); refine goesLA_ (some 11) rfl rfl Tryd.func41 rfl #[.int .i64 a1] rfl ?_; (with_reducible refine (big_far.calls a1 t236 _ A4.out).mono ?_); rintro e w' ⟨rfl, ⟨nd, rfl⟩⟩; refine ⟨_, rfl, ?_⟩; (try (rw [drewN_self w7]; generalize hq_ : World.drewN w7 _ = w7; have n0_ : Aside0 (w7.heap[gb234]? = some (.cells #[.bool false, .int .u64 0, .int .u64 0] 35 (0, 0))) := ⟨by rw [← hq_]; exact (by (with_reducible repeat first | apply blk_drewN | apply blk_drew | apply blk_alloc); exact BK234.out)⟩; have n1_ : Aside0 (Below w.heap.size w w7) := ⟨by rw [← hq_]; exact (by repeat (first | (with_reducible first | exact HB.out | apply below_alloc | apply pw_below_drewN | apply below_drew1 | refine below_set ?_ GE234.out) | exact HB.out))⟩; clear BK234 HB hq_; have BK234 := n0_; have HB := n1_; clear n0_ n1_))) | ((with_reducible refine gate_callee (f := 38) rfl ?_); refine goesLA_ (some 12) rfl rfl Tryd.func38 rfl #[.int .u64 t235, .int .u64 t236] rfl ?_; (with_reducible refine (bits_Mul64.calls t235 t236 t237 t238 _ A5.out).mono ?_); rintro e w' ⟨rfl, ⟨nd, rfl⟩⟩; refine ⟨_, rfl, ?_⟩; (try (rw [drewN_self w7]; generalize hq_ : World.drewN w7 _ = w7; have n0_ : Aside0 (w7.heap[gb234]? = some (.cells #[.bool false, .int .u64 0, .int .u64 0] 35 (0, 0))) := ⟨by rw [← hq_]; exact (by (with_reducible repeat first | apply blk_drewN | apply blk_drew | apply blk_alloc); exact BK234.out)⟩; have n1_ : Aside0 (Below w.heap.size w w7) := ⟨by rw [← hq_]; exact (by repeat (first | (with_reducible first | exact HB.out | apply below_alloc | apply pw_below_drewN | apply below_drew1 | refine below_set ?_ GE234.out) | exact HB.out))⟩; clear BK234 HB hq_; have BK234 := n0_; have HB := n1_; clear n0_ n1_))) | ((with_reducible refine gate_callee (f := 40) rfl ?_); refine goesLA_ (some 23) rfl rfl Tryd.func40 rfl #[.agg #[.int .u64 t237, .int .u64 t238], .bool ((decide (a0 < 0)) != (decide (a1 < 0)))] rfl ?_; (with_reducible refine (big_size_with.calls t237 t238 ((decide (a0 < 0)) != (decide (a1 < 0))) t239 t240 t241 _ A6.out).mono ?_); rintro e w8 ⟨rfl, hb⟩; refine ⟨_, rfl, ?_⟩; replace BK234 := bdZ BK234 hb; replace HB := stA hb; clear hb; have hcz9_0 := czZ BK234 0 (.bool false); have hcz9_1 := czZ BK234 1 (.int .u64 0); have hcz9_2 := czZ BK234 2 (.int .u64 0); have hfz9_0 := blk_frozen BK234.out 0; have hfz9_1 := blk_frozen BK234.out 1; have hfz9_2 := blk_frozen BK234.out 2))
 refine bodyPost_ret (results_cell_row rfl _ _ gb234 35 #[.bool t239, .int .u64 t240, .int .u64 t241] (0, 0) _ rfl (by (with_reducible repeat first | apply blk_drewN | apply blk_drew | apply blk_alloc); refine blk_put (cs := #[.bool t239, .int .u64 t240, .int .u64 0]) ?_ 2 _ rfl; (with_reducible repeat first | apply blk_drewN | apply blk_drew | apply blk_alloc); refine blk_put (cs := #[.bool t239, .int .u64 0, .int .u64 0]) ?_ 1 _ rfl; (with_reducible repeat first | apply blk_drewN | apply blk_drew | apply blk_alloc); refine blk_put (cs := #[.bool false, .int .u64 0, .int .u64 0]) ?_ 0 _ rfl; (with_reducible repeat first | apply blk_drewN | apply blk_drew | apply blk_alloc); exact BK234.out) Tryd.underlying35 rfl (by kernel_rfl)) rfl ?_; exact ⟨by first | rfl | (simp [errW_none, errW_some] <;> rfl) | (simp [*, errW_none, errW_some] <;> rfl), by repeat (first | (with_reducible first | exact HB.out | apply below_alloc | apply pw_below_drewN | apply below_drew1 | refine below_set ?_ GE234.out) | exact HB.out)⟩

end Go.Proofs.YtceiakiihkaamaaDoor.Px
