/- Printed by px.py, over the kit's print. Conditions: none beside the theorems' own. -/
import Derived.Test.YtgakpcfmgcpeaaaDoorPx0
import Derived.Test.YtgakpcfmgcpeaaaDoorPx1
import Derived.Test.YtgakpcfmgcpeaaaDoorPx4
import Derived.Test.YtgakpcfmgcpeaaaDoorPx5
import Derived.Test.YtgakpcfmgcpeaaaDoorPx15
import Derived.Test.YtgakpcfmgcpeaaaDoorPx17
import Derived.Test.YtgakpcfmgcpeaaaDoorPx22
import Derived.Test.YtgakpcfmgcpeaaaDoorSpec
namespace Go.Proofs.YtgakpcfmgcpeaaaDoor.Px
open Go.RowKit Go.Proofs.YtgakpcfmgcpeaaaDoorW.PrintWords Go.Proofs.YtgakpcfmgcpeaaaDoorW.PrintLast Go.Proofs.YtgakpcfmgcpeaaaDoorW.PrintMore
attribute [local go_sem] max2_int min2_int max_two min_two max_three min_three max_four min_four
set_option linter.unusedVariables false
set_option linter.unusedSimpArgs false

attribute [local go_sem high] eqA23
/-! ### epoch_K: function 52 -/
/-- The table of the parts of 10^19 lies as the program's text lays it. -/
def Tens (w : World) : Prop := ∃ t, w.heap[0]? = some (.cells #[.int .u64 1000000000, .int .u64 10000000000] t (0, 0))
theorem tensB {w w' : World} (h : Tens w) (hb : Below w.heap.size w w') : Tens w' := by
 obtain ⟨t, h⟩ := h; exact ⟨t, by rw [hb.block _ (Array.getElem?_eq_some_iff.1 h).1]; exact h⟩
noncomputable def epoch_K.f (a : Int) : Option Int := Sp.need (Sp.I a) (some (Sp.kQ a))
theorem epoch_K.eq {a : Int} (h1 : Sp.I a) : epoch_K.f a = some (Sp.kQ a) := Sp.need_pos h1
theorem epoch_K.put {w : World} {g : Nat} {x y z : Value} {t : TypeId} (h : w.heap[g]? = some (.cells #[x, y, z] t (0, 0))) (a b c : Value) : (((w.setCell ⟨g, 0, none⟩ a).setCell ⟨g, 1, none⟩ b).setCell ⟨g, 2, none⟩ c).heap[g]? = some (.cells #[a, b, c] t (0, 0)) :=
 blk_put (blk_put (blk_put h 0 a rfl) 1 b rfl) 2 c rfl
set_option maxHeartbeats 2000000 in
set_option maxRecDepth 100000 in
theorem epoch_K.walk (a0 c n0 n1 n2 n3 n4 n5 : Int) (s0 s1 s2 s3 : Bool) (q0 q1 rm rt r : Int) (HS1 : Aside0 (safe_ClampS.f a0 0 68719476736 = some c)) (HS2 : Aside0 (big_OfS.f c = some (s0, n0, n1))) (HS3 : Aside0 (big_ScaleS.f s0 n0 n1 1000000000 = some (s1, n2, n3, 0)))
  (HS4 : Aside0 (big_ScaleS.f s1 n2 n3 10000000000 = some (s2, n4, n5, 0))) (HS5 : Aside0 (big_DivS.f s2 n4 n5 262144 = some (s3, q0, q1, rm, 0))) (HS6 : Aside0 (root_Third.f s3 q0 q1 = some rt)) (hr : wrap64 rt = r) (w : World) (hL : Tens w) :
  Calls Tryd.prog 52 #[.int .i64 a0] w fun e w' => e = .returned (.int .i64 r) ∧ Below w.heap.size w w' := by
 have HB := Aside0.mk (Below.refl w.heap.size w); obtain ⟨tt, hT⟩ := hL; have BT := Aside0.mk hT
 have hi0 : ∀ w : World, (Instr.index 60 (.agg #[.int .u64 1000000000, .int .u64 10000000000]) (.int .i64 0)).run Tryd.prog w = .ok (.int .u64 1000000000) w := fun _ => by kernel_rfl
 have hi1 : ∀ w : World, (Instr.index 60 (.agg #[.int .u64 1000000000, .int .u64 10000000000]) (.int .i64 1)).run Tryd.prog w = .ok (.int .u64 10000000000) w := fun _ => by kernel_rfl
 clear hT
 go_enter Tryd.func52, Tryd.ntmps52
 go_wp2_with (first
  | (go_at_call 30; refine (safe_ClampS.calls a0 0 68719476736 c _ HS1.out).mono ?_; rintro e1 w1 ⟨rfl, hb⟩; replace BT := bbZ BT hb; replace HB := stA hb; clear hb)
  | (go_at_call 61; refine (big_OfS.calls c s0 n0 n1 _ HS2.out).mono ?_; rintro e1 w2 ⟨rfl, hb⟩; replace BT := bbZ BT hb; replace HB := stA hb; clear hb)
  | ((with_reducible refine gate_dst (N := 3) rfl ?_); refine box_event ?hg (N := 3) ?hd (cs := #[.bool false, .int .u64 0, .int .u64 0]) (t := 33) ?hr ?_; (case hd => rfl); (case hg => rfl); (case hr => first | (go_simp; done) | (go_simp; rfl)); intro gb hg w3 hbox hb; have BK1 := Aside0.mk hbox; obtain ⟨GW1, nHB⟩ := geA hg hb; have GE1 := GW1; obtain ⟨NB1, NB2, nBK⟩ := nbA BT hg hb; replace BT := nBK; clear nBK; replace HB := nHB; clear nHB; clear hb hbox hg; have z0 := czZ BK1 0 (.bool false); have z1 := czZ BK1 1 (.int .u64 0); have z2 := czZ BK1 2 (.int .u64 0); have f0 := blk_frozen BK1.out 0; have f1 := blk_frozen BK1.out 1; have f2 := blk_frozen BK1.out 2; have y0 := czZ BT 0 (.int .u64 1000000000); have y1 := czZ BT 1 (.int .u64 10000000000); have n1_ := NB1.out; have n2_ := NB2.out)
  | fail)
 refine wp_loop_rounds 3 ?_
 rw [rounds_succ]
 go_wp2_with (first | (go_at_call 33; refine (big_ScaleS.calls s0 n0 n1 1000000000 s1 n2 n3 0 _ HS3.out).mono ?_; rintro e1 w4 ⟨rfl, hb⟩; replace BK1 := Aside0.mk (blk_below (epoch_K.put BK1.out (.bool s0) (.int .u64 n0) (.int .u64 n1)) hb); replace HB := Aside0.mk (below_step (by repeat (first | (with_reducible first | apply below_alloc | exact HB.out | apply pw_below_drewN | apply below_drew1 | refine below_set ?_ GE1.out) | exact HB.out)) hb); clear hb z0 z1 z2 f0 f1 f2; have z0 := czZ BK1 0 (.bool s0); have z1 := czZ BK1 1 (.int .u64 n0); have z2 := czZ BK1 2 (.int .u64 n1); have f0 := blk_frozen BK1.out 0; have f1 := blk_frozen BK1.out 1; have f2 := blk_frozen BK1.out 2) | fail)
 rw [rounds_succ]
 go_wp2_with (first | (go_at_call 33; refine (big_ScaleS.calls s1 n2 n3 10000000000 s2 n4 n5 0 _ HS4.out).mono ?_; rintro e1 w5 ⟨rfl, hb⟩; replace BK1 := Aside0.mk (blk_below (epoch_K.put BK1.out (.bool s1) (.int .u64 n2) (.int .u64 n3)) hb); replace HB := Aside0.mk (below_step (by repeat (first | (with_reducible first | apply below_alloc | exact HB.out | apply pw_below_drewN | apply below_drew1 | refine below_set ?_ GE1.out) | exact HB.out)) hb); clear hb z0 z1 z2 f0 f1 f2; have z0 := czZ BK1 0 (.bool s1); have z1 := czZ BK1 1 (.int .u64 n2); have z2 := czZ BK1 2 (.int .u64 n3); have f0 := blk_frozen BK1.out 0; have f1 := blk_frozen BK1.out 1; have f2 := blk_frozen BK1.out 2) | fail)
 rw [rounds_succ]
 go_wp2_with (first | (go_at_call 34; refine (big_DivS.calls s2 n4 n5 262144 s3 q0 q1 rm 0 _ HS5.out).mono ?_; rintro e1 w6 ⟨rfl, hb⟩; replace BK1 := Aside0.mk (blk_below (epoch_K.put BK1.out (.bool s2) (.int .u64 n4) (.int .u64 n5)) hb); replace HB := Aside0.mk (below_step (by repeat (first | (with_reducible first | apply below_alloc | exact HB.out | apply pw_below_drewN | apply below_drew1 | refine below_set ?_ GE1.out) | exact HB.out)) hb); clear hb z0 z1 z2 f0 f1 f2; have z0 := czZ BK1 0 (.bool s2); have z1 := czZ BK1 1 (.int .u64 n4); have z2 := czZ BK1 2 (.int .u64 n5); have f0 := blk_frozen BK1.out 0; have f1 := blk_frozen BK1.out 1; have f2 := blk_frozen BK1.out 2) | (go_at_call 70; refine (root_Third.calls s3 q0 q1 rt _ HS6.out).mono ?_; rintro e1 w7 ⟨rfl, hb⟩; replace HB := Aside0.mk (below_step (by repeat (first | (with_reducible first | apply below_alloc | exact HB.out | apply pw_below_drewN | apply below_drew1 | refine below_set ?_ GE1.out) | exact HB.out)) hb); clear hb) | fail)
 go_ret
 exact ⟨by first | rfl | (simp; done) | (simp [*]; done), (by repeat (first | (with_reducible first | apply below_alloc | exact HB.out | apply pw_below_drewN | apply below_drew1 | refine below_set ?_ GE1.out) | exact HB.out))⟩
theorem epoch_K.calls (a0 r : Int) (w : World) (h : epoch_K.f a0 = some r) (hL : Tens w) :
  Calls Tryd.prog 52 #[.int .i64 a0] w fun e w' => e = .returned (.int .i64 r) ∧ Below w.heap.size w w' := by
 obtain ⟨h1, h⟩ := Sp.need_some h; obtain rfl := Option.some.inj h; have c := Sp.clamp_bd (a := a0) (low := 0) (high := 68719476736) (by omega); have kb := Sp.kQ_bd a0; have e0 : Sp.kQ a0 = Sp.root3 (Sp.clamp a0 0 68719476736 * 10000000000000000000 / 262144) := rfl; have s0 := safe_ClampS.eq (a := a0) (b := 0) (c := 68719476736) h1 (by omega) (by omega)
 generalize Sp.clamp a0 0 68719476736 = g at *
 have e1 : g * 1000000000 * 10000000000 = g * 10000000000000000000 := by omega
 have s1 := (big_ScaleS.enc (v := g) (k := 1000000000) (by omega) (by omega)).trans (Sp.held_in (by omega)); have s2 := (big_ScaleS.enc (v := g * 1000000000) (k := 10000000000) (by omega) (by omega)).trans (Sp.held_in (by omega)); have s3 := (big_DivS.enc (v := g * 1000000000 * 10000000000) (d := 262144) (by omega) (by omega)).trans (Sp.quo_pos (by omega))
 have bq : Sp.B (g * 1000000000 * 10000000000 / 262144) := by omega
 have s4 := root_Third.eq (n := Sp.encN (g * 1000000000 * 10000000000 / 262144)) (Sp.encH_U bq) (Sp.encL_U (v := g * 1000000000 * 10000000000 / 262144)); have ve := @Sp.val_enc (g * 1000000000 * 10000000000 / 262144)
 rw [Sp.encN_pos (by omega), Sp.val_f] at ve
 refine epoch_K.walk a0 g _ _ _ _ _ _ _ _ _ _ _ _ _ _ _ ⟨s0⟩ ⟨big_OfS.eq (by omega)⟩ ⟨s1⟩ ⟨s2⟩ ⟨s3⟩ ⟨s4⟩ ?_ w hL
 rw [ve, e1, ← e0, Sp.w64 (by omega)]

/-! ### epoch_Begin: function 23 -/
noncomputable def epoch_Begin.f (a0 : Int) (a1 : Int) (a2 : Int) : Option (Bool × Int × Int × Int × Int × Int × Int) := (epoch_time.f a0).bind fun t230 => (if t230 = true then ((epoch_windowS.f a1).bind fun t231 => (if t231 = true then ((epoch_windowS.f a2).bind fun t232 => (if t232 = true then ((epoch_K.f (wrap64 ((mx a2 a1) - a1))).bind fun t233 => (some (true, a0, a1, mx a2 a1, t233, a1, 0))) else (some (false, 0, 0, 0, 0, 0, 201)))) else (some (false, 0, 0, 0, 0, 0, 201)))) else (some (false, 0, 0, 0, 0, 0, 201)))
set_option maxHeartbeats 8000000 in
set_option maxRecDepth 100000 in
theorem epoch_Begin.calls (a0 : Int) (a1 : Int) (a2 : Int) (r1 : Bool) (r2 : Int) (r3 : Int) (r4 : Int) (r5 : Int) (r6 : Int) (r7 : Int) (w : World) (h : epoch_Begin.f a0 a1 a2 = some (r1, r2, r3, r4, r5, r6, r7)) (hL : Tens w) :
  Calls Tryd.prog 23 #[.int .i64 a0, .int .i64 a1, .int .i64 a2] w fun e w' => e = .returned (.tuple #[.agg #[.bool r1, .int .i64 r2, .int .i64 r3, .int .i64 r4, .int .i64 r5, .int .i64 r6], .int .i64 r7]) ∧ Below w.heap.size w w' := by
 have hu23 := Tryd.underlying23; have HB := Aside0.mk (Below.refl w.heap.size w); have H : ((epoch_time.f a0).bind fun t230 => (if t230 = true then ((epoch_windowS.f a1).bind fun t231 => (if t231 = true then ((epoch_windowS.f a2).bind fun t232 => (if t232 = true then ((epoch_K.f (wrap64 ((mx a2 a1) - a1))).bind fun t233 => (some (true, a0, a1, mx a2 a1, t233, a1, 0))) else (some (false, 0, 0, 0, 0, 0, 201)))) else (some (false, 0, 0, 0, 0, 0, 201)))) else (some (false, 0, 0, 0, 0, 0, 201)))) = some (r1, r2, r3, r4, r5, r6, r7) := h; clear h; replace H := Option.bind_eq_some_iff.mp H; obtain ⟨t230, A40, H⟩ := H; (try dsimp only at H); have A4 := Aside0.mk A40; clear A40
 by_cases c5 : t230 = true
 ·subst c5
  have H1 : ((epoch_windowS.f a1).bind fun t231 => (if t231 = true then ((epoch_windowS.f a2).bind fun t232 => (if t232 = true then ((epoch_K.f (wrap64 ((mx a2 a1) - a1))).bind fun t233 => (some (true, a0, a1, mx a2 a1, t233, a1, 0))) else (some (false, 0, 0, 0, 0, 0, 201)))) else (some (false, 0, 0, 0, 0, 0, 201)))) = some (r1, r2, r3, r4, r5, r6, r7) := by rw [if_pos rfl] at H; exact H
  clear H; have H := H1; clear H1; replace H := Option.bind_eq_some_iff.mp H; obtain ⟨t231, A60, H⟩ := H; (try dsimp only at H); have A6 := Aside0.mk A60; clear A60
  by_cases c7 : t231 = true
  ·subst c7
   have H1 : ((epoch_windowS.f a2).bind fun t232 => (if t232 = true then ((epoch_K.f (wrap64 ((mx a2 a1) - a1))).bind fun t233 => (some (true, a0, a1, mx a2 a1, t233, a1, 0))) else (some (false, 0, 0, 0, 0, 0, 201)))) = some (r1, r2, r3, r4, r5, r6, r7) := by rw [if_pos rfl] at H; exact H
   clear H; have H := H1; clear H1; replace H := Option.bind_eq_some_iff.mp H; obtain ⟨t232, A80, H⟩ := H; (try dsimp only at H); have A8 := Aside0.mk A80; clear A80
   by_cases c9 : t232 = true
   ·subst c9
    have H1 : ((epoch_K.f (wrap64 ((mx a2 a1) - a1))).bind fun t233 => (some (true, a0, a1, mx a2 a1, t233, a1, 0))) = some (r1, r2, r3, r4, r5, r6, r7) := by rw [if_pos rfl] at H; exact H
    clear H; have H := H1; clear H1
    obtain ⟨ji10, hji10⟩ : ∃ j_ : Int, (mx a2 a1) = j_ := ⟨_, rfl⟩
    replace H : ((epoch_K.f (wrap64 ((ji10) - a1))).bind fun t233 => (some (true, a0, a1, ji10, t233, a1, 0))) = some (r1, r2, r3, r4, r5, r6, r7) := by first | (rw [hji10] at H; exact H) | (simp only [hji10] at H ⊢; exact H)
    (try rw [hji10] at A4)
    (try rw [hji10] at A6)
    (try rw [hji10] at A8)
    have hji10_ : (if a2 < a1 then a1 else a2) = ji10 := hji10; replace H := Option.bind_eq_some_iff.mp H; obtain ⟨t233, A110, H⟩ := H; replace H : (some (true, a0, a1, ji10, t233, a1, 0)) = some (r1, r2, r3, r4, r5, r6, r7) := H; have A11 := Aside0.mk A110; clear A110; simp only [Option.some.injEq, Prod.mk.injEq] at H; obtain ⟨rfl, rfl, rfl, rfl, rfl, rfl, rfl⟩ := H
    go_enter Tryd.func23, Tryd.ntmps23
    go_wp2_with (first | ((with_reducible refine gate_dst (N := 6) rfl ?_); refine box_event ?hg (N := 6) ?hd (cs := #[.bool false, .int .i64 0, .int .i64 0, .int .i64 0, .int .i64 0, .int .i64 0]) (t := 23) ?hr ?_; (case hd => rfl); (case hg => rfl); (case hr => first | (go_simp; done) | (go_simp; rfl)); intro gb229 hg w12 hbox hb; have BK229 := Aside0.mk (hbox); obtain ⟨GW229, nHB⟩ := geA hg hb; have GE229 := GW229; replace HB := nHB; clear nHB; clear hb hbox hg) | ((with_reducible refine gate_callee (f := 50) rfl ?_); refine goesLA_ (some 9) rfl rfl Tryd.func50 rfl #[.int .i64 a0] rfl ?_; (with_reducible refine (epoch_time.calls a0 true _ A4.out).mono ?_); rintro e w' ⟨rfl, ⟨nd, rfl⟩⟩; refine ⟨_, rfl, ?_⟩; (try (rw [drewN_self w12]; generalize hq_ : World.drewN w12 _ = w12; have n0_ : Aside0 (w12.heap[gb229]? = some (.cells #[.bool false, .int .i64 0, .int .i64 0, .int .i64 0, .int .i64 0, .int .i64 0] 23 (0, 0))) := ⟨by rw [← hq_]; exact (by (with_reducible repeat first | apply blk_drewN | apply blk_drew | apply blk_alloc); exact BK229.out)⟩; have n1_ : Aside0 (Below w.heap.size w w12) := ⟨by rw [← hq_]; exact (by repeat (first | (with_reducible first | exact HB.out | apply below_alloc | apply pw_below_drewN | apply below_drew1 | refine below_set ?_ GE229.out) | exact HB.out))⟩; clear BK229 HB hq_; have BK229 := n0_; have HB := n1_; clear n0_ n1_))) | (go_at_call 51; (with_reducible refine (epoch_windowS.calls a1 true _ A6.out).mono ?_); rintro e w13 ⟨rfl, hb⟩; replace BK229 := bdZ BK229 hb; replace HB := stA hb; clear hb) | (go_at_call 51; (with_reducible refine (epoch_windowS.calls a2 true _ A8.out).mono ?_); rintro e w14 ⟨rfl, hb⟩; replace BK229 := bdZ BK229 hb; replace HB := stA hb; clear hb) | ((with_reducible refine gate_callee (f := 52) rfl ?_); refine goesL_ (some 31) rfl rfl Tryd.func52 (by kernel_rfl) rfl #[.int .i64 (wrap64 ((ji10) - a1))] rfl (by (try simp only [List.map_toArray, List.map_cons, List.map_nil]); first | done | (simp only [hji10]; rfl) | rfl | (simp only [List.length_drop, List.length_take]; rfl)) ?_; (with_reducible refine (epoch_K.calls (wrap64 ((ji10) - a1)) t233 _ A11.out ?hT_).mono ?_); (case hT_ => exact tensB hL (by repeat (first | (with_reducible first | exact HB.out | apply below_alloc | apply pw_below_drewN | apply below_drew1 | refine below_set ?_ (Aside0.out (by assumption))) | exact HB.out))); rintro e w15 ⟨rfl, hb⟩; refine ⟨_, rfl, ?_⟩; replace BK229 := bdZ BK229 hb; replace HB := stA hb; clear hb; have hcz16_0 := czZ BK229 0 (.bool false); have hcz16_1 := czZ BK229 1 (.int .i64 0); have hcz16_2 := czZ BK229 2 (.int .i64 0); have hcz16_3 := czZ BK229 3 (.int .i64 0); have hcz16_4 := czZ BK229 4 (.int .i64 0); have hcz16_5 := czZ BK229 5 (.int .i64 0); have hfz16_0 := blk_frozen BK229.out 0; have hfz16_1 := blk_frozen BK229.out 1; have hfz16_2 := blk_frozen BK229.out 2; have hfz16_3 := blk_frozen BK229.out 3; have hfz16_4 := blk_frozen BK229.out 4; have hfz16_5 := blk_frozen BK229.out 5))
    refine bodyPost_ret (results_ct rfl _ _ gb229 23 #[.bool true, .int .i64 a0, .int .i64 a1, .int .i64 ji10, .int .i64 t233, .int .i64 a1] (0, 0) _ rfl (by (with_reducible repeat first | apply blk_drewN | apply blk_drew | apply blk_alloc); refine blk_put (cs := #[.bool true, .int .i64 a0, .int .i64 a1, .int .i64 ji10, .int .i64 t233, .int .i64 0]) ?_ 5 _ rfl; (with_reducible repeat first | apply blk_drewN | apply blk_drew | apply blk_alloc); refine blk_put (cs := #[.bool true, .int .i64 a0, .int .i64 a1, .int .i64 ji10, .int .i64 0, .int .i64 0]) ?_ 4 _ rfl; (with_reducible repeat first | apply blk_drewN | apply blk_drew | apply blk_alloc); refine blk_put (cs := #[.bool true, .int .i64 a0, .int .i64 a1, .int .i64 0, .int .i64 0, .int .i64 0]) ?_ 3 _ rfl; (with_reducible repeat first | apply blk_drewN | apply blk_drew | apply blk_alloc); refine blk_put (cs := #[.bool true, .int .i64 a0, .int .i64 0, .int .i64 0, .int .i64 0, .int .i64 0]) ?_ 2 _ rfl; (with_reducible repeat first | apply blk_drewN | apply blk_drew | apply blk_alloc); refine blk_put (cs := #[.bool true, .int .i64 0, .int .i64 0, .int .i64 0, .int .i64 0, .int .i64 0]) ?_ 1 _ rfl; (with_reducible repeat first | apply blk_drewN | apply blk_drew | apply blk_alloc); refine blk_put (cs := #[.bool false, .int .i64 0, .int .i64 0, .int .i64 0, .int .i64 0, .int .i64 0]) ?_ 0 _ rfl; (with_reducible repeat first | apply blk_drewN | apply blk_drew | apply blk_alloc); exact BK229.out) Tryd.underlying23 rfl (by kernel_rfl)) rfl ?_; exact ⟨by first | rfl | (simp [errW_none, errW_some] <;> rfl) | (simp only [← hji10]; first | rfl | (simp [errW_none, errW_some] <;> rfl)) | (simp [*, errW_none, errW_some] <;> rfl), by repeat (first | (with_reducible first | exact HB.out | apply below_alloc | apply pw_below_drewN | apply below_drew1 | refine below_set ?_ GE229.out) | exact HB.out)⟩
   ·replace c9 := Bool.eq_false_iff.mpr c9
    subst c9
    have H1 : (some (false, 0, 0, 0, 0, 0, 201)) = some (r1, r2, r3, r4, r5, r6, r7) := by rw [if_neg (show ¬ (false = true) by decide)] at H; exact H
    clear H; have H := H1; clear H1; simp only [Option.some.injEq, Prod.mk.injEq] at H; obtain ⟨rfl, rfl, rfl, rfl, rfl, rfl, rfl⟩ := H
    go_enter Tryd.func23, Tryd.ntmps23
    go_wp2_with (first | ((with_reducible refine gate_dst (N := 6) rfl ?_); refine box_event ?hg (N := 6) ?hd (cs := #[.bool false, .int .i64 0, .int .i64 0, .int .i64 0, .int .i64 0, .int .i64 0]) (t := 23) ?hr ?_; (case hd => rfl); (case hg => rfl); (case hr => first | (go_simp; done) | (go_simp; rfl)); intro gb229 hg w17 hbox hb; have BK229 := Aside0.mk (hbox); obtain ⟨GW229, nHB⟩ := geA hg hb; have GE229 := GW229; replace HB := nHB; clear nHB; clear hb hbox hg) | ((with_reducible refine gate_callee (f := 50) rfl ?_); refine goesLA_ (some 9) rfl rfl Tryd.func50 rfl #[.int .i64 a0] rfl ?_; (with_reducible refine (epoch_time.calls a0 true _ A4.out).mono ?_); rintro e w' ⟨rfl, ⟨nd, rfl⟩⟩; refine ⟨_, rfl, ?_⟩; (try (rw [drewN_self w17]; generalize hq_ : World.drewN w17 _ = w17; have n0_ : Aside0 (w17.heap[gb229]? = some (.cells #[.bool false, .int .i64 0, .int .i64 0, .int .i64 0, .int .i64 0, .int .i64 0] 23 (0, 0))) := ⟨by rw [← hq_]; exact (by (with_reducible repeat first | apply blk_drewN | apply blk_drew | apply blk_alloc); exact BK229.out)⟩; have n1_ : Aside0 (Below w.heap.size w w17) := ⟨by rw [← hq_]; exact (by repeat (first | (with_reducible first | exact HB.out | apply below_alloc | apply pw_below_drewN | apply below_drew1 | refine below_set ?_ GE229.out) | exact HB.out))⟩; clear BK229 HB hq_; have BK229 := n0_; have HB := n1_; clear n0_ n1_))) | (go_at_call 51; (with_reducible refine (epoch_windowS.calls a1 true _ A6.out).mono ?_); rintro e w18 ⟨rfl, hb⟩; replace BK229 := bdZ BK229 hb; replace HB := stA hb; clear hb) | (go_at_call 51; (with_reducible refine (epoch_windowS.calls a2 false _ A8.out).mono ?_); rintro e w19 ⟨rfl, hb⟩; replace BK229 := bdZ BK229 hb; replace HB := stA hb; clear hb; have hcz20_0 := czZ BK229 0 (.bool false); have hcz20_1 := czZ BK229 1 (.int .i64 0); have hcz20_2 := czZ BK229 2 (.int .i64 0); have hcz20_3 := czZ BK229 3 (.int .i64 0); have hcz20_4 := czZ BK229 4 (.int .i64 0); have hcz20_5 := czZ BK229 5 (.int .i64 0); have hfz20_0 := blk_frozen BK229.out 0; have hfz20_1 := blk_frozen BK229.out 1; have hfz20_2 := blk_frozen BK229.out 2; have hfz20_3 := blk_frozen BK229.out 3; have hfz20_4 := blk_frozen BK229.out 4; have hfz20_5 := blk_frozen BK229.out 5))
    refine bodyPost_ret (results_ct rfl _ _ gb229 23 #[.bool false, .int .i64 0, .int .i64 0, .int .i64 0, .int .i64 0, .int .i64 0] (0, 0) _ rfl (by (with_reducible repeat first | apply blk_drewN | apply blk_drew | apply blk_alloc); refine blk_put (cs := #[.bool false, .int .i64 0, .int .i64 0, .int .i64 0, .int .i64 0, .int .i64 0]) ?_ 5 _ rfl; (with_reducible repeat first | apply blk_drewN | apply blk_drew | apply blk_alloc); refine blk_put (cs := #[.bool false, .int .i64 0, .int .i64 0, .int .i64 0, .int .i64 0, .int .i64 0]) ?_ 4 _ rfl; (with_reducible repeat first | apply blk_drewN | apply blk_drew | apply blk_alloc); refine blk_put (cs := #[.bool false, .int .i64 0, .int .i64 0, .int .i64 0, .int .i64 0, .int .i64 0]) ?_ 3 _ rfl; (with_reducible repeat first | apply blk_drewN | apply blk_drew | apply blk_alloc); refine blk_put (cs := #[.bool false, .int .i64 0, .int .i64 0, .int .i64 0, .int .i64 0, .int .i64 0]) ?_ 2 _ rfl; (with_reducible repeat first | apply blk_drewN | apply blk_drew | apply blk_alloc); refine blk_put (cs := #[.bool false, .int .i64 0, .int .i64 0, .int .i64 0, .int .i64 0, .int .i64 0]) ?_ 1 _ rfl; (with_reducible repeat first | apply blk_drewN | apply blk_drew | apply blk_alloc); refine blk_put (cs := #[.bool false, .int .i64 0, .int .i64 0, .int .i64 0, .int .i64 0, .int .i64 0]) ?_ 0 _ rfl; (with_reducible repeat first | apply blk_drewN | apply blk_drew | apply blk_alloc); exact BK229.out) Tryd.underlying23 rfl (by kernel_rfl)) rfl ?_; exact ⟨by first | rfl | (simp [errW_none, errW_some] <;> rfl) | (simp [*, errW_none, errW_some] <;> rfl), by repeat (first | (with_reducible first | exact HB.out | apply below_alloc | apply pw_below_drewN | apply below_drew1 | refine below_set ?_ GE229.out) | exact HB.out)⟩
  ·replace c7 := Bool.eq_false_iff.mpr c7
   subst c7
   have H1 : (some (false, 0, 0, 0, 0, 0, 201)) = some (r1, r2, r3, r4, r5, r6, r7) := by rw [if_neg (show ¬ (false = true) by decide)] at H; exact H
   clear H; have H := H1; clear H1; simp only [Option.some.injEq, Prod.mk.injEq] at H; obtain ⟨rfl, rfl, rfl, rfl, rfl, rfl, rfl⟩ := H
   go_enter Tryd.func23, Tryd.ntmps23
   go_wp2_with (first | ((with_reducible refine gate_dst (N := 6) rfl ?_); refine box_event ?hg (N := 6) ?hd (cs := #[.bool false, .int .i64 0, .int .i64 0, .int .i64 0, .int .i64 0, .int .i64 0]) (t := 23) ?hr ?_; (case hd => rfl); (case hg => rfl); (case hr => first | (go_simp; done) | (go_simp; rfl)); intro gb229 hg w21 hbox hb; have BK229 := Aside0.mk (hbox); obtain ⟨GW229, nHB⟩ := geA hg hb; have GE229 := GW229; replace HB := nHB; clear nHB; clear hb hbox hg) | ((with_reducible refine gate_callee (f := 50) rfl ?_); refine goesLA_ (some 9) rfl rfl Tryd.func50 rfl #[.int .i64 a0] rfl ?_; (with_reducible refine (epoch_time.calls a0 true _ A4.out).mono ?_); rintro e w' ⟨rfl, ⟨nd, rfl⟩⟩; refine ⟨_, rfl, ?_⟩; (try (rw [drewN_self w21]; generalize hq_ : World.drewN w21 _ = w21; have n0_ : Aside0 (w21.heap[gb229]? = some (.cells #[.bool false, .int .i64 0, .int .i64 0, .int .i64 0, .int .i64 0, .int .i64 0] 23 (0, 0))) := ⟨by rw [← hq_]; exact (by (with_reducible repeat first | apply blk_drewN | apply blk_drew | apply blk_alloc); exact BK229.out)⟩; have n1_ : Aside0 (Below w.heap.size w w21) := ⟨by rw [← hq_]; exact (by repeat (first | (with_reducible first | exact HB.out | apply below_alloc | apply pw_below_drewN | apply below_drew1 | refine below_set ?_ GE229.out) | exact HB.out))⟩; clear BK229 HB hq_; have BK229 := n0_; have HB := n1_; clear n0_ n1_))) | (go_at_call 51; (with_reducible refine (epoch_windowS.calls a1 false _ A6.out).mono ?_); rintro e w22 ⟨rfl, hb⟩; replace BK229 := bdZ BK229 hb; replace HB := stA hb; clear hb; have hcz23_0 := czZ BK229 0 (.bool false); have hcz23_1 := czZ BK229 1 (.int .i64 0); have hcz23_2 := czZ BK229 2 (.int .i64 0); have hcz23_3 := czZ BK229 3 (.int .i64 0); have hcz23_4 := czZ BK229 4 (.int .i64 0); have hcz23_5 := czZ BK229 5 (.int .i64 0); have hfz23_0 := blk_frozen BK229.out 0; have hfz23_1 := blk_frozen BK229.out 1; have hfz23_2 := blk_frozen BK229.out 2; have hfz23_3 := blk_frozen BK229.out 3; have hfz23_4 := blk_frozen BK229.out 4; have hfz23_5 := blk_frozen BK229.out 5))
   refine bodyPost_ret (results_ct rfl _ _ gb229 23 #[.bool false, .int .i64 0, .int .i64 0, .int .i64 0, .int .i64 0, .int .i64 0] (0, 0) _ rfl (by (with_reducible repeat first | apply blk_drewN | apply blk_drew | apply blk_alloc); refine blk_put (cs := #[.bool false, .int .i64 0, .int .i64 0, .int .i64 0, .int .i64 0, .int .i64 0]) ?_ 5 _ rfl; (with_reducible repeat first | apply blk_drewN | apply blk_drew | apply blk_alloc); refine blk_put (cs := #[.bool false, .int .i64 0, .int .i64 0, .int .i64 0, .int .i64 0, .int .i64 0]) ?_ 4 _ rfl; (with_reducible repeat first | apply blk_drewN | apply blk_drew | apply blk_alloc); refine blk_put (cs := #[.bool false, .int .i64 0, .int .i64 0, .int .i64 0, .int .i64 0, .int .i64 0]) ?_ 3 _ rfl; (with_reducible repeat first | apply blk_drewN | apply blk_drew | apply blk_alloc); refine blk_put (cs := #[.bool false, .int .i64 0, .int .i64 0, .int .i64 0, .int .i64 0, .int .i64 0]) ?_ 2 _ rfl; (with_reducible repeat first | apply blk_drewN | apply blk_drew | apply blk_alloc); refine blk_put (cs := #[.bool false, .int .i64 0, .int .i64 0, .int .i64 0, .int .i64 0, .int .i64 0]) ?_ 1 _ rfl; (with_reducible repeat first | apply blk_drewN | apply blk_drew | apply blk_alloc); refine blk_put (cs := #[.bool false, .int .i64 0, .int .i64 0, .int .i64 0, .int .i64 0, .int .i64 0]) ?_ 0 _ rfl; (with_reducible repeat first | apply blk_drewN | apply blk_drew | apply blk_alloc); exact BK229.out) Tryd.underlying23 rfl (by kernel_rfl)) rfl ?_; exact ⟨by first | rfl | (simp [errW_none, errW_some] <;> rfl) | (simp [*, errW_none, errW_some] <;> rfl), by repeat (first | (with_reducible first | exact HB.out | apply below_alloc | apply pw_below_drewN | apply below_drew1 | refine below_set ?_ GE229.out) | exact HB.out)⟩
 ·replace c5 := Bool.eq_false_iff.mpr c5
  subst c5
  have H1 : (some (false, 0, 0, 0, 0, 0, 201)) = some (r1, r2, r3, r4, r5, r6, r7) := by rw [if_neg (show ¬ (false = true) by decide)] at H; exact H
  clear H; have H := H1; clear H1; simp only [Option.some.injEq, Prod.mk.injEq] at H; obtain ⟨rfl, rfl, rfl, rfl, rfl, rfl, rfl⟩ := H
  go_enter Tryd.func23, Tryd.ntmps23
  go_wp2_with (first | ((with_reducible refine gate_dst (N := 6) rfl ?_); refine box_event ?hg (N := 6) ?hd (cs := #[.bool false, .int .i64 0, .int .i64 0, .int .i64 0, .int .i64 0, .int .i64 0]) (t := 23) ?hr ?_; (case hd => rfl); (case hg => rfl); (case hr => first | (go_simp; done) | (go_simp; rfl)); intro gb229 hg w24 hbox hb; have BK229 := Aside0.mk (hbox); obtain ⟨GW229, nHB⟩ := geA hg hb; have GE229 := GW229; replace HB := nHB; clear nHB; clear hb hbox hg) | ((with_reducible refine gate_callee (f := 50) rfl ?_); refine goesLA_ (some 9) rfl rfl Tryd.func50 rfl #[.int .i64 a0] rfl ?_; (with_reducible refine (epoch_time.calls a0 false _ A4.out).mono ?_); rintro e w' ⟨rfl, ⟨nd, rfl⟩⟩; refine ⟨_, rfl, ?_⟩; (try (rw [drewN_self w24]; generalize hq_ : World.drewN w24 _ = w24; have n0_ : Aside0 (w24.heap[gb229]? = some (.cells #[.bool false, .int .i64 0, .int .i64 0, .int .i64 0, .int .i64 0, .int .i64 0] 23 (0, 0))) := ⟨by rw [← hq_]; exact (by (with_reducible repeat first | apply blk_drewN | apply blk_drew | apply blk_alloc); exact BK229.out)⟩; have n1_ : Aside0 (Below w.heap.size w w24) := ⟨by rw [← hq_]; exact (by repeat (first | (with_reducible first | exact HB.out | apply below_alloc | apply pw_below_drewN | apply below_drew1 | refine below_set ?_ GE229.out) | exact HB.out))⟩; clear BK229 HB hq_; have BK229 := n0_; have HB := n1_; clear n0_ n1_)); have hcz25_0 := czZ BK229 0 (.bool false); have hcz25_1 := czZ BK229 1 (.int .i64 0); have hcz25_2 := czZ BK229 2 (.int .i64 0); have hcz25_3 := czZ BK229 3 (.int .i64 0); have hcz25_4 := czZ BK229 4 (.int .i64 0); have hcz25_5 := czZ BK229 5 (.int .i64 0); have hfz25_0 := blk_frozen BK229.out 0; have hfz25_1 := blk_frozen BK229.out 1; have hfz25_2 := blk_frozen BK229.out 2; have hfz25_3 := blk_frozen BK229.out 3; have hfz25_4 := blk_frozen BK229.out 4; have hfz25_5 := blk_frozen BK229.out 5))
  refine bodyPost_ret (results_ct rfl _ _ gb229 23 #[.bool false, .int .i64 0, .int .i64 0, .int .i64 0, .int .i64 0, .int .i64 0] (0, 0) _ rfl (by (with_reducible repeat first | apply blk_drewN | apply blk_drew | apply blk_alloc); refine blk_put (cs := #[.bool false, .int .i64 0, .int .i64 0, .int .i64 0, .int .i64 0, .int .i64 0]) ?_ 5 _ rfl; (with_reducible repeat first | apply blk_drewN | apply blk_drew | apply blk_alloc); refine blk_put (cs := #[.bool false, .int .i64 0, .int .i64 0, .int .i64 0, .int .i64 0, .int .i64 0]) ?_ 4 _ rfl; (with_reducible repeat first | apply blk_drewN | apply blk_drew | apply blk_alloc); refine blk_put (cs := #[.bool false, .int .i64 0, .int .i64 0, .int .i64 0, .int .i64 0, .int .i64 0]) ?_ 3 _ rfl; (with_reducible repeat first | apply blk_drewN | apply blk_drew | apply blk_alloc); refine blk_put (cs := #[.bool false, .int .i64 0, .int .i64 0, .int .i64 0, .int .i64 0, .int .i64 0]) ?_ 2 _ rfl; (with_reducible repeat first | apply blk_drewN | apply blk_drew | apply blk_alloc); refine blk_put (cs := #[.bool false, .int .i64 0, .int .i64 0, .int .i64 0, .int .i64 0, .int .i64 0]) ?_ 1 _ rfl; (with_reducible repeat first | apply blk_drewN | apply blk_drew | apply blk_alloc); refine blk_put (cs := #[.bool false, .int .i64 0, .int .i64 0, .int .i64 0, .int .i64 0, .int .i64 0]) ?_ 0 _ rfl; (with_reducible repeat first | apply blk_drewN | apply blk_drew | apply blk_alloc); exact BK229.out) Tryd.underlying23 rfl (by kernel_rfl)) rfl ?_; exact ⟨by first | rfl | (simp [errW_none, errW_some] <;> rfl) | (simp [*, errW_none, errW_some] <;> rfl), by repeat (first | (with_reducible first | exact HB.out | apply below_alloc | apply pw_below_drewN | apply below_drew1 | refine below_set ?_ GE229.out) | exact HB.out)⟩

/-! ### epoch_BeginS: pure, behind function 23 -/
section
open Go.Proofs.YtgakpcfmgcpeaaaDoor.Sp
noncomputable def epoch_BeginS.f (s : Int) (f : Int) (m : Int) : Option (Bool × Int × Int × Int × Int × Int × Int) := need ((I s) ∧ (I f) ∧ (I m)) (some (beginQ s f m))
theorem epoch_BeginS.eq {s : Int} {f : Int} {m : Int} (h1 : I s) (h2 : I f) (h3 : I m) : epoch_BeginS.f s f m = some (beginQ s f m) := need_pos ⟨h1, h2, h3⟩
theorem epoch_Begin.main {s : Int} {f : Int} {m : Int} (h1 : I s) (h2 : I f) (h3 : I m) : epoch_Begin.f s f m = some (beginQ s f m) := by
 unfold epoch_Begin.f epoch_time.f beginQ
 rw [epoch_windowS.eq, epoch_windowS.eq]
 have e : mx m f = max2 m f := rfl
 rw [e]
 simp only [Option.bind_some]
 by_cases h : 0 ≤ s ∧ s ≤ 1099511627776 ∧ 0 ≤ f ∧ f ≤ 68719476736 ∧ 0 ≤ m ∧ m ≤ 68719476736
 ·have b : f ≤ max2 m f ∧ max2 m f ≤ 68719476736 := by unfold max2; split <;> omega
  have wf : winOk f = true := by unfold winOk; exact decide_eq_true (by omega)
  have wm : winOk m = true := by unfold winOk; exact decide_eq_true (by omega)
  rw [if_pos h, if_pos (show s ≥ 0 from h.1), decide_eq_true h.2.1, wf, wm, w64 (x := max2 m f - f) (by omega), epoch_K.eq (by omega)]
  rfl
 ·rw [if_neg h]
  by_cases c1 : s ≥ 0
  ·rw [if_pos c1]
   by_cases c2 : s ≤ 1099511627776
   ·rw [decide_eq_true c2]
    cases wf : winOk f
    ·rfl
    ·cases wm : winOk m
     ·rfl
     ·unfold winOk at wf wm
      have x := of_decide_eq_true wf; have y := of_decide_eq_true wm; exact absurd ⟨c1, c2, x.1, x.2, y.1, y.2⟩ h
   ·rw [decide_eq_false c2]; rfl
  ·rw [if_neg c1]; rfl
end
theorem epoch_BeginS.calls (a0 : Int) (a1 : Int) (a2 : Int) (r1 : Bool) (r2 : Int) (r3 : Int) (r4 : Int) (r5 : Int) (r6 : Int) (r7 : Int) (w : World) (h : epoch_BeginS.f a0 a1 a2 = some (r1, r2, r3, r4, r5, r6, r7)) (hL : Tens w) :
  Calls Tryd.prog 23 #[.int .i64 a0, .int .i64 a1, .int .i64 a2] w fun e w' => e = .returned (.tuple #[.agg #[.bool r1, .int .i64 r2, .int .i64 r3, .int .i64 r4, .int .i64 r5, .int .i64 r6], .int .i64 r7]) ∧ Below w.heap.size w w' := by
 obtain ⟨hc, h⟩ := Sp.need_some h; obtain ⟨h1, h2, h3⟩ := hc; exact epoch_Begin.calls a0 a1 a2 r1 r2 r3 r4 r5 r6 r7 w (by rw [epoch_Begin.main h1 h2 h3]; exact h) hL

/-! ### epoch_Check: function 24 -/
noncomputable def epoch_Check.f (a0_0 : Bool) (a0_1 : Int) (a0_2 : Int) (a0_3 : Int) (a0_4 : Int) (a0_5 : Int) : Option (Bool) := if a0_0 = true then ((epoch_BeginS.f a0_1 a0_2 a0_3).bind fun bt235 => (if bt235.2.2.2.2.2.2 = 0 then ((epoch_windowS.f a0_5).bind fun t243 => (if t243 = true then (some (a0_0 == bt235.1 && (a0_1 == bt235.2.1 && (a0_2 == bt235.2.2.1 && (a0_3 == bt235.2.2.2.1 && (a0_4 == bt235.2.2.2.2.1)))))) else (some false))) else (some false))) else (some (!a0_0 && (a0_1 == 0 && (a0_2 == 0 && (a0_3 == 0 && (a0_4 == 0 && (a0_5 == 0)))))))
set_option maxHeartbeats 8000000 in
set_option maxRecDepth 100000 in
theorem epoch_Check.calls (a0_0 : Bool) (a0_1 : Int) (a0_2 : Int) (a0_3 : Int) (a0_4 : Int) (a0_5 : Int) (r : Bool) (w : World) (h : epoch_Check.f a0_0 a0_1 a0_2 a0_3 a0_4 a0_5 = some r) (hL : Tens w) :
  Calls Tryd.prog 24 #[.agg #[.bool a0_0, .int .i64 a0_1, .int .i64 a0_2, .int .i64 a0_3, .int .i64 a0_4, .int .i64 a0_5]] w fun e w' => e = .returned (.bool r) ∧ Below w.heap.size w w' := by
 have hu23 := Tryd.underlying23; have HB := Aside0.mk (Below.refl w.heap.size w); have H : (if a0_0 = true then ((epoch_BeginS.f a0_1 a0_2 a0_3).bind fun bt235 => (if bt235.2.2.2.2.2.2 = 0 then ((epoch_windowS.f a0_5).bind fun t243 => (if t243 = true then (some (a0_0 == bt235.1 && (a0_1 == bt235.2.1 && (a0_2 == bt235.2.2.1 && (a0_3 == bt235.2.2.2.1 && (a0_4 == bt235.2.2.2.2.1)))))) else (some false))) else (some false))) else (some (!a0_0 && (a0_1 == 0 && (a0_2 == 0 && (a0_3 == 0 && (a0_4 == 0 && (a0_5 == 0)))))))) = some r := h; clear h
 by_cases c2 : a0_0 = true
 ·subst c2
  have H1 : ((epoch_BeginS.f a0_1 a0_2 a0_3).bind fun bt235 => (if bt235.2.2.2.2.2.2 = 0 then ((epoch_windowS.f a0_5).bind fun t243 => (if t243 = true then (some (true == bt235.1 && (a0_1 == bt235.2.1 && (a0_2 == bt235.2.2.1 && (a0_3 == bt235.2.2.2.1 && (a0_4 == bt235.2.2.2.2.1)))))) else (some false))) else (some false))) = some r := by rw [if_pos rfl] at H; exact H
  clear H; have H := H1; clear H1; replace H := Option.bind_eq_some_iff.mp H; obtain ⟨⟨t235, t236, t237, t238, t239, t240, t241⟩, A30, H⟩ := H; (try dsimp only at H); have A3 := Aside0.mk A30; clear A30
  by_cases c4 : t241 = 0
  ·rw [if_pos c4] at H
   have c4b0 : (t241 == 0) = true := beq_iff_eq.mpr c4; have c4b1 : (t241 != 0) = false := bne_eq_false_iff_eq.mpr c4; clear c4; replace H := Option.bind_eq_some_iff.mp H; obtain ⟨t243, A50, H⟩ := H; replace H : (if t243 = true then (some (true == t235 && (a0_1 == t236 && (a0_2 == t237 && (a0_3 == t238 && (a0_4 == t239)))))) else (some false)) = some r := H; have A5 := Aside0.mk A50; clear A50
   by_cases c6 : t243 = true
   ·subst c6
    have H1 : (some (true == t235 && (a0_1 == t236 && (a0_2 == t237 && (a0_3 == t238 && (a0_4 == t239)))))) = some r := by rw [if_pos rfl] at H; exact H
    clear H; have H := H1; clear H1; obtain rfl := Option.some.inj H
    go_enter Tryd.func24, Tryd.ntmps24
    go_wp2_with (first | ((with_reducible refine gate_dst (N := 1) rfl ?_); refine box_event ?hg (N := 1) ?hd (cs := #[.bool true, .int .i64 a0_1, .int .i64 a0_2, .int .i64 a0_3, .int .i64 a0_4, .int .i64 a0_5]) (t := 23) ?hr ?_; (case hd => rfl); (case hg => rfl); (case hr => first | (go_simp; done) | (go_simp; rfl)); intro gb234 hg w7 hbox hb; have BK234 := Aside0.mk (hbox); obtain ⟨GW234, nHB⟩ := geA hg hb; have GE234 := GW234; replace HB := nHB; clear nHB; clear hb hbox hg; have hcz8_0 := czZ BK234 0 (.bool true); have hcz8_1 := czZ BK234 1 (.int .i64 a0_1); have hcz8_2 := czZ BK234 2 (.int .i64 a0_2); have hcz8_3 := czZ BK234 3 (.int .i64 a0_3); have hcz8_4 := czZ BK234 4 (.int .i64 a0_4); have hcz8_5 := czZ BK234 5 (.int .i64 a0_5); have hfz8_0 := blk_frozen BK234.out 0; have hfz8_1 := blk_frozen BK234.out 1; have hfz8_2 := blk_frozen BK234.out 2; have hfz8_3 := blk_frozen BK234.out 3; have hfz8_4 := blk_frozen BK234.out 4; have hfz8_5 := blk_frozen BK234.out 5) | ((with_reducible refine gate_callee (f := 23) rfl ?_); refine goesLA_ (some 18) rfl rfl Tryd.func23 rfl #[.int .i64 a0_1, .int .i64 a0_2, .int .i64 a0_3] rfl ?_; (with_reducible refine (epoch_BeginS.calls a0_1 a0_2 a0_3 t235 t236 t237 t238 t239 t240 t241 _ A3.out ?hT_).mono ?_); (case hT_ => exact tensB hL (by repeat (first | (with_reducible first | exact HB.out | apply below_alloc | apply pw_below_drewN | apply below_drew1 | refine below_set ?_ (Aside0.out (by assumption))) | exact HB.out))); rintro e w9 ⟨rfl, hb⟩; refine ⟨_, rfl, ?_⟩; replace BK234 := bdZ BK234 hb; replace HB := stA hb; clear hb) | ((with_reducible refine gate_dst (N := 3) rfl ?_); refine box_event ?hg (N := 3) ?hd (cs := #[.bool false, .int .i64 0, .int .i64 0, .int .i64 0, .int .i64 0, .int .i64 0]) (t := 23) ?hr ?_; (case hd => rfl); (case hg => rfl); (case hr => first | (go_simp; done) | (go_simp; rfl)); intro gb242 hg w10 hbox hb; have BK242 := Aside0.mk (hbox); obtain ⟨GW242, nHB⟩ := geA hg hb; have GE242 := GW242; obtain ⟨NB234_242, NB242_234, nBK⟩ := nbA BK234 hg hb; replace BK234 := nBK; clear nBK; replace HB := nHB; clear nHB; clear hb hbox hg; have hnb11 := NB242_234.out; have hnc11 := NB234_242.out; have hcz12_0 := czZ BK242 0 (.bool false); have hcz12_1 := czZ BK242 1 (.int .i64 0); have hcz12_2 := czZ BK242 2 (.int .i64 0); have hcz12_3 := czZ BK242 3 (.int .i64 0); have hcz12_4 := czZ BK242 4 (.int .i64 0); have hcz12_5 := czZ BK242 5 (.int .i64 0); have hfz12_0 := blk_frozen BK242.out 0; have hfz12_1 := blk_frozen BK242.out 1; have hfz12_2 := blk_frozen BK242.out 2; have hfz12_3 := blk_frozen BK242.out 3; have hfz12_4 := blk_frozen BK242.out 4; have hfz12_5 := blk_frozen BK242.out 5; have hcz13_0 := czZ BK234 0 (.bool true); have hcz13_1 := czZ BK234 1 (.int .i64 a0_1); have hcz13_2 := czZ BK234 2 (.int .i64 a0_2); have hcz13_3 := czZ BK234 3 (.int .i64 a0_3); have hcz13_4 := czZ BK234 4 (.int .i64 a0_4); have hcz13_5 := czZ BK234 5 (.int .i64 a0_5); have hfz13_0 := blk_frozen BK234.out 0; have hfz13_1 := blk_frozen BK234.out 1; have hfz13_2 := blk_frozen BK234.out 2; have hfz13_3 := blk_frozen BK234.out 3; have hfz13_4 := blk_frozen BK234.out 4; have hfz13_5 := blk_frozen BK234.out 5) | (go_at_call 51; (with_reducible refine (epoch_windowS.calls a0_5 true _ A5.out).mono ?_); rintro e w14 ⟨rfl, hb⟩; replace BK234 := bfZ BK234 (fun h_ => by (with_reducible repeat first | apply blk_drewN | apply blk_drew | apply blk_alloc | refine farZ ?_ NB234_242 _); exact h_) hb; replace BK242 := Aside0.mk (blk_below (g := gb242) (o := .cells #[.bool t235, .int .i64 t236, .int .i64 t237, .int .i64 t238, .int .i64 t239, .int .i64 a0_5] 23 (0, 0)) (by (with_reducible repeat first | apply blk_drewN | apply blk_drew | apply blk_alloc); refine blk_put (cs := #[.bool t235, .int .i64 t236, .int .i64 t237, .int .i64 t238, .int .i64 t239, .int .i64 t240]) ?_ 5 _ rfl; (with_reducible repeat first | apply blk_drewN | apply blk_drew | apply blk_alloc); refine blk_put (cs := #[.bool t235, .int .i64 t236, .int .i64 t237, .int .i64 t238, .int .i64 t239, .int .i64 0]) ?_ 5 _ rfl; (with_reducible repeat first | apply blk_drewN | apply blk_drew | apply blk_alloc); refine blk_put (cs := #[.bool t235, .int .i64 t236, .int .i64 t237, .int .i64 t238, .int .i64 0, .int .i64 0]) ?_ 4 _ rfl; (with_reducible repeat first | apply blk_drewN | apply blk_drew | apply blk_alloc); refine blk_put (cs := #[.bool t235, .int .i64 t236, .int .i64 t237, .int .i64 0, .int .i64 0, .int .i64 0]) ?_ 3 _ rfl; (with_reducible repeat first | apply blk_drewN | apply blk_drew | apply blk_alloc); refine blk_put (cs := #[.bool t235, .int .i64 t236, .int .i64 0, .int .i64 0, .int .i64 0, .int .i64 0]) ?_ 2 _ rfl; (with_reducible repeat first | apply blk_drewN | apply blk_drew | apply blk_alloc); refine blk_put (cs := #[.bool t235, .int .i64 0, .int .i64 0, .int .i64 0, .int .i64 0, .int .i64 0]) ?_ 1 _ rfl; (with_reducible repeat first | apply blk_drewN | apply blk_drew | apply blk_alloc); refine blk_put (cs := #[.bool false, .int .i64 0, .int .i64 0, .int .i64 0, .int .i64 0, .int .i64 0]) ?_ 0 _ rfl; (with_reducible repeat first | apply blk_drewN | apply blk_drew | apply blk_alloc); exact BK242.out) hb); replace HB := stA hb; clear hb; have hcz15_0 := czZ BK234 0 (.bool true); have hcz15_1 := czZ BK234 1 (.int .i64 a0_1); have hcz15_2 := czZ BK234 2 (.int .i64 a0_2); have hcz15_3 := czZ BK234 3 (.int .i64 a0_3); have hcz15_4 := czZ BK234 4 (.int .i64 a0_4); have hcz15_5 := czZ BK234 5 (.int .i64 a0_5); have hfz15_0 := blk_frozen BK234.out 0; have hfz15_1 := blk_frozen BK234.out 1; have hfz15_2 := blk_frozen BK234.out 2; have hfz15_3 := blk_frozen BK234.out 3; have hfz15_4 := blk_frozen BK234.out 4; have hfz15_5 := blk_frozen BK234.out 5; have hcz16_0 := czZ BK242 0 (.bool t235); have hcz16_1 := czZ BK242 1 (.int .i64 t236); have hcz16_2 := czZ BK242 2 (.int .i64 t237); have hcz16_3 := czZ BK242 3 (.int .i64 t238); have hcz16_4 := czZ BK242 4 (.int .i64 t239); have hcz16_5 := czZ BK242 5 (.int .i64 a0_5); have hfz16_0 := blk_frozen BK242.out 0; have hfz16_1 := blk_frozen BK242.out 1; have hfz16_2 := blk_frozen BK242.out 2; have hfz16_3 := blk_frozen BK242.out 3; have hfz16_4 := blk_frozen BK242.out 4; have hfz16_5 := blk_frozen BK242.out 5))
    go_ret
    exact ⟨by first | rfl | (simp [errW_none, errW_some] <;> rfl) | (simp [*, errW_none, errW_some] <;> rfl), by repeat (first | (with_reducible first | exact HB.out | apply below_alloc | apply pw_below_drewN | apply below_drew1 | refine below_set ?_ (Aside0.out (by assumption))) | exact HB.out)⟩
   ·replace c6 := Bool.eq_false_iff.mpr c6
    subst c6
    have H1 : (some false) = some r := by rw [if_neg (show ¬ (false = true) by decide)] at H; exact H
    clear H; have H := H1; clear H1; obtain rfl := Option.some.inj H
    go_enter Tryd.func24, Tryd.ntmps24
    go_wp2_with (first | ((with_reducible refine gate_dst (N := 1) rfl ?_); refine box_event ?hg (N := 1) ?hd (cs := #[.bool true, .int .i64 a0_1, .int .i64 a0_2, .int .i64 a0_3, .int .i64 a0_4, .int .i64 a0_5]) (t := 23) ?hr ?_; (case hd => rfl); (case hg => rfl); (case hr => first | (go_simp; done) | (go_simp; rfl)); intro gb234 hg w17 hbox hb; have BK234 := Aside0.mk (hbox); obtain ⟨GW234, nHB⟩ := geA hg hb; have GE234 := GW234; replace HB := nHB; clear nHB; clear hb hbox hg; have hcz18_0 := czZ BK234 0 (.bool true); have hcz18_1 := czZ BK234 1 (.int .i64 a0_1); have hcz18_2 := czZ BK234 2 (.int .i64 a0_2); have hcz18_3 := czZ BK234 3 (.int .i64 a0_3); have hcz18_4 := czZ BK234 4 (.int .i64 a0_4); have hcz18_5 := czZ BK234 5 (.int .i64 a0_5); have hfz18_0 := blk_frozen BK234.out 0; have hfz18_1 := blk_frozen BK234.out 1; have hfz18_2 := blk_frozen BK234.out 2; have hfz18_3 := blk_frozen BK234.out 3; have hfz18_4 := blk_frozen BK234.out 4; have hfz18_5 := blk_frozen BK234.out 5) | ((with_reducible refine gate_callee (f := 23) rfl ?_); refine goesLA_ (some 18) rfl rfl Tryd.func23 rfl #[.int .i64 a0_1, .int .i64 a0_2, .int .i64 a0_3] rfl ?_; (with_reducible refine (epoch_BeginS.calls a0_1 a0_2 a0_3 t235 t236 t237 t238 t239 t240 t241 _ A3.out ?hT_).mono ?_); (case hT_ => exact tensB hL (by repeat (first | (with_reducible first | exact HB.out | apply below_alloc | apply pw_below_drewN | apply below_drew1 | refine below_set ?_ (Aside0.out (by assumption))) | exact HB.out))); rintro e w19 ⟨rfl, hb⟩; refine ⟨_, rfl, ?_⟩; replace BK234 := bdZ BK234 hb; replace HB := stA hb; clear hb) | ((with_reducible refine gate_dst (N := 3) rfl ?_); refine box_event ?hg (N := 3) ?hd (cs := #[.bool false, .int .i64 0, .int .i64 0, .int .i64 0, .int .i64 0, .int .i64 0]) (t := 23) ?hr ?_; (case hd => rfl); (case hg => rfl); (case hr => first | (go_simp; done) | (go_simp; rfl)); intro gb242 hg w20 hbox hb; have BK242 := Aside0.mk (hbox); obtain ⟨GW242, nHB⟩ := geA hg hb; have GE242 := GW242; obtain ⟨NB234_242, NB242_234, nBK⟩ := nbA BK234 hg hb; replace BK234 := nBK; clear nBK; replace HB := nHB; clear nHB; clear hb hbox hg; have hnb21 := NB242_234.out; have hnc21 := NB234_242.out; have hcz22_0 := czZ BK242 0 (.bool false); have hcz22_1 := czZ BK242 1 (.int .i64 0); have hcz22_2 := czZ BK242 2 (.int .i64 0); have hcz22_3 := czZ BK242 3 (.int .i64 0); have hcz22_4 := czZ BK242 4 (.int .i64 0); have hcz22_5 := czZ BK242 5 (.int .i64 0); have hfz22_0 := blk_frozen BK242.out 0; have hfz22_1 := blk_frozen BK242.out 1; have hfz22_2 := blk_frozen BK242.out 2; have hfz22_3 := blk_frozen BK242.out 3; have hfz22_4 := blk_frozen BK242.out 4; have hfz22_5 := blk_frozen BK242.out 5; have hcz23_0 := czZ BK234 0 (.bool true); have hcz23_1 := czZ BK234 1 (.int .i64 a0_1); have hcz23_2 := czZ BK234 2 (.int .i64 a0_2); have hcz23_3 := czZ BK234 3 (.int .i64 a0_3); have hcz23_4 := czZ BK234 4 (.int .i64 a0_4); have hcz23_5 := czZ BK234 5 (.int .i64 a0_5); have hfz23_0 := blk_frozen BK234.out 0; have hfz23_1 := blk_frozen BK234.out 1; have hfz23_2 := blk_frozen BK234.out 2; have hfz23_3 := blk_frozen BK234.out 3; have hfz23_4 := blk_frozen BK234.out 4; have hfz23_5 := blk_frozen BK234.out 5) | (go_at_call 51; (with_reducible refine (epoch_windowS.calls a0_5 false _ A5.out).mono ?_); rintro e w24 ⟨rfl, hb⟩; replace BK234 := bfZ BK234 (fun h_ => by (with_reducible repeat first | apply blk_drewN | apply blk_drew | apply blk_alloc | refine farZ ?_ NB234_242 _); exact h_) hb; replace BK242 := Aside0.mk (blk_below (g := gb242) (o := .cells #[.bool t235, .int .i64 t236, .int .i64 t237, .int .i64 t238, .int .i64 t239, .int .i64 a0_5] 23 (0, 0)) (by (with_reducible repeat first | apply blk_drewN | apply blk_drew | apply blk_alloc); refine blk_put (cs := #[.bool t235, .int .i64 t236, .int .i64 t237, .int .i64 t238, .int .i64 t239, .int .i64 t240]) ?_ 5 _ rfl; (with_reducible repeat first | apply blk_drewN | apply blk_drew | apply blk_alloc); refine blk_put (cs := #[.bool t235, .int .i64 t236, .int .i64 t237, .int .i64 t238, .int .i64 t239, .int .i64 0]) ?_ 5 _ rfl; (with_reducible repeat first | apply blk_drewN | apply blk_drew | apply blk_alloc); refine blk_put (cs := #[.bool t235, .int .i64 t236, .int .i64 t237, .int .i64 t238, .int .i64 0, .int .i64 0]) ?_ 4 _ rfl; (with_reducible repeat first | apply blk_drewN | apply blk_drew | apply blk_alloc); refine blk_put (cs := #[.bool t235, .int .i64 t236, .int .i64 t237, .int .i64 0, .int .i64 0, .int .i64 0]) ?_ 3 _ rfl; (with_reducible repeat first | apply blk_drewN | apply blk_drew | apply blk_alloc); refine blk_put (cs := #[.bool t235, .int .i64 t236, .int .i64 0, .int .i64 0, .int .i64 0, .int .i64 0]) ?_ 2 _ rfl; (with_reducible repeat first | apply blk_drewN | apply blk_drew | apply blk_alloc); refine blk_put (cs := #[.bool t235, .int .i64 0, .int .i64 0, .int .i64 0, .int .i64 0, .int .i64 0]) ?_ 1 _ rfl; (with_reducible repeat first | apply blk_drewN | apply blk_drew | apply blk_alloc); refine blk_put (cs := #[.bool false, .int .i64 0, .int .i64 0, .int .i64 0, .int .i64 0, .int .i64 0]) ?_ 0 _ rfl; (with_reducible repeat first | apply blk_drewN | apply blk_drew | apply blk_alloc); exact BK242.out) hb); replace HB := stA hb; clear hb))
    go_ret
    exact ⟨by first | rfl | (simp [errW_none, errW_some] <;> rfl) | (simp [*, errW_none, errW_some] <;> rfl), by repeat (first | (with_reducible first | exact HB.out | apply below_alloc | apply pw_below_drewN | apply below_drew1 | refine below_set ?_ (Aside0.out (by assumption))) | exact HB.out)⟩
  ·rw [if_neg c4] at H
   have c4b0 : (t241 == 0) = false := beq_eq_false_iff_ne.mpr c4; have c4b1 : (t241 != 0) = true := bne_iff_ne.mpr c4; obtain rfl := Option.some.inj H
   go_enter Tryd.func24, Tryd.ntmps24
   go_wp2_with (first | ((with_reducible refine gate_dst (N := 1) rfl ?_); refine box_event ?hg (N := 1) ?hd (cs := #[.bool true, .int .i64 a0_1, .int .i64 a0_2, .int .i64 a0_3, .int .i64 a0_4, .int .i64 a0_5]) (t := 23) ?hr ?_; (case hd => rfl); (case hg => rfl); (case hr => first | (go_simp; done) | (go_simp; rfl)); intro gb234 hg w25 hbox hb; have BK234 := Aside0.mk (hbox); obtain ⟨GW234, nHB⟩ := geA hg hb; have GE234 := GW234; replace HB := nHB; clear nHB; clear hb hbox hg; have hcz26_0 := czZ BK234 0 (.bool true); have hcz26_1 := czZ BK234 1 (.int .i64 a0_1); have hcz26_2 := czZ BK234 2 (.int .i64 a0_2); have hcz26_3 := czZ BK234 3 (.int .i64 a0_3); have hcz26_4 := czZ BK234 4 (.int .i64 a0_4); have hcz26_5 := czZ BK234 5 (.int .i64 a0_5); have hfz26_0 := blk_frozen BK234.out 0; have hfz26_1 := blk_frozen BK234.out 1; have hfz26_2 := blk_frozen BK234.out 2; have hfz26_3 := blk_frozen BK234.out 3; have hfz26_4 := blk_frozen BK234.out 4; have hfz26_5 := blk_frozen BK234.out 5) | ((with_reducible refine gate_callee (f := 23) rfl ?_); refine goesLA_ (some 18) rfl rfl Tryd.func23 rfl #[.int .i64 a0_1, .int .i64 a0_2, .int .i64 a0_3] rfl ?_; (with_reducible refine (epoch_BeginS.calls a0_1 a0_2 a0_3 t235 t236 t237 t238 t239 t240 t241 _ A3.out ?hT_).mono ?_); (case hT_ => exact tensB hL (by repeat (first | (with_reducible first | exact HB.out | apply below_alloc | apply pw_below_drewN | apply below_drew1 | refine below_set ?_ (Aside0.out (by assumption))) | exact HB.out))); rintro e w27 ⟨rfl, hb⟩; refine ⟨_, rfl, ?_⟩; replace BK234 := bdZ BK234 hb; replace HB := stA hb; clear hb) | ((with_reducible refine gate_dst (N := 3) rfl ?_); refine box_event ?hg (N := 3) ?hd (cs := #[.bool false, .int .i64 0, .int .i64 0, .int .i64 0, .int .i64 0, .int .i64 0]) (t := 23) ?hr ?_; (case hd => rfl); (case hg => rfl); (case hr => first | (go_simp; done) | (go_simp; rfl)); intro gb242 hg w28 hbox hb; have BK242 := Aside0.mk (hbox); obtain ⟨GW242, nHB⟩ := geA hg hb; have GE242 := GW242; obtain ⟨NB234_242, NB242_234, nBK⟩ := nbA BK234 hg hb; replace BK234 := nBK; clear nBK; replace HB := nHB; clear nHB; clear hb hbox hg; have hnb29 := NB242_234.out; have hnc29 := NB234_242.out; have hcz30_0 := czZ BK242 0 (.bool false); have hcz30_1 := czZ BK242 1 (.int .i64 0); have hcz30_2 := czZ BK242 2 (.int .i64 0); have hcz30_3 := czZ BK242 3 (.int .i64 0); have hcz30_4 := czZ BK242 4 (.int .i64 0); have hcz30_5 := czZ BK242 5 (.int .i64 0); have hfz30_0 := blk_frozen BK242.out 0; have hfz30_1 := blk_frozen BK242.out 1; have hfz30_2 := blk_frozen BK242.out 2; have hfz30_3 := blk_frozen BK242.out 3; have hfz30_4 := blk_frozen BK242.out 4; have hfz30_5 := blk_frozen BK242.out 5; have hcz31_0 := czZ BK234 0 (.bool true); have hcz31_1 := czZ BK234 1 (.int .i64 a0_1); have hcz31_2 := czZ BK234 2 (.int .i64 a0_2); have hcz31_3 := czZ BK234 3 (.int .i64 a0_3); have hcz31_4 := czZ BK234 4 (.int .i64 a0_4); have hcz31_5 := czZ BK234 5 (.int .i64 a0_5); have hfz31_0 := blk_frozen BK234.out 0; have hfz31_1 := blk_frozen BK234.out 1; have hfz31_2 := blk_frozen BK234.out 2; have hfz31_3 := blk_frozen BK234.out 3; have hfz31_4 := blk_frozen BK234.out 4; have hfz31_5 := blk_frozen BK234.out 5))
   go_ret
   exact ⟨by first | rfl | (simp [errW_none, errW_some] <;> rfl) | (simp [*, errW_none, errW_some] <;> rfl), by repeat (first | (with_reducible first | exact HB.out | apply below_alloc | apply pw_below_drewN | apply below_drew1 | refine below_set ?_ (Aside0.out (by assumption))) | exact HB.out)⟩
 ·replace c2 := Bool.eq_false_iff.mpr c2
  subst c2
  have H1 : (some (!false && (a0_1 == 0 && (a0_2 == 0 && (a0_3 == 0 && (a0_4 == 0 && (a0_5 == 0))))))) = some r := by rw [if_neg (show ¬ (false = true) by decide)] at H; exact H
  clear H; have H := H1; clear H1; obtain rfl := Option.some.inj H
  go_enter Tryd.func24, Tryd.ntmps24
  go_wp2_with (first | ((with_reducible refine gate_dst (N := 1) rfl ?_); refine box_event ?hg (N := 1) ?hd (cs := #[.bool false, .int .i64 a0_1, .int .i64 a0_2, .int .i64 a0_3, .int .i64 a0_4, .int .i64 a0_5]) (t := 23) ?hr ?_; (case hd => rfl); (case hg => rfl); (case hr => first | (go_simp; done) | (go_simp; rfl)); intro gb234 hg w32 hbox hb; have BK234 := Aside0.mk (hbox); obtain ⟨GW234, nHB⟩ := geA hg hb; have GE234 := GW234; replace HB := nHB; clear nHB; clear hb hbox hg; have hcz33_0 := czZ BK234 0 (.bool false); have hcz33_1 := czZ BK234 1 (.int .i64 a0_1); have hcz33_2 := czZ BK234 2 (.int .i64 a0_2); have hcz33_3 := czZ BK234 3 (.int .i64 a0_3); have hcz33_4 := czZ BK234 4 (.int .i64 a0_4); have hcz33_5 := czZ BK234 5 (.int .i64 a0_5); have hfz33_0 := blk_frozen BK234.out 0; have hfz33_1 := blk_frozen BK234.out 1; have hfz33_2 := blk_frozen BK234.out 2; have hfz33_3 := blk_frozen BK234.out 3; have hfz33_4 := blk_frozen BK234.out 4; have hfz33_5 := blk_frozen BK234.out 5))
  go_ret
  exact ⟨by first | rfl | (simp [errW_none, errW_some] <;> rfl) | (simp [*, errW_none, errW_some] <;> rfl), by repeat (first | (with_reducible first | exact HB.out | apply below_alloc | apply pw_below_drewN | apply below_drew1 | refine below_set ?_ GE234.out) | exact HB.out)⟩

/-! ### epoch_CheckS: pure, behind function 24 -/
section
open Go.Proofs.YtgakpcfmgcpeaaaDoor.Sp
noncomputable def epoch_CheckS.f (on : Bool) (s : Int) (f : Int) (m : Int) (k : Int) (e : Int) : Option (Bool) := need ((I s) ∧ (I f) ∧ (I m)) (some (eOk on s f m k e))
theorem epoch_CheckS.eq {on : Bool} {s : Int} {f : Int} {m : Int} {k : Int} {e : Int} (h1 : I s) (h2 : I f) (h3 : I m) : epoch_CheckS.f on s f m k e = some (eOk on s f m k e) := need_pos ⟨h1, h2, h3⟩
theorem epoch_Check.main {on : Bool} {s : Int} {f : Int} {m : Int} {k : Int} {e : Int} (h1 : I s) (h2 : I f) (h3 : I m) : epoch_Check.f on s f m k e = some (eOk on s f m k e) := by
 unfold epoch_Check.f
 cases on
 ·rw [if_neg (by simp)]
  congr 1
  refine eOk_of (fun x => by cases x) (fun _ => ?_)
  simp
 ·rw [if_pos rfl, epoch_BeginS.eq h1 h2 h3, epoch_windowS.eq]
  simp only [Option.bind_some]
  unfold beginQ winOk
  by_cases c : 0 ≤ s ∧ s ≤ 1099511627776 ∧ 0 ≤ f ∧ f ≤ 68719476736 ∧ 0 ≤ m ∧ m ≤ 68719476736
  ·rw [if_pos c]
   simp only [if_true]
   by_cases c1 : 0 ≤ e ∧ e ≤ 68719476736
   ·rw [if_pos (decide_eq_true c1)]
    congr 1
    refine eOk_of (fun _ => ?_) (fun x => by cases x)
    unfold eOn
    by_cases c3 : f ≤ m
    ·have q : max2 m f = m := by unfold max2; rw [if_neg (by omega)]
     rw [q]; simp; omega
    ·have q : max2 m f = f := by unfold max2; rw [if_pos (by omega)]
     rw [q]; simp; omega
   ·rw [if_neg (show ¬ decide (0 ≤ e ∧ e ≤ 68719476736) = true by rw [decide_eq_true_iff]; exact c1)]
    congr 1
    refine eOk_of (fun _ => ?_) (fun x => by cases x)
    unfold eOn
    simp; omega
  ·rw [if_neg c]
   simp only
   rw [if_neg (by omega)]
   congr 1
   refine eOk_of (fun _ => ?_) (fun x => by cases x)
   unfold eOn
   simp; omega
end
theorem epoch_CheckS.calls (a0_0 : Bool) (a0_1 : Int) (a0_2 : Int) (a0_3 : Int) (a0_4 : Int) (a0_5 : Int) (r : Bool) (w : World) (h : epoch_CheckS.f a0_0 a0_1 a0_2 a0_3 a0_4 a0_5 = some r) (hL : Tens w) :
  Calls Tryd.prog 24 #[.agg #[.bool a0_0, .int .i64 a0_1, .int .i64 a0_2, .int .i64 a0_3, .int .i64 a0_4, .int .i64 a0_5]] w fun e w' => e = .returned (.bool r) ∧ Below w.heap.size w w' := by
 obtain ⟨hc, h⟩ := Sp.need_some h; obtain ⟨h1, h2, h3⟩ := hc; exact epoch_Check.calls a0_0 a0_1 a0_2 a0_3 a0_4 a0_5 r w (by rw [epoch_Check.main h1 h2 h3]; exact h) hL

/-! ### cubic_is: function 26 -/
noncomputable def cubic_is.f (a0_0 : Bool) (a0_1 : Int) (a0_2 : Int) (a0_3 : Int) (a0_4 : Int) (a0_5 : Int) : Option (Bool) := if a0_0 = true then ((epoch_CheckS.f a0_0 a0_1 a0_2 a0_3 a0_4 a0_5).bind fun t245 => (some t245)) else (some false)
set_option maxHeartbeats 8000000 in
set_option maxRecDepth 100000 in
theorem cubic_is.calls (a0_0 : Bool) (a0_1 : Int) (a0_2 : Int) (a0_3 : Int) (a0_4 : Int) (a0_5 : Int) (r : Bool) (w : World) (h : cubic_is.f a0_0 a0_1 a0_2 a0_3 a0_4 a0_5 = some r) (hL : Tens w) :
  Calls Tryd.prog 26 #[.agg #[.bool a0_0, .int .i64 a0_1, .int .i64 a0_2, .int .i64 a0_3, .int .i64 a0_4, .int .i64 a0_5]] w fun e w' => e = .returned (.bool r) ∧ Below w.heap.size w w' := by
 have hu23 := Tryd.underlying23; have HB := Aside0.mk (Below.refl w.heap.size w); have H : (if a0_0 = true then ((epoch_CheckS.f a0_0 a0_1 a0_2 a0_3 a0_4 a0_5).bind fun t245 => (some t245)) else (some false)) = some r := h; clear h
 by_cases c2 : a0_0 = true
 ·subst c2
  have H1 : ((epoch_CheckS.f true a0_1 a0_2 a0_3 a0_4 a0_5).bind fun t245 => (some t245)) = some r := by rw [if_pos rfl] at H; exact H
  clear H; have H := H1; clear H1; replace H := Option.bind_eq_some_iff.mp H; obtain ⟨t245, A30, H⟩ := H; replace H : (some t245) = some r := H; have A3 := Aside0.mk A30; clear A30; obtain rfl := Option.some.inj H
  go_enter Tryd.func26, Tryd.ntmps26
  go_wp2_with (first | ((with_reducible refine gate_dst (N := 1) rfl ?_); refine box_event ?hg (N := 1) ?hd (cs := #[.bool true, .int .i64 a0_1, .int .i64 a0_2, .int .i64 a0_3, .int .i64 a0_4, .int .i64 a0_5]) (t := 23) ?hr ?_; (case hd => rfl); (case hg => rfl); (case hr => first | (go_simp; done) | (go_simp; rfl)); intro gb244 hg w4 hbox hb; have BK244 := Aside0.mk (hbox); obtain ⟨GW244, nHB⟩ := geA hg hb; have GE244 := GW244; replace HB := nHB; clear nHB; clear hb hbox hg; have hcz5_0 := czZ BK244 0 (.bool true); have hcz5_1 := czZ BK244 1 (.int .i64 a0_1); have hcz5_2 := czZ BK244 2 (.int .i64 a0_2); have hcz5_3 := czZ BK244 3 (.int .i64 a0_3); have hcz5_4 := czZ BK244 4 (.int .i64 a0_4); have hcz5_5 := czZ BK244 5 (.int .i64 a0_5); have hfz5_0 := blk_frozen BK244.out 0; have hfz5_1 := blk_frozen BK244.out 1; have hfz5_2 := blk_frozen BK244.out 2; have hfz5_3 := blk_frozen BK244.out 3; have hfz5_4 := blk_frozen BK244.out 4; have hfz5_5 := blk_frozen BK244.out 5) | (go_at_call 24; (with_reducible refine (epoch_CheckS.calls true a0_1 a0_2 a0_3 a0_4 a0_5 t245 _ A3.out ?hT_).mono ?_); (case hT_ => exact tensB hL (by repeat (first | (with_reducible first | exact HB.out | apply below_alloc | apply pw_below_drewN | apply below_drew1 | refine below_set ?_ (Aside0.out (by assumption))) | exact HB.out))); rintro e w6 ⟨rfl, hb⟩; replace BK244 := bdZ BK244 hb; replace HB := stA hb; clear hb))
  go_ret
  exact ⟨by first | rfl | (simp [errW_none, errW_some] <;> rfl) | (simp [*, errW_none, errW_some] <;> rfl), by repeat (first | (with_reducible first | exact HB.out | apply below_alloc | apply pw_below_drewN | apply below_drew1 | refine below_set ?_ GE244.out) | exact HB.out)⟩
 ·replace c2 := Bool.eq_false_iff.mpr c2
  subst c2
  have H1 : (some false) = some r := by rw [if_neg (show ¬ (false = true) by decide)] at H; exact H
  clear H; have H := H1; clear H1; obtain rfl := Option.some.inj H
  go_enter Tryd.func26, Tryd.ntmps26
  go_wp2_with (first | ((with_reducible refine gate_dst (N := 1) rfl ?_); refine box_event ?hg (N := 1) ?hd (cs := #[.bool false, .int .i64 a0_1, .int .i64 a0_2, .int .i64 a0_3, .int .i64 a0_4, .int .i64 a0_5]) (t := 23) ?hr ?_; (case hd => rfl); (case hg => rfl); (case hr => first | (go_simp; done) | (go_simp; rfl)); intro gb244 hg w7 hbox hb; have BK244 := Aside0.mk (hbox); obtain ⟨GW244, nHB⟩ := geA hg hb; have GE244 := GW244; replace HB := nHB; clear nHB; clear hb hbox hg; have hcz8_0 := czZ BK244 0 (.bool false); have hcz8_1 := czZ BK244 1 (.int .i64 a0_1); have hcz8_2 := czZ BK244 2 (.int .i64 a0_2); have hcz8_3 := czZ BK244 3 (.int .i64 a0_3); have hcz8_4 := czZ BK244 4 (.int .i64 a0_4); have hcz8_5 := czZ BK244 5 (.int .i64 a0_5); have hfz8_0 := blk_frozen BK244.out 0; have hfz8_1 := blk_frozen BK244.out 1; have hfz8_2 := blk_frozen BK244.out 2; have hfz8_3 := blk_frozen BK244.out 3; have hfz8_4 := blk_frozen BK244.out 4; have hfz8_5 := blk_frozen BK244.out 5))
  go_ret
  exact ⟨by first | rfl | (simp [errW_none, errW_some] <;> rfl) | (simp [*, errW_none, errW_some] <;> rfl), by repeat (first | (with_reducible first | exact HB.out | apply below_alloc | apply pw_below_drewN | apply below_drew1 | refine below_set ?_ GE244.out) | exact HB.out)⟩

/-! ### cubic_isS: pure, behind function 26 -/
section
open Go.Proofs.YtgakpcfmgcpeaaaDoor.Sp
noncomputable def cubic_isS.f (on : Bool) (s : Int) (f : Int) (m : Int) (k : Int) (e : Int) : Option (Bool) := need ((I s) ∧ (I f) ∧ (I m)) (some (on && eOk on s f m k e))
theorem cubic_isS.eq {on : Bool} {s : Int} {f : Int} {m : Int} {k : Int} {e : Int} (h1 : I s) (h2 : I f) (h3 : I m) : cubic_isS.f on s f m k e = some (on && eOk on s f m k e) := need_pos ⟨h1, h2, h3⟩
theorem cubic_is.main {on : Bool} {s : Int} {f : Int} {m : Int} {k : Int} {e : Int} (h1 : I s) (h2 : I f) (h3 : I m) : cubic_is.f on s f m k e = some (on && eOk on s f m k e) := by
 unfold cubic_is.f
 cases on
 ·rfl
 ·rw [if_pos rfl, epoch_CheckS.eq h1 h2 h3]
  simp
end
theorem cubic_isS.calls (a0_0 : Bool) (a0_1 : Int) (a0_2 : Int) (a0_3 : Int) (a0_4 : Int) (a0_5 : Int) (r : Bool) (w : World) (h : cubic_isS.f a0_0 a0_1 a0_2 a0_3 a0_4 a0_5 = some r) (hL : Tens w) :
  Calls Tryd.prog 26 #[.agg #[.bool a0_0, .int .i64 a0_1, .int .i64 a0_2, .int .i64 a0_3, .int .i64 a0_4, .int .i64 a0_5]] w fun e w' => e = .returned (.bool r) ∧ Below w.heap.size w w' := by
 obtain ⟨hc, h⟩ := Sp.need_some h; obtain ⟨h1, h2, h3⟩ := hc; exact cubic_is.calls a0_0 a0_1 a0_2 a0_3 a0_4 a0_5 r w (by rw [cubic_is.main h1 h2 h3]; exact h) hL

-- NOT PRINTED: function 66 (safe_held)

/-! ### safe_Plus: function 67 -/
noncomputable def safe_Plus.f (a0 : Int) (a1 : Int) : Option (Int × Int) := if ((decide (a0 ≥ 0)) == (decide (a1 ≥ 0))) = true then (if ((decide ((wrap64 (a0 + a1)) ≥ 0)) != (decide (a0 ≥ 0))) = true then (some (0, 10)) else (some (wrap64 (a0 + a1), 0))) else (some (wrap64 (a0 + a1), 0))
set_option maxHeartbeats 8000000 in
set_option maxRecDepth 100000 in
theorem safe_Plus.calls (a0 : Int) (a1 : Int) (r1 : Int) (r2 : Int) (w : World) (h : safe_Plus.f a0 a1 = some (r1, r2)) :
  Calls Tryd.prog 67 #[.int .i64 a0, .int .i64 a1] w fun e w' => e = .returned (.tuple #[.int .i64 r1, .int .i64 r2]) ∧ Drawn0 w w' := by
 have H : (if ((decide (a0 ≥ 0)) == (decide (a1 ≥ 0))) = true then (if ((decide ((wrap64 (a0 + a1)) ≥ 0)) != (decide (a0 ≥ 0))) = true then (some (0, 10)) else (some (wrap64 (a0 + a1), 0))) else (some (wrap64 (a0 + a1), 0))) = some (r1, r2) := h; clear h
 by_cases c3 : ((decide (a0 ≥ 0)) == (decide (a1 ≥ 0))) = true
 ·rw [if_pos c3] at H
  have c3b0 : ((decide (a0 ≥ 0)) == (decide (a1 ≥ 0))) = true := c3
  (try (have c3b1 : decide ((decide (a0 ≥ 0)) = (decide (a1 ≥ 0))) = true := by simpa using c3))
  (try (have c3b2 : ((decide (a0 ≥ 0)) == (decide (a1 ≥ 0))) = true := by simpa using c3))
  clear c3
  by_cases c4 : ((decide ((wrap64 (a0 + a1)) ≥ 0)) != (decide (a0 ≥ 0))) = true
  ·rw [if_pos c4] at H
   have c4b0 : ((decide ((wrap64 (a0 + a1)) ≥ 0)) != (decide (a0 ≥ 0))) = true := c4
   (try (have c4b1 : decide ((decide ((wrap64 (a0 + a1)) ≥ 0)) = (decide (a0 ≥ 0))) = false := by simpa using c4))
   (try (have c4b2 : ((decide ((wrap64 (a0 + a1)) ≥ 0)) == (decide (a0 ≥ 0))) = false := by simpa using c4))
   (try (have c4b3 : ¬ ((decide ((wrap64 (a0 + a1)) ≥ 0)) = (decide (a0 ≥ 0))) := by simpa using c4))
   clear c4; simp only [Option.some.injEq, Prod.mk.injEq] at H; obtain ⟨rfl, rfl⟩ := H
   go_enter Tryd.func67, Tryd.ntmps67
   go_wp2
   go_ret2
   exact ⟨by first | rfl | (simp; done) | (simp [*]; done), by repeat (first | exact Drawn0.refl _ | apply Drawn0.step)⟩
  ·rw [if_neg c4] at H
   have c4b0 : ((decide ((wrap64 (a0 + a1)) ≥ 0)) != (decide (a0 ≥ 0))) = false := by simpa using c4
   (try (have c4b1 : decide ((decide ((wrap64 (a0 + a1)) ≥ 0)) = (decide (a0 ≥ 0))) = true := by simpa using c4))
   (try (have c4b2 : ((decide ((wrap64 (a0 + a1)) ≥ 0)) == (decide (a0 ≥ 0))) = true := by simpa using c4))
   clear c4; simp only [Option.some.injEq, Prod.mk.injEq] at H; obtain ⟨rfl, rfl⟩ := H
   go_enter Tryd.func67, Tryd.ntmps67
   go_wp2
   go_ret2
   exact ⟨by first | rfl | (simp; done) | (simp [*]; done), by repeat (first | exact Drawn0.refl _ | apply Drawn0.step)⟩
 ·rw [if_neg c3] at H
  have c3b0 : ((decide (a0 ≥ 0)) == (decide (a1 ≥ 0))) = false := by simpa using c3
  (try (have c3b1 : decide ((decide (a0 ≥ 0)) = (decide (a1 ≥ 0))) = false := by simpa using c3))
  (try (have c3b2 : ((decide (a0 ≥ 0)) == (decide (a1 ≥ 0))) = false := by simpa using c3))
  (try (have c3b3 : ¬ ((decide (a0 ≥ 0)) = (decide (a1 ≥ 0))) := by simpa using c3))
  clear c3; simp only [Option.some.injEq, Prod.mk.injEq] at H; obtain ⟨rfl, rfl⟩ := H
  go_enter Tryd.func67, Tryd.ntmps67
  go_wp2
  go_ret2
  exact ⟨by first | rfl | (simp; done) | (simp [*]; done), by repeat (first | exact Drawn0.refl _ | apply Drawn0.step)⟩

/-! ### safe_PlusS: a sum, or its error: pure, behind function 67 -/
noncomputable def safe_PlusS.f (a b : Int) : Option (Int × Int) := Sp.need (Sp.I a ∧ Sp.I b) (Sp.fit (a + b))
section SafePlus
open Go.Proofs.YtgakpcfmgcpeaaaDoor.Sp
theorem safe_Plus.main {a b : Int} (h1 : I a) (h2 : I b) : safe_Plus.f a b = fit (a + b) := by
 unfold safe_Plus.f fit
 by_cases c : I (a + b)
 ·rw [if_pos c, w64 c]
  by_cases ha : a ≥ 0 <;> by_cases hb : b ≥ 0
  ·have : a + b ≥ 0 := by omega
   simp [ha, hb, this]
  ·simp [ha, hb]
  ·simp [ha, hb]
  ·have : ¬ a + b ≥ 0 := by omega
   simp [ha, hb, this]
 ·rw [if_neg c]
  by_cases ha : a ≥ 0
  ·have hb : b ≥ 0 := by omega
   have hw : ¬ wrap64 (a + b) ≥ 0 := by unfold wrap64; omega
   simp [ha, hb, hw]
  ·have hb : ¬ b ≥ 0 := by omega
   have hw : wrap64 (a + b) ≥ 0 := by unfold wrap64; omega
   simp [ha, hb, hw]
end SafePlus
theorem safe_PlusS.calls (a0 a1 r1 r2 : Int) (w : World) (h : safe_PlusS.f a0 a1 = some (r1, r2)) :
  Calls Tryd.prog 67 #[.int .i64 a0, .int .i64 a1] w fun e w' => e = .returned (.tuple #[.int .i64 r1, .int .i64 r2]) ∧ Drawn0 w w' := by
 obtain ⟨hc, h⟩ := Sp.need_some h; exact safe_Plus.calls a0 a1 r1 r2 w (by rw [safe_Plus.main hc.1 hc.2]; exact h)

/-! ### safe_Add: function 41 -/
noncomputable def safe_Add.f (a b : Int) : Option Int := Sp.need (Sp.I a ∧ Sp.I b) (some (Sp.near (a + b)))
theorem safe_Add.eq {a b : Int} (h1 : Sp.I a) (h2 : Sp.I b) : safe_Add.f a b = some (Sp.near (a + b)) := Sp.need_pos ⟨h1, h2⟩
theorem safe_PlusS.as {a b x y : Int} (h1 : Sp.I a) (h2 : Sp.I b) (h : Sp.fit (a + b) = some (x, y)) : Aside0 (safe_PlusS.f a b = some (x, y)) := ⟨(Sp.need_pos ⟨h1, h2⟩).trans h⟩
set_option maxHeartbeats 1000000 in
set_option maxRecDepth 100000 in
theorem safe_Add.calls (a0 a1 r : Int) (w : World) (h : safe_Add.f a0 a1 = some r) :
  Calls Tryd.prog 41 #[.int .i64 a0, .int .i64 a1] w fun e w' => e = .returned (.int .i64 r) ∧ Below w.heap.size w w' := by
 obtain ⟨hc, h⟩ := Sp.need_some h; obtain rfl := Option.some.inj h
 have hmf : ∀ (fn : Fn) (first cap : Array Value) (w : World), (Instr.makeFunc fn first cap).run Tryd.prog w = .ok (.func fn first cap) w := fun _ _ _ _ => rfl
 by_cases c : Sp.I (a0 + a1)
 ·have HP := safe_PlusS.as hc.1 hc.2 (Sp.fit_in c)
  rw [Sp.near_in c]
  clear hc c
  go_enter Tryd.func41, Tryd.ntmps41
  go_wp2_with (first | (go_at_call 67; refine (safe_PlusS.calls a0 a1 _ _ _ HP.out).mono ?_; rintro e w' ⟨rfl, ⟨nd, rfl⟩⟩) | go_in)
  go_ret
  exact ⟨rfl, by repeat (first | exact Below.refl _ _ | apply below_alloc | apply pw_below_drewN)⟩
 ·have HP := safe_PlusS.as hc.1 hc.2 (Sp.fit_out c)
  by_cases hn : a0 < 0
  ·have e0 : Sp.near (a0 + a1) = -9223372036854775808 := Sp.near_lo (by omega)
   rw [e0]
   have hd : decide (a0 < 0) = true := decide_eq_true hn; clear hc c hn e0
   go_enter Tryd.func41, Tryd.ntmps41
   go_wp2_with (first | (go_at_call 67; refine (safe_PlusS.calls a0 a1 _ _ _ HP.out).mono ?_; rintro e w' ⟨rfl, ⟨nd, rfl⟩⟩) | go_in)
   go_ret
   exact ⟨rfl, by repeat (first | exact Below.refl _ _ | apply below_alloc | apply pw_below_drewN)⟩
  ·have e0 : Sp.near (a0 + a1) = 9223372036854775807 := Sp.near_hi (by omega)
   rw [e0]
   have hd : decide (a0 < 0) = false := decide_eq_false hn; clear hc c hn e0
   go_enter Tryd.func41, Tryd.ntmps41
   go_wp2_with (first | (go_at_call 67; refine (safe_PlusS.calls a0 a1 _ _ _ HP.out).mono ?_; rintro e w' ⟨rfl, ⟨nd, rfl⟩⟩) | go_in)
   go_ret
   exact ⟨rfl, by repeat (first | exact Below.refl _ _ | apply below_alloc | apply pw_below_drewN)⟩

/-! ### safe_unit: function 64 -/
noncomputable def safe_unit.f (a0 : Int) : Option (Int) := if a0 < 0 then (some 1) else (some 0)
set_option maxHeartbeats 8000000 in
set_option maxRecDepth 100000 in
theorem safe_unit.calls (a0 : Int) (r : Int) (w : World) (h : safe_unit.f a0 = some r) :
  Calls Tryd.prog 64 #[.int .i64 a0] w fun e w' => e = .returned (.int .i64 r) ∧ Drawn0 w w' := by
 have H : (if a0 < 0 then (some 1) else (some 0)) = some r := h; clear h
 by_cases c2 : a0 < 0
 ·rw [if_pos c2] at H
  have c2b0 : decide (a0 < 0) = true := decide_eq_true c2; clear c2; obtain rfl := Option.some.inj H
  go_enter Tryd.func64, Tryd.ntmps64
  go_wp2
  go_ret
  exact ⟨by first | rfl | (simp; done) | (simp [*]; done), by repeat (first | exact Drawn0.refl _ | apply Drawn0.step)⟩
 ·rw [if_neg c2] at H
  have c2b0 : decide (a0 < 0) = false := decide_eq_false c2; clear c2; obtain rfl := Option.some.inj H
  go_enter Tryd.func64, Tryd.ntmps64
  go_wp2
  go_ret
  exact ⟨by first | rfl | (simp; done) | (simp [*]; done), by repeat (first | exact Drawn0.refl _ | apply Drawn0.step)⟩

/-! ### safe_Sub: function 39 -/
noncomputable def safe_Sub.f (a0 : Int) (a1 : Int) : Option (Int) := if a1 = (-9223372036854775808) then ((safe_Add.f a0 9223372036854775807).bind fun t246 => ((safe_unit.f a0).bind fun t247 => ((safe_Add.f t246 (wrap64 t247)).bind fun t248 => (some t248)))) else ((safe_Add.f a0 (wrap64 (-a1))).bind fun t249 => (some t249))
set_option maxHeartbeats 8000000 in
set_option maxRecDepth 100000 in
theorem safe_Sub.calls (a0 : Int) (a1 : Int) (r : Int) (w : World) (h : safe_Sub.f a0 a1 = some r) :
  Calls Tryd.prog 39 #[.int .i64 a0, .int .i64 a1] w fun e w' => e = .returned (.int .i64 r) ∧ Below w.heap.size w w' := by
 have HB := Aside0.mk (Below.refl w.heap.size w); have H : (if a1 = (-9223372036854775808) then ((safe_Add.f a0 9223372036854775807).bind fun t246 => ((safe_unit.f a0).bind fun t247 => ((safe_Add.f t246 (wrap64 t247)).bind fun t248 => (some t248)))) else ((safe_Add.f a0 (wrap64 (-a1))).bind fun t249 => (some t249))) = some r := h; clear h
 by_cases c3 : a1 = (-9223372036854775808)
 ·rw [if_pos c3] at H
  have c3b0 : (a1 == (-9223372036854775808)) = true := beq_iff_eq.mpr c3; have c3b1 : (a1 != (-9223372036854775808)) = false := bne_eq_false_iff_eq.mpr c3; clear c3; replace H := Option.bind_eq_some_iff.mp H; obtain ⟨t246, A40, H⟩ := H; replace H : ((safe_unit.f a0).bind fun t247 => ((safe_Add.f t246 (wrap64 t247)).bind fun t248 => (some t248))) = some r := H; have A4 := Aside0.mk A40; clear A40; replace H := Option.bind_eq_some_iff.mp H; obtain ⟨t247, A50, H⟩ := H; replace H : ((safe_Add.f t246 (wrap64 t247)).bind fun t248 => (some t248)) = some r := H; have A5 := Aside0.mk A50; clear A50; replace H := Option.bind_eq_some_iff.mp H; obtain ⟨t248, A60, H⟩ := H; replace H : (some t248) = some r := H; have A6 := Aside0.mk A60; clear A60; obtain rfl := Option.some.inj H
  go_enter Tryd.func39, Tryd.ntmps39
  go_wp2_with (first | ((with_reducible refine gate_callee (f := 41) rfl ?_); refine goesLA_ (some 8) rfl rfl Tryd.func41 rfl #[.int .i64 a0, .int .i64 9223372036854775807] rfl ?_; (with_reducible refine (safe_Add.calls a0 9223372036854775807 t246 _ A4.out).mono ?_); rintro e w7 ⟨rfl, hb⟩; refine ⟨_, rfl, ?_⟩; replace HB := stA hb; clear hb) | ((with_reducible refine gate_callee (f := 64) rfl ?_); refine goesLA_ (some 10) rfl rfl Tryd.func64 rfl #[.int .i64 a0] rfl ?_; (with_reducible refine (safe_unit.calls a0 t247 _ A5.out).mono ?_); rintro e w' ⟨rfl, ⟨nd, rfl⟩⟩; refine ⟨_, rfl, ?_⟩) | ((with_reducible refine gate_callee (f := 41) rfl ?_); refine goesLA_ (some 12) rfl rfl Tryd.func41 rfl #[.int .i64 t246, .int .i64 (wrap64 t247)] rfl ?_; (with_reducible refine (safe_Add.calls t246 (wrap64 t247) t248 _ A6.out).mono ?_); rintro e w8 ⟨rfl, hb⟩; refine ⟨_, rfl, ?_⟩; replace HB := stA hb; clear hb))
  go_ret
  exact ⟨by first | rfl | (simp [errW_none, errW_some] <;> rfl) | (simp [*, errW_none, errW_some] <;> rfl), by repeat (first | (with_reducible first | exact HB.out | apply below_alloc | apply pw_below_drewN | apply below_drew1) | exact HB.out)⟩
 ·rw [if_neg c3] at H
  have c3b0 : (a1 == (-9223372036854775808)) = false := beq_eq_false_iff_ne.mpr c3; have c3b1 : (a1 != (-9223372036854775808)) = true := bne_iff_ne.mpr c3; replace H := Option.bind_eq_some_iff.mp H; obtain ⟨t249, A90, H⟩ := H; replace H : (some t249) = some r := H; have A9 := Aside0.mk A90; clear A90; obtain rfl := Option.some.inj H
  go_enter Tryd.func39, Tryd.ntmps39
  go_wp2_with (first | ((with_reducible refine gate_callee (f := 41) rfl ?_); refine goesLA_ (some 16) rfl rfl Tryd.func41 rfl #[.int .i64 a0, .int .i64 (wrap64 (-a1))] rfl ?_; (with_reducible refine (safe_Add.calls a0 (wrap64 (-a1)) t249 _ A9.out).mono ?_); rintro e w10 ⟨rfl, hb⟩; refine ⟨_, rfl, ?_⟩; replace HB := stA hb; clear hb))
  go_ret
  exact ⟨by first | rfl | (simp [errW_none, errW_some] <;> rfl) | (simp [*, errW_none, errW_some] <;> rfl), by repeat (first | (with_reducible first | exact HB.out | apply below_alloc | apply pw_below_drewN | apply below_drew1) | exact HB.out)⟩

/-! ### safe_SubS: pure, behind function 39 -/
section
open Go.Proofs.YtgakpcfmgcpeaaaDoor.Sp
noncomputable def safe_SubS.f (a : Int) (b : Int) : Option (Int) := need (I a ∧ I b) (some (near (a - b)))
theorem safe_SubS.eq {a : Int} {b : Int} (h1 : I a) (h2 : I b) : safe_SubS.f a b = some (near (a - b)) := need_pos ⟨h1, h2⟩
theorem safe_Sub.main {a : Int} {b : Int} (h1 : I a) (h2 : I b) : safe_Sub.f a b = some (near (a - b)) := by
 unfold safe_Sub.f safe_unit.f
 by_cases hb : b = -9223372036854775808
 ·rw [if_pos hb, safe_Add.eq h1 (by omega)]
  simp only [Option.bind_some]
  by_cases ha : a < 0
  ·rw [if_pos ha]
   simp only [Option.bind_some]
   rw [w64 (x := 1) (by omega), safe_Add.eq (near_I _) (by omega)]
   simp only [Option.bind_some]
   rw [near_in (v := a + 9223372036854775807) (by omega)]
   congr 2; omega
  ·rw [if_neg ha]
   simp only [Option.bind_some]
   rw [w64 (x := 0) (by omega), safe_Add.eq (near_I _) (by omega)]
   simp only [Option.bind_some]; have e1 : near (a - b) = 9223372036854775807 := near_hi (by omega)
   have e2 : near (a + 9223372036854775807) = 9223372036854775807 := by unfold near; split <;> (try split) <;> omega
   rw [e1, e2, near_in (by omega)]
   rfl
 ·rw [if_neg hb, w64 (x := -b) (by omega), safe_Add.eq h1 (by omega)]
  simp only [Option.bind_some]
  congr 2
end
theorem safe_SubS.calls (a0 : Int) (a1 : Int) (r : Int) (w : World) (h : safe_SubS.f a0 a1 = some r) :
  Calls Tryd.prog 39 #[.int .i64 a0, .int .i64 a1] w fun e w' => e = .returned (.int .i64 r) ∧ Below w.heap.size w w' := by
 obtain ⟨hc, h⟩ := Sp.need_some h; obtain ⟨h1, h2⟩ := hc; exact safe_Sub.calls a0 a1 r w (by rw [safe_Sub.main h1 h2]; exact h)

/-! ### safe_Abs: function 32 -/
noncomputable def safe_Abs.f (a0 : Int) : Option (Int) := (safe_SubS.f 0 a0).bind fun t250 => (some (mx a0 t250))
set_option maxHeartbeats 8000000 in
set_option maxRecDepth 100000 in
theorem safe_Abs.calls (a0 : Int) (r : Int) (w : World) (h : safe_Abs.f a0 = some r) :
  Calls Tryd.prog 32 #[.int .i64 a0] w fun e w' => e = .returned (.int .i64 r) ∧ Below w.heap.size w w' := by
 have HB := Aside0.mk (Below.refl w.heap.size w); have H : ((safe_SubS.f 0 a0).bind fun t250 => (some (mx a0 t250))) = some r := h; clear h; replace H := Option.bind_eq_some_iff.mp H; obtain ⟨t250, A20, H⟩ := H; replace H : (some (mx a0 t250)) = some r := H; have A2 := Aside0.mk A20; clear A20
 obtain ⟨ji3, hji3⟩ : ∃ j_ : Int, (mx a0 t250) = j_ := ⟨_, rfl⟩
 replace H : (some ji3) = some r := by first | (rw [hji3] at H; exact H) | (simp only [hji3] at H ⊢; exact H)
 (try rw [hji3] at A2)
 have hji3_ : (if a0 < t250 then t250 else a0) = ji3 := hji3; obtain rfl := Option.some.inj H
 go_enter Tryd.func32, Tryd.ntmps32
 go_wp2_with (first | ((with_reducible refine gate_callee (f := 39) rfl ?_); refine goesLA_ (some 5) rfl rfl Tryd.func39 rfl #[.int .i64 0, .int .i64 a0] rfl ?_; (with_reducible refine (safe_SubS.calls 0 a0 t250 _ A2.out).mono ?_); rintro e w4 ⟨rfl, hb⟩; refine ⟨_, rfl, ?_⟩; replace HB := stA hb; clear hb))
 go_ret
 exact ⟨by first | rfl | (simp [errW_none, errW_some] <;> rfl) | (simp only [← hji3]; first | rfl | (simp [errW_none, errW_some] <;> rfl)) | (simp [*, errW_none, errW_some] <;> rfl), by repeat (first | (with_reducible first | exact HB.out | apply below_alloc | apply pw_below_drewN | apply below_drew1) | exact HB.out)⟩

/-! ### safe_AbsS: pure, behind function 32 -/
section
open Go.Proofs.YtgakpcfmgcpeaaaDoor.Sp
noncomputable def safe_AbsS.f (a : Int) : Option (Int) := need ((I a)) (some (near (a.natAbs : Int)))
theorem safe_AbsS.eq {a : Int} (h1 : I a) : safe_AbsS.f a = some (near (a.natAbs : Int)) := need_pos h1
theorem safe_Abs.main {a : Int} (h1 : I a) : safe_Abs.f a = some (near (a.natAbs : Int)) := by
 unfold safe_Abs.f
 rw [safe_SubS.eq (by omega) h1]
 simp only [Option.bind_some]
 congr 1
 unfold mx near
 (repeat' split) <;> omega
end
theorem safe_AbsS.calls (a0 : Int) (r : Int) (w : World) (h : safe_AbsS.f a0 = some r) :
  Calls Tryd.prog 32 #[.int .i64 a0] w fun e w' => e = .returned (.int .i64 r) ∧ Below w.heap.size w w' := by
 obtain ⟨hc, h⟩ := Sp.need_some h; have h1 := hc; exact safe_Abs.calls a0 r w (by rw [safe_Abs.main h1]; exact h)

end Go.Proofs.YtgakpcfmgcpeaaaDoor.Px
