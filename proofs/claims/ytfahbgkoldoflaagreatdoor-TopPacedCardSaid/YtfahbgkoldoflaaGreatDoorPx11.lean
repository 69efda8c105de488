/- Printed by px.py, over the kit's print. Conditions: none beside the theorems' own. -/
import Derived.Test.YtfahbgkoldoflaaGreatDoorPx0
import Derived.Test.YtfahbgkoldoflaaGreatDoorPx6
import Derived.Test.YtfahbgkoldoflaaGreatDoorPx9
import Derived.Test.YtfahbgkoldoflaaGreatDoorPx10
import Derived.Test.YtfahbgkoldoflaaGreatDoorSpec
namespace Go.Proofs.YtfahbgkoldoflaaGreatDoor.Px
open Go.RowKit Go.Proofs.YtfahbgkoldoflaaGreatDoorW.PrintWords Go.Proofs.YtfahbgkoldoflaaGreatDoorW.PrintLast Go.Proofs.YtfahbgkoldoflaaGreatDoorW.PrintMore
attribute [local go_sem] max2_int min2_int max_two min_two max_three min_three max_four min_four
set_option linter.unusedVariables false
set_option linter.unusedSimpArgs false

/-! ### epoch_K: function 19 -/
/-- The table of the parts of 10^19 lies as the program's text lays it. -/
def Tens (w : World) : Prop := ∃ t, w.heap[0]? = some (.cells #[.int .u64 1000000000, .int .u64 10000000000] t (0, 0))
theorem tensB {w w' : World} (h : Tens w) (hb : Below w.heap.size w w') : Tens w' := by
 obtain ⟨t, h⟩ := h; exact ⟨t, by rw [hb.block _ (Array.getElem?_eq_some_iff.1 h).1]; exact h⟩
noncomputable def epoch_K.f (a : Int) : Option Int := Sp.need (Sp.I a) (some (Sp.kQ a))
theorem epoch_K.eq {a : Int} (h1 : Sp.I a) : epoch_K.f a = some (Sp.kQ a) := Sp.need_pos h1
theorem epoch_K.put {w : World} {g : Nat} {x y z : Value} {t : TypeId} (h : w.heap[g]? = some (.cells #[x, y, z] t (0, 0))) (a b c : Value) : (((w.setCell ⟨g, 0, none⟩ a).setCell ⟨g, 1, none⟩ b).setCell ⟨g, 2, none⟩ c).heap[g]? = some (.cells #[a, b, c] t (0, 0)) :=
 blk_put (blk_put (blk_put h 0 a rfl) 1 b rfl) 2 c rfl
set_option maxHeartbeats 2000000 in
set_option maxRecDepth 100000 in
theorem epoch_K.walk (a0 c n0 n1 n2 n3 n4 n5 : Int) (s0 s1 s2 s3 : Bool) (q0 q1 rm rt r : Int) (HS1 : Aside0 (safe_ClampS.f a0 0 68719476736 = some c)) (HS2 : Aside0 (big_OfS.f c = some (s0, n0, n1))) (HS3 : Aside0 (big_ScaleS.f s0 n0 n1 1000000000 = some (s1, n2, n3, 0)))
  (HS4 : Aside0 (big_ScaleS.f s1 n2 n3 10000000000 = some (s2, n4, n5, 0))) (HS5 : Aside0 (big_DivS.f s2 n4 n5 262144 = some (s3, q0, q1, rm, 0))) (HS6 : Aside0 (root_Third.f s3 q0 q1 = some rt)) (hr : wrap64 rt = r) (w : World) (hL : Tens w) :
  Calls Tryz.prog 19 #[.int .i64 a0] w fun e w' => e = .returned (.int .i64 r) ∧ Below w.heap.size w w' := by
 have HB := Aside0.mk (Below.refl w.heap.size w); obtain ⟨tt, hT⟩ := hL; have BT := Aside0.mk hT
 have hi0 : ∀ w : World, (Instr.index 101 (.agg #[.int .u64 1000000000, .int .u64 10000000000]) (.int .i64 0)).run Tryz.prog w = .ok (.int .u64 1000000000) w := fun _ => by kernel_rfl
 have hi1 : ∀ w : World, (Instr.index 101 (.agg #[.int .u64 1000000000, .int .u64 10000000000]) (.int .i64 1)).run Tryz.prog w = .ok (.int .u64 10000000000) w := fun _ => by kernel_rfl
 clear hT
 go_enter Tryz.func19, Tryz.ntmps19
 go_wp2_with (first
  | (go_at_call 22; refine (safe_ClampS.calls a0 0 68719476736 c _ HS1.out).mono ?_; rintro e1 w1 ⟨rfl, hb⟩; replace BT := bbZ BT hb; replace HB := stA hb; clear hb)
  | (go_at_call 48; refine (big_OfS.calls c s0 n0 n1 _ HS2.out).mono ?_; rintro e1 w2 ⟨rfl, hb⟩; replace BT := bbZ BT hb; replace HB := stA hb; clear hb)
  | ((with_reducible refine gate_dst (N := 3) rfl ?_); refine box_event ?hg (N := 3) ?hd (cs := #[.bool false, .int .u64 0, .int .u64 0]) (t := 99) ?hr ?_; (case hd => rfl); (case hg => rfl); (case hr => first | (go_simp; done) | (go_simp; rfl)); intro gb hg w3 hbox hb; have BK1 := Aside0.mk hbox; obtain ⟨GW1, nHB⟩ := geA hg hb; have GE1 := GW1; obtain ⟨NB1, NB2, nBK⟩ := nbA BT hg hb; replace BT := nBK; clear nBK; replace HB := nHB; clear nHB; clear hb hbox hg; have z0 := czZ BK1 0 (.bool false); have z1 := czZ BK1 1 (.int .u64 0); have z2 := czZ BK1 2 (.int .u64 0); have f0 := blk_frozen BK1.out 0; have f1 := blk_frozen BK1.out 1; have f2 := blk_frozen BK1.out 2; have y0 := czZ BT 0 (.int .u64 1000000000); have y1 := czZ BT 1 (.int .u64 10000000000); have n1_ := NB1.out; have n2_ := NB2.out)
  | fail)
 refine wp_loop_rounds 3 ?_
 rw [rounds_succ]
 go_wp2_with (first | (go_at_call 49; refine (big_ScaleS.calls s0 n0 n1 1000000000 s1 n2 n3 0 _ HS3.out).mono ?_; rintro e1 w4 ⟨rfl, hb⟩; replace BK1 := Aside0.mk (blk_below (epoch_K.put BK1.out (.bool s0) (.int .u64 n0) (.int .u64 n1)) hb); replace HB := Aside0.mk (below_step (by repeat (first | (with_reducible first | apply below_alloc | exact HB.out | apply pw_below_drewN | apply below_drew1 | refine below_set ?_ GE1.out) | exact HB.out)) hb); clear hb z0 z1 z2 f0 f1 f2; have z0 := czZ BK1 0 (.bool s0); have z1 := czZ BK1 1 (.int .u64 n0); have z2 := czZ BK1 2 (.int .u64 n1); have f0 := blk_frozen BK1.out 0; have f1 := blk_frozen BK1.out 1; have f2 := blk_frozen BK1.out 2) | fail)
 rw [rounds_succ]
 go_wp2_with (first | (go_at_call 49; refine (big_ScaleS.calls s1 n2 n3 10000000000 s2 n4 n5 0 _ HS4.out).mono ?_; rintro e1 w5 ⟨rfl, hb⟩; replace BK1 := Aside0.mk (blk_below (epoch_K.put BK1.out (.bool s1) (.int .u64 n2) (.int .u64 n3)) hb); replace HB := Aside0.mk (below_step (by repeat (first | (with_reducible first | apply below_alloc | exact HB.out | apply pw_below_drewN | apply below_drew1 | refine below_set ?_ GE1.out) | exact HB.out)) hb); clear hb z0 z1 z2 f0 f1 f2; have z0 := czZ BK1 0 (.bool s1); have z1 := czZ BK1 1 (.int .u64 n2); have z2 := czZ BK1 2 (.int .u64 n3); have f0 := blk_frozen BK1.out 0; have f1 := blk_frozen BK1.out 1; have f2 := blk_frozen BK1.out 2) | fail)
 rw [rounds_succ]
 go_wp2_with (first | (go_at_call 50; refine (big_DivS.calls s2 n4 n5 262144 s3 q0 q1 rm 0 _ HS5.out).mono ?_; rintro e1 w6 ⟨rfl, hb⟩; replace BK1 := Aside0.mk (blk_below (epoch_K.put BK1.out (.bool s2) (.int .u64 n4) (.int .u64 n5)) hb); replace HB := Aside0.mk (below_step (by repeat (first | (with_reducible first | apply below_alloc | exact HB.out | apply pw_below_drewN | apply below_drew1 | refine below_set ?_ GE1.out) | exact HB.out)) hb); clear hb z0 z1 z2 f0 f1 f2; have z0 := czZ BK1 0 (.bool s2); have z1 := czZ BK1 1 (.int .u64 n4); have z2 := czZ BK1 2 (.int .u64 n5); have f0 := blk_frozen BK1.out 0; have f1 := blk_frozen BK1.out 1; have f2 := blk_frozen BK1.out 2) | (go_at_call 51; refine (root_Third.calls s3 q0 q1 rt _ HS6.out).mono ?_; rintro e1 w7 ⟨rfl, hb⟩; replace HB := Aside0.mk (below_step (by repeat (first | (with_reducible first | apply below_alloc | exact HB.out | apply pw_below_drewN | apply below_drew1 | refine below_set ?_ GE1.out) | exact HB.out)) hb); clear hb) | fail)
 go_ret
 exact ⟨by first | rfl | (simp; done) | (simp [*]; done), (by repeat (first | (with_reducible first | apply below_alloc | exact HB.out | apply pw_below_drewN | apply below_drew1 | refine below_set ?_ GE1.out) | exact HB.out))⟩
theorem epoch_K.calls (a0 r : Int) (w : World) (h : epoch_K.f a0 = some r) (hL : Tens w) :
  Calls Tryz.prog 19 #[.int .i64 a0] w fun e w' => e = .returned (.int .i64 r) ∧ Below w.heap.size w w' := by
 obtain ⟨h1, h⟩ := Sp.need_some h; obtain rfl := Option.some.inj h; have c := Sp.clamp_bd (a := a0) (low := 0) (high := 68719476736) (by omega); have kb := Sp.kQ_bd a0; have e0 : Sp.kQ a0 = Sp.root3 (Sp.clamp a0 0 68719476736 * 10000000000000000000 / 262144) := rfl; have s0 := safe_ClampS.eq (a := a0) (b := 0) (c := 68719476736) h1 (by omega) (by omega)
 generalize Sp.clamp a0 0 68719476736 = g at *
 have e1 : g * 1000000000 * 10000000000 = g * 10000000000000000000 := by omega
 have s1 := (big_ScaleS.enc (v := g) (k := 1000000000) (by omega) (by omega)).trans (Sp.held_in (by omega)); have s2 := (big_ScaleS.enc (v := g * 1000000000) (k := 10000000000) (by omega) (by omega)).trans (Sp.held_in (by omega)); have s3 := (big_DivS.enc (v := g * 1000000000 * 10000000000) (d := 262144) (by omega) (by omega)).trans (Sp.quo_pos (by omega))
 have bq : Sp.B (g * 1000000000 * 10000000000 / 262144) := by omega
 have s4 := root_Third.eq (n := Sp.encN (g * 1000000000 * 10000000000 / 262144)) (Sp.encH_U bq) (Sp.encL_U (v := g * 1000000000 * 10000000000 / 262144)); have ve := @Sp.val_enc (g * 1000000000 * 10000000000 / 262144)
 rw [Sp.encN_pos (by omega), Sp.val_f] at ve
 refine epoch_K.walk a0 g _ _ _ _ _ _ _ _ _ _ _ _ _ _ _ ⟨s0⟩ ⟨big_OfS.eq (by omega)⟩ ⟨s1⟩ ⟨s2⟩ ⟨s3⟩ ⟨s4⟩ ?_ w hL
 rw [ve, e1, ← e0, Sp.w64 (by omega)]

/-! ### epoch_Begin: function 7 -/
noncomputable def epoch_Begin.f (a0 : Int) (a1 : Int) (a2 : Int) : Option (Bool × Int × Int × Int × Int × Int × Int) := (epoch_time.f a0).bind fun t230 => (if t230 = true then ((epoch_windowS.f a1).bind fun t231 => (if t231 = true then ((epoch_windowS.f a2).bind fun t232 => (if t232 = true then ((epoch_K.f (wrap64 ((mx a2 a1) - a1))).bind fun t233 => (some (true, a0, a1, mx a2 a1, t233, a1, 0))) else (some (false, 0, 0, 0, 0, 0, 201)))) else (some (false, 0, 0, 0, 0, 0, 201)))) else (some (false, 0, 0, 0, 0, 0, 201)))
set_option maxHeartbeats 8000000 in
set_option maxRecDepth 100000 in
theorem epoch_Begin.calls (a0 : Int) (a1 : Int) (a2 : Int) (r1 : Bool) (r2 : Int) (r3 : Int) (r4 : Int) (r5 : Int) (r6 : Int) (r7 : Int) (w : World) (h : epoch_Begin.f a0 a1 a2 = some (r1, r2, r3, r4, r5, r6, r7)) (hL : Tens w) :
  Calls Tryz.prog 7 #[.int .i64 a0, .int .i64 a1, .int .i64 a2] w fun e w' => e = .returned (.tuple #[.agg #[.bool r1, .int .i64 r2, .int .i64 r3, .int .i64 r4, .int .i64 r5, .int .i64 r6], .int .i64 r7]) ∧ Below w.heap.size w w' := by
 have hu25 := Tryz.underlying25; have HB := Aside0.mk (Below.refl w.heap.size w); have H : ((epoch_time.f a0).bind fun t230 => (if t230 = true then ((epoch_windowS.f a1).bind fun t231 => (if t231 = true then ((epoch_windowS.f a2).bind fun t232 => (if t232 = true then ((epoch_K.f (wrap64 ((mx a2 a1) - a1))).bind fun t233 => (some (true, a0, a1, mx a2 a1, t233, a1, 0))) else (some (false, 0, 0, 0, 0, 0, 201)))) else (some (false, 0, 0, 0, 0, 0, 201)))) else (some (false, 0, 0, 0, 0, 0, 201)))) = some (r1, r2, r3, r4, r5, r6, r7) := h; clear h; replace H := Option.bind_eq_some_iff.mp H; obtain ⟨t230, A40, H⟩ := H; (try dsimp only at H); have A4 := Aside0.mk A40; clear A40
 by_cases c5 : t230 = true
 ·subst c5
  have H1 : ((epoch_windowS.f a1).bind fun t231 => (if t231 = true then ((epoch_windowS.f a2).bind fun t232 => (if t232 = true then ((epoch_K.f (wrap64 ((mx a2 a1) - a1))).bind fun t233 => (some (true, a0, a1, mx a2 a1, t233, a1, 0))) else (some (false, 0, 0, 0, 0, 0, 201)))) else (some (false, 0, 0, 0, 0, 0, 201)))) = some (r1, r2, r3, r4, r5, r6, r7) := by rw [if_pos rfl] at H; exact H
  clear H; have H := H1; clear H1; replace H := Option.bind_eq_some_iff.mp H; obtain ⟨t231, A60, H⟩ := H; (try dsimp only at H); have A6 := Aside0.mk A60; clear A60
  by_cases c7 : t231 = true
  ·subst c7
   have H1 : ((epoch_windowS.f a2).bind fun t232 => (if t232 = true then ((epoch_K.f (wrap64 ((mx a2 a1) - a1))).bind fun t233 => (some (true, a0, a1, mx a2 a1, t233, a1, 0))) else (some (false, 0, 0, 0, 0, 0, 201)))) = some (r1, r2, r3, r4, r5, r6, r7) := by rw [if_pos rfl] at H; exact H
   clear H; have H := H1; clear H1; replace H := Option.bind_eq_some_iff.mp H; obtain ⟨t232, A80, H⟩ := H; (try dsimp only at H); have A8 := Aside0.mk A80; clear A80
   by_cases c9 : t232 = true
   ·subst c9
    have H1 : ((epoch_K.f (wrap64 ((mx a2 a1) - a1))).bind fun t233 => (some (true, a0, a1, mx a2 a1, t233, a1, 0))) = some (r1, r2, r3, r4, r5, r6, r7) := by rw [if_pos rfl] at H; exact H
    clear H; have H := H1; clear H1
    obtain ⟨ji10, hji10⟩ : ∃ j_ : Int, (mx a2 a1) = j_ := ⟨_, rfl⟩
    replace H : ((epoch_K.f (wrap64 ((ji10) - a1))).bind fun t233 => (some (true, a0, a1, ji10, t233, a1, 0))) = some (r1, r2, r3, r4, r5, r6, r7) := by first | (rw [hji10] at H; exact H) | (simp only [hji10] at H ⊢; exact H)
    (try rw [hji10] at A4)
    (try rw [hji10] at A6)
    (try rw [hji10] at A8)
    have hji10_ : (if a2 < a1 then a1 else a2) = ji10 := hji10; replace H := Option.bind_eq_some_iff.mp H; obtain ⟨t233, A110, H⟩ := H; replace H : (some (true, a0, a1, ji10, t233, a1, 0)) = some (r1, r2, r3, r4, r5, r6, r7) := H; have A11 := Aside0.mk A110; clear A110; simp only [Option.some.injEq, Prod.mk.injEq] at H; obtain ⟨rfl, rfl, rfl, rfl, rfl, rfl, rfl⟩ := H
    go_enter Tryz.func7, Tryz.ntmps7
    go_wp2_with (first | ((with_reducible refine gate_dst (N := 6) rfl ?_); refine box_event ?hg (N := 6) ?hd (cs := #[.bool false, .int .i64 0, .int .i64 0, .int .i64 0, .int .i64 0, .int .i64 0]) (t := 25) ?hr ?_; (case hd => rfl); (case hg => rfl); (case hr => first | (go_simp; done) | (go_simp; rfl)); intro gb229 hg w12 hbox hb; have BK229 := Aside0.mk (hbox); obtain ⟨GW229, nHB⟩ := geA hg hb; have GE229 := GW229; replace HB := nHB; clear nHB; clear hb hbox hg) | ((with_reducible refine gate_callee (f := 17) rfl ?_); refine goesLA_ (some 9) rfl rfl Tryz.func17 rfl #[.int .i64 a0] rfl ?_; (with_reducible refine (epoch_time.calls a0 true _ A4.out).mono ?_); rintro e w' ⟨rfl, ⟨nd, rfl⟩⟩; refine ⟨_, rfl, ?_⟩; (try (rw [drewN_self w12]; generalize hq_ : World.drewN w12 _ = w12; have n0_ : Aside0 (w12.heap[gb229]? = some (.cells #[.bool false, .int .i64 0, .int .i64 0, .int .i64 0, .int .i64 0, .int .i64 0] 25 (0, 0))) := ⟨by rw [← hq_]; exact (by (with_reducible repeat first | apply blk_drewN | apply blk_drew | apply blk_alloc); exact BK229.out)⟩; have n1_ : Aside0 (Below w.heap.size w w12) := ⟨by rw [← hq_]; exact (by repeat (first | (with_reducible first | exact HB.out | apply below_alloc | apply pw_below_drewN | apply below_drew1 | refine below_set ?_ GE229.out) | exact HB.out))⟩; clear BK229 HB hq_; have BK229 := n0_; have HB := n1_; clear n0_ n1_))) | (go_at_call 18; (with_reducible refine (epoch_windowS.calls a1 true _ A6.out).mono ?_); rintro e w13 ⟨rfl, hb⟩; replace BK229 := bdZ BK229 hb; replace HB := stA hb; clear hb) | (go_at_call 18; (with_reducible refine (epoch_windowS.calls a2 true _ A8.out).mono ?_); rintro e w14 ⟨rfl, hb⟩; replace BK229 := bdZ BK229 hb; replace HB := stA hb; clear hb) | ((with_reducible refine gate_callee (f := 19) rfl ?_); refine goesL_ (some 31) rfl rfl Tryz.func19 (by kernel_rfl) rfl #[.int .i64 (wrap64 ((ji10) - a1))] rfl (by (try simp only [List.map_toArray, List.map_cons, List.map_nil]); first | done | (simp only [hji10]; rfl) | rfl | (simp only [List.length_drop, List.length_take]; rfl)) ?_; (with_reducible refine (epoch_K.calls (wrap64 ((ji10) - a1)) t233 _ A11.out ?hT_).mono ?_); (case hT_ => exact tensB hL (by repeat (first | (with_reducible first | exact HB.out | apply below_alloc | apply pw_below_drewN | apply below_drew1 | refine below_set ?_ (Aside0.out (by assumption))) | exact HB.out))); rintro e w15 ⟨rfl, hb⟩; refine ⟨_, rfl, ?_⟩; replace BK229 := bdZ BK229 hb; replace HB := stA hb; clear hb; have hcz16_0 := czZ BK229 0 (.bool false); have hcz16_1 := czZ BK229 1 (.int .i64 0); have hcz16_2 := czZ BK229 2 (.int .i64 0); have hcz16_3 := czZ BK229 3 (.int .i64 0); have hcz16_4 := czZ BK229 4 (.int .i64 0); have hcz16_5 := czZ BK229 5 (.int .i64 0); have hfz16_0 := blk_frozen BK229.out 0; have hfz16_1 := blk_frozen BK229.out 1; have hfz16_2 := blk_frozen BK229.out 2; have hfz16_3 := blk_frozen BK229.out 3; have hfz16_4 := blk_frozen BK229.out 4; have hfz16_5 := blk_frozen BK229.out 5))
    refine bodyPost_ret (results_ct rfl _ _ gb229 25 #[.bool true, .int .i64 a0, .int .i64 a1, .int .i64 ji10, .int .i64 t233, .int .i64 a1] (0, 0) _ rfl (by (with_reducible repeat first | apply blk_drewN | apply blk_drew | apply blk_alloc); refine blk_put (cs := #[.bool true, .int .i64 a0, .int .i64 a1, .int .i64 ji10, .int .i64 t233, .int .i64 0]) ?_ 5 _ rfl; (with_reducible repeat first | apply blk_drewN | apply blk_drew | apply blk_alloc); refine blk_put (cs := #[.bool true, .int .i64 a0, .int .i64 a1, .int .i64 ji10, .int .i64 0, .int .i64 0]) ?_ 4 _ rfl; (with_reducible repeat first | apply blk_drewN | apply blk_drew | apply blk_alloc); refine blk_put (cs := #[.bool true, .int .i64 a0, .int .i64 a1, .int .i64 0, .int .i64 0, .int .i64 0]) ?_ 3 _ rfl; (with_reducible repeat first | apply blk_drewN | apply blk_drew | apply blk_alloc); refine blk_put (cs := #[.bool true, .int .i64 a0, .int .i64 0, .int .i64 0, .int .i64 0, .int .i64 0]) ?_ 2 _ rfl; (with_reducible repeat first | apply blk_drewN | apply blk_drew | apply blk_alloc); refine blk_put (cs := #[.bool true, .int .i64 0, .int .i64 0, .int .i64 0, .int .i64 0, .int .i64 0]) ?_ 1 _ rfl; (with_reducible repeat first | apply blk_drewN | apply blk_drew | apply blk_alloc); refine blk_put (cs := #[.bool false, .int .i64 0, .int .i64 0, .int .i64 0, .int .i64 0, .int .i64 0]) ?_ 0 _ rfl; (with_reducible repeat first | apply blk_drewN | apply blk_drew | apply blk_alloc); exact BK229.out) Tryz.underlying25 rfl (by kernel_rfl)) rfl ?_; exact ⟨by first | rfl | (simp [errW_none, errW_some] <;> rfl) | (simp only [← hji10]; first | rfl | (simp [errW_none, errW_some] <;> rfl)) | (simp [*, errW_none, errW_some] <;> rfl), by repeat (first | (with_reducible first | exact HB.out | apply below_alloc | apply pw_below_drewN | apply below_drew1 | refine below_set ?_ GE229.out) | exact HB.out)⟩
   ·replace c9 := Bool.eq_false_iff.mpr c9
    subst c9
    have H1 : (some (false, 0, 0, 0, 0, 0, 201)) = some (r1, r2, r3, r4, r5, r6, r7) := by rw [if_neg (show ¬ (false = true) by decide)] at H; exact H
    clear H; have H := H1; clear H1; simp only [Option.some.injEq, Prod.mk.injEq] at H; obtain ⟨rfl, rfl, rfl, rfl, rfl, rfl, rfl⟩ := H
    go_enter Tryz.func7, Tryz.ntmps7
    go_wp2_with (first | ((with_reducible refine gate_dst (N := 6) rfl ?_); refine box_event ?hg (N := 6) ?hd (cs := #[.bool false, .int .i64 0, .int .i64 0, .int .i64 0, .int .i64 0, .int .i64 0]) (t := 25) ?hr ?_; (case hd => rfl); (case hg => rfl); (case hr => first | (go_simp; done) | (go_simp; rfl)); intro gb229 hg w17 hbox hb; have BK229 := Aside0.mk (hbox); obtain ⟨GW229, nHB⟩ := geA hg hb; have GE229 := GW229; replace HB := nHB; clear nHB; clear hb hbox hg) | ((with_reducible refine gate_callee (f := 17) rfl ?_); refine goesLA_ (some 9) rfl rfl Tryz.func17 rfl #[.int .i64 a0] rfl ?_; (with_reducible refine (epoch_time.calls a0 true _ A4.out).mono ?_); rintro e w' ⟨rfl, ⟨nd, rfl⟩⟩; refine ⟨_, rfl, ?_⟩; (try (rw [drewN_self w17]; generalize hq_ : World.drewN w17 _ = w17; have n0_ : Aside0 (w17.heap[gb229]? = some (.cells #[.bool false, .int .i64 0, .int .i64 0, .int .i64 0, .int .i64 0, .int .i64 0] 25 (0, 0))) := ⟨by rw [← hq_]; exact (by (with_reducible repeat first | apply blk_drewN | apply blk_drew | apply blk_alloc); exact BK229.out)⟩; have n1_ : Aside0 (Below w.heap.size w w17) := ⟨by rw [← hq_]; exact (by repeat (first | (with_reducible first | exact HB.out | apply below_alloc | apply pw_below_drewN | apply below_drew1 | refine below_set ?_ GE229.out) | exact HB.out))⟩; clear BK229 HB hq_; have BK229 := n0_; have HB := n1_; clear n0_ n1_))) | (go_at_call 18; (with_reducible refine (epoch_windowS.calls a1 true _ A6.out).mono ?_); rintro e w18 ⟨rfl, hb⟩; replace BK229 := bdZ BK229 hb; replace HB := stA hb; clear hb) | (go_at_call 18; (with_reducible refine (epoch_windowS.calls a2 false _ A8.out).mono ?_); rintro e w19 ⟨rfl, hb⟩; replace BK229 := bdZ BK229 hb; replace HB := stA hb; clear hb; have hcz20_0 := czZ BK229 0 (.bool false); have hcz20_1 := czZ BK229 1 (.int .i64 0); have hcz20_2 := czZ BK229 2 (.int .i64 0); have hcz20_3 := czZ BK229 3 (.int .i64 0); have hcz20_4 := czZ BK229 4 (.int .i64 0); have hcz20_5 := czZ BK229 5 (.int .i64 0); have hfz20_0 := blk_frozen BK229.out 0; have hfz20_1 := blk_frozen BK229.out 1; have hfz20_2 := blk_frozen BK229.out 2; have hfz20_3 := blk_frozen BK229.out 3; have hfz20_4 := blk_frozen BK229.out 4; have hfz20_5 := blk_frozen BK229.out 5))
    refine bodyPost_ret (results_ct rfl _ _ gb229 25 #[.bool false, .int .i64 0, .int .i64 0, .int .i64 0, .int .i64 0, .int .i64 0] (0, 0) _ rfl (by (with_reducible repeat first | apply blk_drewN | apply blk_drew | apply blk_alloc); refine blk_put (cs := #[.bool false, .int .i64 0, .int .i64 0, .int .i64 0, .int .i64 0, .int .i64 0]) ?_ 5 _ rfl; (with_reducible repeat first | apply blk_drewN | apply blk_drew | apply blk_alloc); refine blk_put (cs := #[.bool false, .int .i64 0, .int .i64 0, .int .i64 0, .int .i64 0, .int .i64 0]) ?_ 4 _ rfl; (with_reducible repeat first | apply blk_drewN | apply blk_drew | apply blk_alloc); refine blk_put (cs := #[.bool false, .int .i64 0, .int .i64 0, .int .i64 0, .int .i64 0, .int .i64 0]) ?_ 3 _ rfl; (with_reducible repeat first | apply blk_drewN | apply blk_drew | apply blk_alloc); refine blk_put (cs := #[.bool false, .int .i64 0, .int .i64 0, .int .i64 0, .int .i64 0, .int .i64 0]) ?_ 2 _ rfl; (with_reducible repeat first | apply blk_drewN | apply blk_drew | apply blk_alloc); refine blk_put (cs := #[.bool false, .int .i64 0, .int .i64 0, .int .i64 0, .int .i64 0, .int .i64 0]) ?_ 1 _ rfl; (with_reducible repeat first | apply blk_drewN | apply blk_drew | apply blk_alloc); refine blk_put (cs := #[.bool false, .int .i64 0, .int .i64 0, .int .i64 0, .int .i64 0, .int .i64 0]) ?_ 0 _ rfl; (with_reducible repeat first | apply blk_drewN | apply blk_drew | apply blk_alloc); exact BK229.out) Tryz.underlying25 rfl (by kernel_rfl)) rfl ?_; exact ⟨by first | rfl | (simp [errW_none, errW_some] <;> rfl) | (simp [*, errW_none, errW_some] <;> rfl), by repeat (first | (with_reducible first | exact HB.out | apply below_alloc | apply pw_below_drewN | apply below_drew1 | refine below_set ?_ GE229.out) | exact HB.out)⟩
  ·replace c7 := Bool.eq_false_iff.mpr c7
   subst c7
   have H1 : (some (false, 0, 0, 0, 0, 0, 201)) = some (r1, r2, r3, r4, r5, r6, r7) := by rw [if_neg (show ¬ (false = true) by decide)] at H; exact H
   clear H; have H := H1; clear H1; simp only [Option.some.injEq, Prod.mk.injEq] at H; obtain ⟨rfl, rfl, rfl, rfl, rfl, rfl, rfl⟩ := H
   go_enter Tryz.func7, Tryz.ntmps7
   go_wp2_with (first | ((with_reducible refine gate_dst (N := 6) rfl ?_); refine box_event ?hg (N := 6) ?hd (cs := #[.bool false, .int .i64 0, .int .i64 0, .int .i64 0, .int .i64 0, .int .i64 0]) (t := 25) ?hr ?_; (case hd => rfl); (case hg => rfl); (case hr => first | (go_simp; done) | (go_simp; rfl)); intro gb229 hg w21 hbox hb; have BK229 := Aside0.mk (hbox); obtain ⟨GW229, nHB⟩ := geA hg hb; have GE229 := GW229; replace HB := nHB; clear nHB; clear hb hbox hg) | ((with_reducible refine gate_callee (f := 17) rfl ?_); refine goesLA_ (some 9) rfl rfl Tryz.func17 rfl #[.int .i64 a0] rfl ?_; (with_reducible refine (epoch_time.calls a0 true _ A4.out).mono ?_); rintro e w' ⟨rfl, ⟨nd, rfl⟩⟩; refine ⟨_, rfl, ?_⟩; (try (rw [drewN_self w21]; generalize hq_ : World.drewN w21 _ = w21; have n0_ : Aside0 (w21.heap[gb229]? = some (.cells #[.bool false, .int .i64 0, .int .i64 0, .int .i64 0, .int .i64 0, .int .i64 0] 25 (0, 0))) := ⟨by rw [← hq_]; exact (by (with_reducible repeat first | apply blk_drewN | apply blk_drew | apply blk_alloc); exact BK229.out)⟩; have n1_ : Aside0 (Below w.heap.size w w21) := ⟨by rw [← hq_]; exact (by repeat (first | (with_reducible first | exact HB.out | apply below_alloc | apply pw_below_drewN | apply below_drew1 | refine below_set ?_ GE229.out) | exact HB.out))⟩; clear BK229 HB hq_; have BK229 := n0_; have HB := n1_; clear n0_ n1_))) | (go_at_call 18; (with_reducible refine (epoch_windowS.calls a1 false _ A6.out).mono ?_); rintro e w22 ⟨rfl, hb⟩; replace BK229 := bdZ BK229 hb; replace HB := stA hb; clear hb; have hcz23_0 := czZ BK229 0 (.bool false); have hcz23_1 := czZ BK229 1 (.int .i64 0); have hcz23_2 := czZ BK229 2 (.int .i64 0); have hcz23_3 := czZ BK229 3 (.int .i64 0); have hcz23_4 := czZ BK229 4 (.int .i64 0); have hcz23_5 := czZ BK229 5 (.int .i64 0); have hfz23_0 := blk_frozen BK229.out 0; have hfz23_1 := blk_frozen BK229.out 1; have hfz23_2 := blk_frozen BK229.out 2; have hfz23_3 := blk_frozen BK229.out 3; have hfz23_4 := blk_frozen BK229.out 4; have hfz23_5 := blk_frozen BK229.out 5))
   refine bodyPost_ret (results_ct rfl _ _ gb229 25 #[.bool false, .int .i64 0, .int .i64 0, .int .i64 0, .int .i64 0, .int .i64 0] (0, 0) _ rfl (by (with_reducible repeat first | apply blk_drewN | apply blk_drew | apply blk_alloc); refine blk_put (cs := #[.bool false, .int .i64 0, .int .i64 0, .int .i64 0, .int .i64 0, .int .i64 0]) ?_ 5 _ rfl; (with_reducible repeat first | apply blk_drewN | apply blk_drew | apply blk_alloc); refine blk_put (cs := #[.bool false, .int .i64 0, .int .i64 0, .int .i64 0, .int .i64 0, .int .i64 0]) ?_ 4 _ rfl; (with_reducible repeat first | apply blk_drewN | apply blk_drew | apply blk_alloc); refine blk_put (cs := #[.bool false, .int .i64 0, .int .i64 0, .int .i64 0, .int .i64 0, .int .i64 0]) ?_ 3 _ rfl; (with_reducible repeat first | apply blk_drewN | apply blk_drew | apply blk_alloc); refine blk_put (cs := #[.bool false, .int .i64 0, .int .i64 0, .int .i64 0, .int .i64 0, .int .i64 0]) ?_ 2 _ rfl; (with_reducible repeat first | apply blk_drewN | apply blk_drew | apply blk_alloc); refine blk_put (cs := #[.bool false, .int .i64 0, .int .i64 0, .int .i64 0, .int .i64 0, .int .i64 0]) ?_ 1 _ rfl; (with_reducible repeat first | apply blk_drewN | apply blk_drew | apply blk_alloc); refine blk_put (cs := #[.bool false, .int .i64 0, .int .i64 0, .int .i64 0, .int .i64 0, .int .i64 0]) ?_ 0 _ rfl; (with_reducible repeat first | apply blk_drewN | apply blk_drew | apply blk_alloc); exact BK229.out) Tryz.underlying25 rfl (by kernel_rfl)) rfl ?_; exact ⟨by first | rfl | (simp [errW_none, errW_some] <;> rfl) | (simp [*, errW_none, errW_some] <;> rfl), by repeat (first | (with_reducible first | exact HB.out | apply below_alloc | apply pw_below_drewN | apply below_drew1 | refine below_set ?_ GE229.out) | exact HB.out)⟩
 ·replace c5 := Bool.eq_false_iff.mpr c5
  subst c5
  have H1 : (some (false, 0, 0, 0, 0, 0, 201)) = some (r1, r2, r3, r4, r5, r6, r7) := by rw [if_neg (show ¬ (false = true) by decide)] at H; exact H
  clear H; have H := H1; clear H1; simp only [Option.some.injEq, Prod.mk.injEq] at H; obtain ⟨rfl, rfl, rfl, rfl, rfl, rfl, rfl⟩ := H
  go_enter Tryz.func7, Tryz.ntmps7
  go_wp2_with (first | ((with_reducible refine gate_dst (N := 6) rfl ?_); refine box_event ?hg (N := 6) ?hd (cs := #[.bool false, .int .i64 0, .int .i64 0, .int .i64 0, .int .i64 0, .int .i64 0]) (t := 25) ?hr ?_; (case hd => rfl); (case hg => rfl); (case hr => first | (go_simp; done) | (go_simp; rfl)); intro gb229 hg w24 hbox hb; have BK229 := Aside0.mk (hbox); obtain ⟨GW229, nHB⟩ := geA hg hb; have GE229 := GW229; replace HB := nHB; clear nHB; clear hb hbox hg) | ((with_reducible refine gate_callee (f := 17) rfl ?_); refine goesLA_ (some 9) rfl rfl Tryz.func17 rfl #[.int .i64 a0] rfl ?_; (with_reducible refine (epoch_time.calls a0 false _ A4.out).mono ?_); rintro e w' ⟨rfl, ⟨nd, rfl⟩⟩; refine ⟨_, rfl, ?_⟩; (try (rw [drewN_self w24]; generalize hq_ : World.drewN w24 _ = w24; have n0_ : Aside0 (w24.heap[gb229]? = some (.cells #[.bool false, .int .i64 0, .int .i64 0, .int .i64 0, .int .i64 0, .int .i64 0] 25 (0, 0))) := ⟨by rw [← hq_]; exact (by (with_reducible repeat first | apply blk_drewN | apply blk_drew | apply blk_alloc); exact BK229.out)⟩; have n1_ : Aside0 (Below w.heap.size w w24) := ⟨by rw [← hq_]; exact (by repeat (first | (with_reducible first | exact HB.out | apply below_alloc | apply pw_below_drewN | apply below_drew1 | refine below_set ?_ GE229.out) | exact HB.out))⟩; clear BK229 HB hq_; have BK229 := n0_; have HB := n1_; clear n0_ n1_)); have hcz25_0 := czZ BK229 0 (.bool false); have hcz25_1 := czZ BK229 1 (.int .i64 0); have hcz25_2 := czZ BK229 2 (.int .i64 0); have hcz25_3 := czZ BK229 3 (.int .i64 0); have hcz25_4 := czZ BK229 4 (.int .i64 0); have hcz25_5 := czZ BK229 5 (.int .i64 0); have hfz25_0 := blk_frozen BK229.out 0; have hfz25_1 := blk_frozen BK229.out 1; have hfz25_2 := blk_frozen BK229.out 2; have hfz25_3 := blk_frozen BK229.out 3; have hfz25_4 := blk_frozen BK229.out 4; have hfz25_5 := blk_frozen BK229.out 5))
  refine bodyPost_ret (results_ct rfl _ _ gb229 25 #[.bool false, .int .i64 0, .int .i64 0, .int .i64 0, .int .i64 0, .int .i64 0] (0, 0) _ rfl (by (with_reducible repeat first | apply blk_drewN | apply blk_drew | apply blk_alloc); refine blk_put (cs := #[.bool false, .int .i64 0, .int .i64 0, .int .i64 0, .int .i64 0, .int .i64 0]) ?_ 5 _ rfl; (with_reducible repeat first | apply blk_drewN | apply blk_drew | apply blk_alloc); refine blk_put (cs := #[.bool false, .int .i64 0, .int .i64 0, .int .i64 0, .int .i64 0, .int .i64 0]) ?_ 4 _ rfl; (with_reducible repeat first | apply blk_drewN | apply blk_drew | apply blk_alloc); refine blk_put (cs := #[.bool false, .int .i64 0, .int .i64 0, .int .i64 0, .int .i64 0, .int .i64 0]) ?_ 3 _ rfl; (with_reducible repeat first | apply blk_drewN | apply blk_drew | apply blk_alloc); refine blk_put (cs := #[.bool false, .int .i64 0, .int .i64 0, .int .i64 0, .int .i64 0, .int .i64 0]) ?_ 2 _ rfl; (with_reducible repeat first | apply blk_drewN | apply blk_drew | apply blk_alloc); refine blk_put (cs := #[.bool false, .int .i64 0, .int .i64 0, .int .i64 0, .int .i64 0, .int .i64 0]) ?_ 1 _ rfl; (with_reducible repeat first | apply blk_drewN | apply blk_drew | apply blk_alloc); refine blk_put (cs := #[.bool false, .int .i64 0, .int .i64 0, .int .i64 0, .int .i64 0, .int .i64 0]) ?_ 0 _ rfl; (with_reducible repeat first | apply blk_drewN | apply blk_drew | apply blk_alloc); exact BK229.out) Tryz.underlying25 rfl (by kernel_rfl)) rfl ?_; exact ⟨by first | rfl | (simp [errW_none, errW_some] <;> rfl) | (simp [*, errW_none, errW_some] <;> rfl), by repeat (first | (with_reducible first | exact HB.out | apply below_alloc | apply pw_below_drewN | apply below_drew1 | refine below_set ?_ GE229.out) | exact HB.out)⟩

/-! ### epoch_BeginS: pure, behind function 7 -/
section
open Go.Proofs.YtfahbgkoldoflaaGreatDoor.Sp
noncomputable def epoch_BeginS.f (s : Int) (f : Int) (m : Int) : Option (Bool × Int × Int × Int × Int × Int × Int) := need ((I s) ∧ (I f) ∧ (I m)) (some (beginQ s f m))
theorem epoch_BeginS.eq {s : Int} {f : Int} {m : Int} (h1 : I s) (h2 : I f) (h3 : I m) : epoch_BeginS.f s f m = some (beginQ s f m) := need_pos ⟨h1, h2, h3⟩
theorem epoch_Begin.main {s : Int} {f : Int} {m : Int} (h1 : I s) (h2 : I f) (h3 : I m) : epoch_Begin.f s f m = some (beginQ s f m) := by
 unfold epoch_Begin.f epoch_time.f beginQ
 rw [epoch_windowS.eq, epoch_windowS.eq]
 have e : mx m f = max2 m f := rfl
 rw [e]
 simp only [Option.bind_some]
 by_cases h : 0 ≤ s ∧ s ≤ 1099511627776 ∧ 0 ≤ f ∧ f ≤ 68719476736 ∧ 0 ≤ m ∧ m ≤ 68719476736
 ·have b : f ≤ max2 m f ∧ max2 m f ≤ 68719476736 := by unfold max2; split <;> omega
  have wf : winOk f = true := by unfold winOk; exact decide_eq_true (by omega)
  have wm : winOk m = true := by unfold winOk; exact decide_eq_true (by omega)
  rw [if_pos h, if_pos (show s ≥ 0 from h.1), decide_eq_true h.2.1, wf, wm, w64 (x := max2 m f - f) (by omega), epoch_K.eq (by omega)]
  rfl
 ·rw [if_neg h]
  by_cases c1 : s ≥ 0
  ·rw [if_pos c1]
   by_cases c2 : s ≤ 1099511627776
   ·rw [decide_eq_true c2]
    cases wf : winOk f
    ·rfl
    ·cases wm : winOk m
     ·rfl
     ·unfold winOk at wf wm
      have x := of_decide_eq_true wf; have y := of_decide_eq_true wm; exact absurd ⟨c1, c2, x.1, x.2, y.1, y.2⟩ h
   ·rw [decide_eq_false c2]; rfl
  ·rw [if_neg c1]; rfl
end
theorem epoch_BeginS.calls (a0 : Int) (a1 : Int) (a2 : Int) (r1 : Bool) (r2 : Int) (r3 : Int) (r4 : Int) (r5 : Int) (r6 : Int) (r7 : Int) (w : World) (h : epoch_BeginS.f a0 a1 a2 = some (r1, r2, r3, r4, r5, r6, r7)) (hL : Tens w) :
  Calls Tryz.prog 7 #[.int .i64 a0, .int .i64 a1, .int .i64 a2] w fun e w' => e = .returned (.tuple #[.agg #[.bool r1, .int .i64 r2, .int .i64 r3, .int .i64 r4, .int .i64 r5, .int .i64 r6], .int .i64 r7]) ∧ Below w.heap.size w w' := by
 obtain ⟨hc, h⟩ := Sp.need_some h; obtain ⟨h1, h2, h3⟩ := hc; exact epoch_Begin.calls a0 a1 a2 r1 r2 r3 r4 r5 r6 r7 w (by rw [epoch_Begin.main h1 h2 h3]; exact h) hL

-- NOT PRINTED: function 56 (safe_held)

/-! ### safe_Plus: function 57 -/
noncomputable def safe_Plus.f (a0 : Int) (a1 : Int) : Option (Int × Int) := if ((decide (a0 ≥ 0)) == (decide (a1 ≥ 0))) = true then (if ((decide ((wrap64 (a0 + a1)) ≥ 0)) != (decide (a0 ≥ 0))) = true then (some (0, 10)) else (some (wrap64 (a0 + a1), 0))) else (some (wrap64 (a0 + a1), 0))
set_option maxHeartbeats 8000000 in
set_option maxRecDepth 100000 in
theorem safe_Plus.calls (a0 : Int) (a1 : Int) (r1 : Int) (r2 : Int) (w : World) (h : safe_Plus.f a0 a1 = some (r1, r2)) :
  Calls Tryz.prog 57 #[.int .i64 a0, .int .i64 a1] w fun e w' => e = .returned (.tuple #[.int .i64 r1, .int .i64 r2]) ∧ Drawn0 w w' := by
 have H : (if ((decide (a0 ≥ 0)) == (decide (a1 ≥ 0))) = true then (if ((decide ((wrap64 (a0 + a1)) ≥ 0)) != (decide (a0 ≥ 0))) = true then (some (0, 10)) else (some (wrap64 (a0 + a1), 0))) else (some (wrap64 (a0 + a1), 0))) = some (r1, r2) := h; clear h
 by_cases c3 : ((decide (a0 ≥ 0)) == (decide (a1 ≥ 0))) = true
 ·rw [if_pos c3] at H
  have c3b0 : ((decide (a0 ≥ 0)) == (decide (a1 ≥ 0))) = true := c3
  (try (have c3b1 : decide ((decide (a0 ≥ 0)) = (decide (a1 ≥ 0))) = true := by simpa using c3))
  (try (have c3b2 : ((decide (a0 ≥ 0)) == (decide (a1 ≥ 0))) = true := by simpa using c3))
  clear c3
  by_cases c4 : ((decide ((wrap64 (a0 + a1)) ≥ 0)) != (decide (a0 ≥ 0))) = true
  ·rw [if_pos c4] at H
   have c4b0 : ((decide ((wrap64 (a0 + a1)) ≥ 0)) != (decide (a0 ≥ 0))) = true := c4
   (try (have c4b1 : decide ((decide ((wrap64 (a0 + a1)) ≥ 0)) = (decide (a0 ≥ 0))) = false := by simpa using c4))
   (try (have c4b2 : ((decide ((wrap64 (a0 + a1)) ≥ 0)) == (decide (a0 ≥ 0))) = false := by simpa using c4))
   (try (have c4b3 : ¬ ((decide ((wrap64 (a0 + a1)) ≥ 0)) = (decide (a0 ≥ 0))) := by simpa using c4))
   clear c4; simp only [Option.some.injEq, Prod.mk.injEq] at H; obtain ⟨rfl, rfl⟩ := H
   go_enter Tryz.func57, Tryz.ntmps57
   go_wp2
   go_ret2
   exact ⟨by first | rfl | (simp; done) | (simp [*]; done), by repeat (first | exact Drawn0.refl _ | apply Drawn0.step)⟩
  ·rw [if_neg c4] at H
   have c4b0 : ((decide ((wrap64 (a0 + a1)) ≥ 0)) != (decide (a0 ≥ 0))) = false := by simpa using c4
   (try (have c4b1 : decide ((decide ((wrap64 (a0 + a1)) ≥ 0)) = (decide (a0 ≥ 0))) = true := by simpa using c4))
   (try (have c4b2 : ((decide ((wrap64 (a0 + a1)) ≥ 0)) == (decide (a0 ≥ 0))) = true := by simpa using c4))
   clear c4; simp only [Option.some.injEq, Prod.mk.injEq] at H; obtain ⟨rfl, rfl⟩ := H
   go_enter Tryz.func57, Tryz.ntmps57
   go_wp2
   go_ret2
   exact ⟨by first | rfl | (simp; done) | (simp [*]; done), by repeat (first | exact Drawn0.refl _ | apply Drawn0.step)⟩
 ·rw [if_neg c3] at H
  have c3b0 : ((decide (a0 ≥ 0)) == (decide (a1 ≥ 0))) = false := by simpa using c3
  (try (have c3b1 : decide ((decide (a0 ≥ 0)) = (decide (a1 ≥ 0))) = false := by simpa using c3))
  (try (have c3b2 : ((decide (a0 ≥ 0)) == (decide (a1 ≥ 0))) = false := by simpa using c3))
  (try (have c3b3 : ¬ ((decide (a0 ≥ 0)) = (decide (a1 ≥ 0))) := by simpa using c3))
  clear c3; simp only [Option.some.injEq, Prod.mk.injEq] at H; obtain ⟨rfl, rfl⟩ := H
  go_enter Tryz.func57, Tryz.ntmps57
  go_wp2
  go_ret2
  exact ⟨by first | rfl | (simp; done) | (simp [*]; done), by repeat (first | exact Drawn0.refl _ | apply Drawn0.step)⟩

/-! ### safe_PlusS: a sum, or its error: pure, behind function 57 -/
noncomputable def safe_PlusS.f (a b : Int) : Option (Int × Int) := Sp.need (Sp.I a ∧ Sp.I b) (Sp.fit (a + b))
section SafePlus
open Go.Proofs.YtfahbgkoldoflaaGreatDoor.Sp
theorem safe_Plus.main {a b : Int} (h1 : I a) (h2 : I b) : safe_Plus.f a b = fit (a + b) := by
 unfold safe_Plus.f fit
 by_cases c : I (a + b)
 ·rw [if_pos c, w64 c]
  by_cases ha : a ≥ 0 <;> by_cases hb : b ≥ 0
  ·have : a + b ≥ 0 := by omega
   simp [ha, hb, this]
  ·simp [ha, hb]
  ·simp [ha, hb]
  ·have : ¬ a + b ≥ 0 := by omega
   simp [ha, hb, this]
 ·rw [if_neg c]
  by_cases ha : a ≥ 0
  ·have hb : b ≥ 0 := by omega
   have hw : ¬ wrap64 (a + b) ≥ 0 := by unfold wrap64; omega
   simp [ha, hb, hw]
  ·have hb : ¬ b ≥ 0 := by omega
   have hw : wrap64 (a + b) ≥ 0 := by unfold wrap64; omega
   simp [ha, hb, hw]
end SafePlus
theorem safe_PlusS.calls (a0 a1 r1 r2 : Int) (w : World) (h : safe_PlusS.f a0 a1 = some (r1, r2)) :
  Calls Tryz.prog 57 #[.int .i64 a0, .int .i64 a1] w fun e w' => e = .returned (.tuple #[.int .i64 r1, .int .i64 r2]) ∧ Drawn0 w w' := by
 obtain ⟨hc, h⟩ := Sp.need_some h; exact safe_Plus.calls a0 a1 r1 r2 w (by rw [safe_Plus.main hc.1 hc.2]; exact h)

/-! ### safe_Add: function 24 -/
noncomputable def safe_Add.f (a b : Int) : Option Int := Sp.need (Sp.I a ∧ Sp.I b) (some (Sp.near (a + b)))
theorem safe_Add.eq {a b : Int} (h1 : Sp.I a) (h2 : Sp.I b) : safe_Add.f a b = some (Sp.near (a + b)) := Sp.need_pos ⟨h1, h2⟩
theorem safe_PlusS.as {a b x y : Int} (h1 : Sp.I a) (h2 : Sp.I b) (h : Sp.fit (a + b) = some (x, y)) : Aside0 (safe_PlusS.f a b = some (x, y)) := ⟨(Sp.need_pos ⟨h1, h2⟩).trans h⟩
set_option maxHeartbeats 1000000 in
set_option maxRecDepth 100000 in
theorem safe_Add.calls (a0 a1 r : Int) (w : World) (h : safe_Add.f a0 a1 = some r) :
  Calls Tryz.prog 24 #[.int .i64 a0, .int .i64 a1] w fun e w' => e = .returned (.int .i64 r) ∧ Below w.heap.size w w' := by
 obtain ⟨hc, h⟩ := Sp.need_some h; obtain rfl := Option.some.inj h
 have hmf : ∀ (fn : Fn) (first cap : Array Value) (w : World), (Instr.makeFunc fn first cap).run Tryz.prog w = .ok (.func fn first cap) w := fun _ _ _ _ => rfl
 by_cases c : Sp.I (a0 + a1)
 ·have HP := safe_PlusS.as hc.1 hc.2 (Sp.fit_in c)
  rw [Sp.near_in c]
  clear hc c
  go_enter Tryz.func24, Tryz.ntmps24
  go_wp2_with (first | (go_at_call 57; refine (safe_PlusS.calls a0 a1 _ _ _ HP.out).mono ?_; rintro e w' ⟨rfl, ⟨nd, rfl⟩⟩) | go_in)
  go_ret
  exact ⟨rfl, by repeat (first | exact Below.refl _ _ | apply below_alloc | apply pw_below_drewN)⟩
 ·have HP := safe_PlusS.as hc.1 hc.2 (Sp.fit_out c)
  by_cases hn : a0 < 0
  ·have e0 : Sp.near (a0 + a1) = -9223372036854775808 := Sp.near_lo (by omega)
   rw [e0]
   have hd : decide (a0 < 0) = true := decide_eq_true hn; clear hc c hn e0
   go_enter Tryz.func24, Tryz.ntmps24
   go_wp2_with (first | (go_at_call 57; refine (safe_PlusS.calls a0 a1 _ _ _ HP.out).mono ?_; rintro e w' ⟨rfl, ⟨nd, rfl⟩⟩) | go_in)
   go_ret
   exact ⟨rfl, by repeat (first | exact Below.refl _ _ | apply below_alloc | apply pw_below_drewN)⟩
  ·have e0 : Sp.near (a0 + a1) = 9223372036854775807 := Sp.near_hi (by omega)
   rw [e0]
   have hd : decide (a0 < 0) = false := decide_eq_false hn; clear hc c hn e0
   go_enter Tryz.func24, Tryz.ntmps24
   go_wp2_with (first | (go_at_call 57; refine (safe_PlusS.calls a0 a1 _ _ _ HP.out).mono ?_; rintro e w' ⟨rfl, ⟨nd, rfl⟩⟩) | go_in)
   go_ret
   exact ⟨rfl, by repeat (first | exact Below.refl _ _ | apply below_alloc | apply pw_below_drewN)⟩

/-! ### grow_given: function 52 -/
noncomputable def grow_given.f (a0 : Int) : Option (Int) := (safe_ClampS.f a0 131072 68719476736).bind fun t234 => (some t234)
set_option maxHeartbeats 8000000 in
set_option maxRecDepth 100000 in
theorem grow_given.calls (a0 : Int) (r : Int) (w : World) (h : grow_given.f a0 = some r) :
  Calls Tryz.prog 52 #[.int .i64 a0] w fun e w' => e = .returned (.int .i64 r) ∧ Below w.heap.size w w' := by
 have HB := Aside0.mk (Below.refl w.heap.size w); have H : ((safe_ClampS.f a0 131072 68719476736).bind fun t234 => (some t234)) = some r := h; clear h; replace H := Option.bind_eq_some_iff.mp H; obtain ⟨t234, A20, H⟩ := H; replace H : (some t234) = some r := H; have A2 := Aside0.mk A20; clear A20; obtain rfl := Option.some.inj H
 go_enter Tryz.func52, Tryz.ntmps52
 go_wp2_with (first | ((with_reducible refine gate_callee (f := 22) rfl ?_); refine goesLA_ (some 4) rfl rfl Tryz.func22 rfl #[.int .i64 a0, .int .i64 131072, .int .i64 68719476736] rfl ?_; (with_reducible refine (safe_ClampS.calls a0 131072 68719476736 t234 _ A2.out).mono ?_); rintro e w3 ⟨rfl, hb⟩; refine ⟨_, rfl, ?_⟩; replace HB := stA hb; clear hb))
 go_ret
 exact ⟨by first | rfl | (simp [errW_none, errW_some] <;> rfl) | (simp [*, errW_none, errW_some] <;> rfl), by repeat (first | (with_reducible first | exact HB.out | apply below_alloc | apply pw_below_drewN | apply below_drew1) | exact HB.out)⟩

/-! ### grow_givenS: a window that is given: pure, behind function 52 -/
noncomputable def grow_givenS.f (a : Int) : Option Int := Sp.need (Sp.I a) (some (Sp.win a))
section
open Go.Proofs.YtfahbgkoldoflaaGreatDoor.Sp
theorem grow_givenS.eq {a : Int} (h1 : I a) : grow_givenS.f a = some (win a) := need_pos h1
theorem grow_given.main {a : Int} (h1 : I a) : grow_given.f a = some (win a) := by
 unfold grow_given.f
 rw [safe_ClampS.eq h1 (by omega) (by omega)]
 rfl
end
theorem grow_givenS.calls (a r1 : Int) (w : World) (h : grow_givenS.f a = some r1) :
  Calls Tryz.prog 52 #[.int .i64 a] w fun e w' => e = .returned (.int .i64 r1) ∧ Below w.heap.size w w' := by
 obtain ⟨h1, h⟩ := Sp.need_some h; exact grow_given.calls a r1 w (by rw [grow_given.main h1]; exact h)

-- NOT PRINTED: function 20 (grow_after)

/-! ### frac_Floor_1: function 99 -/
noncomputable def frac_Floor_1.f (a0 : Int) (a1 : Int) : Option (Bool) := some false
set_option maxHeartbeats 8000000 in
set_option maxRecDepth 100000 in
theorem frac_Floor_1.calls (a0 : Int) (a1 : Int) (r : Bool) (w : World) (h : frac_Floor_1.f a0 a1 = some r) :
  Calls Tryz.prog 99 #[.int .u64 a0, .int .u64 a1] w fun e w' => e = .returned (.bool r) ∧ Drawn0 w w' := by
 have H : (some false) = some r := h; clear h; obtain rfl := Option.some.inj H
 go_enter Tryz.func99, Tryz.ntmps99
 go_wp2
 go_ret
 exact ⟨by first | rfl | (simp; done) | (simp [*]; done), by repeat (first | exact Drawn0.refl _ | apply Drawn0.step)⟩

/-! ### big_Mul: function 131 -/
noncomputable def big_Mul.f (a0 : Int) (a1 : Int) : Option (Bool × Int × Int) := (big_far.f a0).bind fun t236 => ((big_far.f a1).bind fun t237 => ((bits_Mul64.f t236 t237).bind fun bt238 => ((big_size_with.f bt238.1 bt238.2 ((decide (a0 < 0)) != (decide (a1 < 0)))).bind fun bt240 => (some (bt240.1, bt240.2.1, bt240.2.2)))))
set_option maxHeartbeats 8000000 in
set_option maxRecDepth 100000 in
theorem big_Mul.calls (a0 : Int) (a1 : Int) (r1 : Bool) (r2 : Int) (r3 : Int) (w : World) (h : big_Mul.f a0 a1 = some (r1, r2, r3)) :
  Calls Tryz.prog 131 #[.int .i64 a0, .int .i64 a1] w fun e w' => e = .returned (.agg #[.bool r1, .int .u64 r2, .int .u64 r3]) ∧ Below w.heap.size w w' := by
 have hu99 := Tryz.underlying99; have hu154 := Tryz.underlying154; have HB := Aside0.mk (Below.refl w.heap.size w); have H : ((big_far.f a0).bind fun t236 => ((big_far.f a1).bind fun t237 => ((bits_Mul64.f t236 t237).bind fun bt238 => ((big_size_with.f bt238.1 bt238.2 ((decide (a0 < 0)) != (decide (a1 < 0)))).bind fun bt240 => (some (bt240.1, bt240.2.1, bt240.2.2)))))) = some (r1, r2, r3) := h; clear h; replace H := Option.bind_eq_some_iff.mp H; obtain ⟨t236, A30, H⟩ := H; (try dsimp only at H); have A3 := Aside0.mk A30; clear A30; replace H := Option.bind_eq_some_iff.mp H; obtain ⟨t237, A40, H⟩ := H; replace H : ((bits_Mul64.f t236 t237).bind fun bt238 => ((big_size_with.f bt238.1 bt238.2 ((decide (a0 < 0)) != (decide (a1 < 0)))).bind fun bt240 => (some (bt240.1, bt240.2.1, bt240.2.2)))) = some (r1, r2, r3) := H; have A4 := Aside0.mk A40; clear A40; replace H := Option.bind_eq_some_iff.mp H; obtain ⟨⟨t238, t239⟩, A50, H⟩ := H; replace H : ((big_size_with.f t238 t239 ((decide (a0 < 0)) != (decide (a1 < 0)))).bind fun bt240 => (some (bt240.1, bt240.2.1, bt240.2.2))) = some (r1, r2, r3) := H; have A5 := Aside0.mk A50; clear A50; replace H := Option.bind_eq_some_iff.mp H; obtain ⟨⟨t240, t241, t242⟩, A60, H⟩ := H; replace H : (some (t240, t241, t242)) = some (r1, r2, r3) := H; have A6 := Aside0.mk A60; clear A60; simp only [Option.some.injEq, Prod.mk.injEq] at H; obtain ⟨rfl, rfl, rfl⟩ := H
 go_enter Tryz.func131, Tryz.ntmps131
 go_wp2_with (first | ((with_reducible refine gate_dst (N := 4) rfl ?_); refine box_event ?hg (N := 4) ?hd (cs := #[.bool false, .int .u64 0, .int .u64 0]) (t := 99) ?hr ?_; (case hd => rfl); (case hg => rfl); (case hr => first | (go_simp; done) | (go_simp; rfl)); intro gb235 hg w7 hbox hb; have BK235 := Aside0.mk (hbox); obtain ⟨GW235, nHB⟩ := geA hg hb; have GE235 := GW235; replace HB := nHB; clear nHB; clear hb hbox hg) | ((with_reducible refine gate_callee (f := 102) rfl ?_); refine goesLA_ (some 9) rfl rfl Tryz.func102 rfl #[.int .i64 a0] rfl ?_; (with_reducible refine (big_far.calls a0 t236 _ A3.out).mono ?_); rintro e w' ⟨rfl, ⟨nd, rfl⟩⟩; refine ⟨_, rfl, ?_⟩; (try (rw [drewN_self w7]; generalize hq_ : World.drewN w7 _ = w7; have n0_ : Aside0 (w7.heap[gb235]? = some (.cells #[.bool false, .int .u64 0, .int .u64 0] 99 (0, 0))) := ⟨by rw [← hq_]; exact (by (with_reducible repeat first | apply blk_drewN | apply blk_drew | apply blk_alloc); exact BK235.out)⟩; have n1_ : Aside0 (Below w.heap.size w w7) := ⟨by rw [← hq_]; exact (by repeat (first | (with_reducible first | exact HB.out | apply below_alloc | apply pw_below_drewN | apply below_drew1 | refine below_set ?_ GE235.out) | exact HB.out))⟩; clear BK235 HB hq_; have BK235 := n0_; have HB := n1_; clear n0_ n1_))) | ((with_reducible refine gate_callee (f := 102) rfl ?_); refine goesLA_ (some 11) rfl rfl Tryz.func102 rfl #[.int .i64 a1] rfl ?_; (with_reducible refine (big_far.calls a1 t237 _ A4.out).mono ?_); rintro e w' ⟨rfl, ⟨nd, rfl⟩⟩; refine ⟨_, rfl, ?_⟩; (try (rw [drewN_self w7]; generalize hq_ : World.drewN w7 _ = w7; have n0_ : Aside0 (w7.heap[gb235]? = some (.cells #[.bool false, .int .u64 0, .int .u64 0] 99 (0, 0))) := ⟨by rw [← hq_]; exact (by (with_reducible repeat first | apply blk_drewN | apply blk_drew | apply blk_alloc); exact BK235.out)⟩; have n1_ : Aside0 (Below w.heap.size w w7) := ⟨by rw [← hq_]; exact (by repeat (first | (with_reducible first | exact HB.out | apply below_alloc | apply pw_below_drewN | apply below_drew1 | refine below_set ?_ GE235.out) | exact HB.out))⟩; clear BK235 HB hq_; have BK235 := n0_; have HB := n1_; clear n0_ n1_))) | ((with_reducible refine gate_callee (f := 104) rfl ?_); refine goesLA_ (some 12) rfl rfl Tryz.func104 rfl #[.int .u64 t236, .int .u64 t237] rfl ?_; (with_reducible refine (bits_Mul64.calls t236 t237 t238 t239 _ A5.out).mono ?_); rintro e w' ⟨rfl, ⟨nd, rfl⟩⟩; refine ⟨_, rfl, ?_⟩; (try (rw [drewN_self w7]; generalize hq_ : World.drewN w7 _ = w7; have n0_ : Aside0 (w7.heap[gb235]? = some (.cells #[.bool false, .int .u64 0, .int .u64 0] 99 (0, 0))) := ⟨by rw [← hq_]; exact (by (with_reducible repeat first | apply blk_drewN | apply blk_drew | apply blk_alloc); exact BK235.out)⟩; have n1_ : Aside0 (Below w.heap.size w w7) := ⟨by rw [← hq_]; exact (by repeat (first | (with_reducible first | exact HB.out | apply below_alloc | apply pw_below_drewN | apply below_drew1 | refine below_set ?_ GE235.out) | exact HB.out))⟩; clear BK235 HB hq_; have BK235 := n0_; have HB := n1_; clear n0_ n1_))) | ((with_reducible refine gate_callee (f := 103) rfl ?_); refine goesLA_ (some 23) rfl rfl Tryz.func103 rfl #[.agg #[.int .u64 t238, .int .u64 t239], .bool ((decide (a0 < 0)) != (decide (a1 < 0)))] rfl ?_; (with_reducible refine (big_size_with.calls t238 t239 ((decide (a0 < 0)) != (decide (a1 < 0))) t240 t241 t242 _ A6.out).mono ?_); rintro e w8 ⟨rfl, hb⟩; refine ⟨_, rfl, ?_⟩; replace BK235 := bdZ BK235 hb; replace HB := stA hb; clear hb; have hcz9_0 := czZ BK235 0 (.bool false); have hcz9_1 := czZ BK235 1 (.int .u64 0); have hcz9_2 := czZ BK235 2 (.int .u64 0); have hfz9_0 := blk_frozen BK235.out 0; have hfz9_1 := blk_frozen BK235.out 1; have hfz9_2 := blk_frozen BK235.out 2))
 refine bodyPost_ret (results_cell_row rfl _ _ gb235 99 #[.bool t240, .int .u64 t241, .int .u64 t242] (0, 0) _ rfl (by (with_reducible repeat first | apply blk_drewN | apply blk_drew | apply blk_alloc); refine blk_put (cs := #[.bool t240, .int .u64 t241, .int .u64 0]) ?_ 2 _ rfl; (with_reducible repeat first | apply blk_drewN | apply blk_drew | apply blk_alloc); refine blk_put (cs := #[.bool t240, .int .u64 0, .int .u64 0]) ?_ 1 _ rfl; (with_reducible repeat first | apply blk_drewN | apply blk_drew | apply blk_alloc); refine blk_put (cs := #[.bool false, .int .u64 0, .int .u64 0]) ?_ 0 _ rfl; (with_reducible repeat first | apply blk_drewN | apply blk_drew | apply blk_alloc); exact BK235.out) Tryz.underlying99 rfl (by kernel_rfl)) rfl ?_; exact ⟨by first | rfl | (simp [errW_none, errW_some] <;> rfl) | (simp [*, errW_none, errW_some] <;> rfl), by repeat (first | (with_reducible first | exact HB.out | apply below_alloc | apply pw_below_drewN | apply below_drew1 | refine below_set ?_ GE235.out) | exact HB.out)⟩

/-! ### big_MulS: a product: pure, behind function 131 -/
noncomputable def big_MulS.f (a b : Int) : Option (Bool × Int × Int) := Sp.need (Sp.I a ∧ Sp.I b) (some (Sp.encN (a * b), Sp.encH (a * b), Sp.encL (a * b)))
theorem big_MulS.eq {a b : Int} (h1 : Sp.I a) (h2 : Sp.I b) : big_MulS.f a b = some (Sp.encN (a * b), Sp.encH (a * b), Sp.encL (a * b)) := Sp.need_pos ⟨h1, h2⟩
set_option maxRecDepth 100000 in
theorem big_MulS.calls (a0 a1 : Int) (r1 : Bool) (r2 r3 : Int) (w : World) (h : big_MulS.f a0 a1 = some (r1, r2, r3)) :
  Calls Tryz.prog 131 #[.int .i64 a0, .int .i64 a1] w fun e w' => e = .returned (.agg #[.bool r1, .int .u64 r2, .int .u64 r3]) ∧ Below w.heap.size w w' := by
 obtain ⟨hc, h⟩ := Sp.need_some h; refine big_Mul.calls a0 a1 r1 r2 r3 w ?_
 rw [← h]
 unfold big_Mul.f bits_Mul64.f
 rw [big_far.eq hc.1, big_far.eq hc.2]
 simp only [Option.bind_some]
 rw [Sp.need_pos (by omega)]
 simp only [Option.bind_some]
 have hp : (a0.natAbs : Int) * (a1.natAbs : Int) = ((a0 * a1).natAbs : Int) := by rw [Int.natAbs_mul]; simp
 have hb := Sp.mulI hc.1 hc.2
 rw [hp, big_with.eq (by omega) (by omega)]
 simp only [Option.bind_some]
 have e : Sp.val (decide (a0 < 0) != decide (a1 < 0)) (((a0 * a1).natAbs : Int) / 18446744073709551616) (((a0 * a1).natAbs : Int) % 18446744073709551616) = a0 * a1 := by
  have hs := Sp.mul_sign a0 a1
  unfold Sp.val
  generalize a0 * a1 = p at *
  by_cases h1 : a0 < 0 <;> by_cases h2 : a1 < 0 <;> simp [h1, h2] at hs ⊢ <;> omega
 rw [e]

/-! ### big_Int: function 145 -/
noncomputable def big_Int.f (a0_0 : Bool) (a0_1 : Int) (a0_2 : Int) : Option (Int) := (big_OfS.f 9223372036854775807).bind fun bt244 => ((big_CmpS.f a0_0 a0_1 a0_2 bt244.1 bt244.2.1 bt244.2.2).bind fun t247 => (if t247 > 0 then (some 9223372036854775807) else ((big_OfS.f (-9223372036854775808)).bind fun bt248 => ((big_CmpS.f a0_0 a0_1 a0_2 bt248.1 bt248.2.1 bt248.2.2).bind fun t251 => (if t251 < 0 then (some (-9223372036854775808)) else (if a0_0 = true then (some (wrap64 (-(wrap64 (a0_2))))) else (some (wrap64 (a0_2)))))))))
set_option maxHeartbeats 8000000 in
set_option maxRecDepth 100000 in
theorem big_Int.calls (a0_0 : Bool) (a0_1 : Int) (a0_2 : Int) (r : Int) (w : World) (h : big_Int.f a0_0 a0_1 a0_2 = some r) :
  Calls Tryz.prog 145 #[.agg #[.bool a0_0, .int .u64 a0_1, .int .u64 a0_2]] w fun e w' => e = .returned (.int .i64 r) ∧ Below w.heap.size w w' := by
 have hu99 := Tryz.underlying99; have HB := Aside0.mk (Below.refl w.heap.size w); have H : ((big_OfS.f 9223372036854775807).bind fun bt244 => ((big_CmpS.f a0_0 a0_1 a0_2 bt244.1 bt244.2.1 bt244.2.2).bind fun t247 => (if t247 > 0 then (some 9223372036854775807) else ((big_OfS.f (-9223372036854775808)).bind fun bt248 => ((big_CmpS.f a0_0 a0_1 a0_2 bt248.1 bt248.2.1 bt248.2.2).bind fun t251 => (if t251 < 0 then (some (-9223372036854775808)) else (if a0_0 = true then (some (wrap64 (-(wrap64 (a0_2))))) else (some (wrap64 (a0_2)))))))))) = some r := h; clear h; replace H := Option.bind_eq_some_iff.mp H; obtain ⟨⟨t244, t245, t246⟩, A20, H⟩ := H; (try dsimp only at H); have A2 := Aside0.mk A20; clear A20; replace H := Option.bind_eq_some_iff.mp H; obtain ⟨t247, A30, H⟩ := H; (try dsimp only at H); have A3 := Aside0.mk A30; clear A30
 by_cases c4 : t247 > 0
 ·rw [if_pos c4] at H
  have c4b0 : decide (0 < t247) = true := decide_eq_true c4; clear c4; obtain rfl := Option.some.inj H
  go_enter Tryz.func145, Tryz.ntmps145
  try go_wp2_with (first | ((with_reducible refine gate_dst (N := 1) rfl ?_); refine box_event ?hg (N := 1) ?hd (cs := #[.bool a0_0, .int .u64 a0_1, .int .u64 a0_2]) (t := 99) ?hr ?_; (case hd => rfl); (case hg => rfl); (case hr => first | (go_simp; done) | (go_simp; rfl)); intro gb243 hg w5 hbox hb; have BK243 := Aside0.mk (hbox); obtain ⟨GW243, nHB⟩ := geA hg hb; have GE243 := GW243; replace HB := nHB; clear nHB; clear hb hbox hg))
  replace BK243 := Aside0.mk (blk_drew BK243.out); replace HB := Aside0.mk (below_drew1 HB.out); refine start_ (n := 5) (S := fun w' => w'.cell? ⟨gb243, 0, none⟩ = some (.bool a0_0) ∧ w'.cell? ⟨gb243, 1, none⟩ = some (.int .u64 a0_1) ∧ w'.cell? ⟨gb243, 2, none⟩ = some (.int .u64 a0_2)) (ds := []) #[N,N,N,N,N] (by kernel_rfl) rfl rfl ⟨(blk_cell BK243.out 0).trans rfl, (blk_cell BK243.out 1).trans rfl, (blk_cell BK243.out 2).trans rfl⟩ (fun hHeld => ?_)
  generalize w5.drew = w6 at BK243 HB hHeld ⊢
  refine take_ (i := 0) (N := some 4) (v := ?_) (a' := ?_) #[Y,N,N,N,N] rfl rfl (by kernel_rfl) (fun _ _ _ h => h) (Or.inl ⟨by rfl, ?_⟩) hHeld ?_ ?_; rotate_left
  ·rintro w' ⟨s0, s1, s2⟩; go_simp
   with_reducible rfl
  rotate_left
  ·simp only [Act.put, sA, sB, sC, i64_w, i32_w]
   rfl
  refine one_ (i := 1) (N := some 5) #[Y,Y,N,N,N] rfl rfl (by kernel_rfl) (by decide) (fun K hK => ?_); refine goesA_ Tryz.func48 rfl #[.int .i64 9223372036854775807] (by rfl) rfl rfl ?_
  with_reducible refine (big_OfS.calls 9223372036854775807 t244 t245 t246 _ A2.out).mono ?_
  rintro e w7 ⟨rfl, hb⟩; refine ⟨_, rfl, ?_⟩; replace BK243 := bbZ BK243 hb; replace HB := Aside0.mk (below_step HB.out hb); clear hb; refine hK.out _ _ ⟨(blk_cell BK243.out 0).trans rfl, (blk_cell BK243.out 1).trans rfl, (blk_cell BK243.out 2).trans rfl⟩ (fun hHeld => ?_); clear hK K; refine normA_ (some 5) ?_
  refine one_ (i := 2) (N := some 6) #[Y,Y,Y,N,N] rfl rfl (by kernel_rfl) (by decide) (fun K hK => ?_); refine goesA_ Tryz.func112 rfl #[.agg #[.bool a0_0, .int .u64 a0_1, .int .u64 a0_2], .agg #[.bool t244, .int .u64 t245, .int .u64 t246]] (by rfl) rfl rfl ?_
  with_reducible refine (big_CmpS.calls a0_0 a0_1 a0_2 t244 t245 t246 t247 _ A3.out).mono ?_
  rintro e w8 ⟨rfl, hb⟩; refine ⟨_, rfl, ?_⟩; replace BK243 := bbZ BK243 hb; replace HB := Aside0.mk (below_step HB.out hb); clear hb; refine hK.out _ _ ⟨(blk_cell BK243.out 0).trans rfl, (blk_cell BK243.out 1).trans rfl, (blk_cell BK243.out 2).trans rfl⟩ (fun hHeld => ?_); clear hK K; refine normA_ (some 6) ?_
  refine pureA_ (i := 3) (N := some 7) #[Y,Y,Y,Y,N] rfl rfl (by kernel_rfl) ?_
  refine pureA_ (i := 4) (N := some 3) #[Y,Y,Y,Y,Y] rfl rfl (by kernel_rfl) ?_
  refine done_ (by kernel_rfl) ?_
  try go_wp2
  go_ret
  exact ⟨by first | rfl | (simp [errW_none, errW_some] <;> rfl) | (simp [*, errW_none, errW_some] <;> rfl), by repeat (first | (with_reducible first | exact HB.out | apply below_alloc | apply pw_below_drewN | apply below_drew1 | refine below_set ?_ GE243.out) | exact HB.out)⟩
 ·rw [if_neg c4] at H
  have c4b0 : decide (0 < t247) = false := decide_eq_false c4; clear c4; replace H := Option.bind_eq_some_iff.mp H; obtain ⟨⟨t248, t249, t250⟩, A90, H⟩ := H; (try dsimp only at H); have A9 := Aside0.mk A90; clear A90; replace H := Option.bind_eq_some_iff.mp H; obtain ⟨t251, A100, H⟩ := H; replace H : (if t251 < 0 then (some (-9223372036854775808)) else (if a0_0 = true then (some (wrap64 (-(wrap64 (a0_2))))) else (some (wrap64 (a0_2))))) = some r := H; have A10 := Aside0.mk A100; clear A100
  by_cases c11 : t251 < 0
  ·rw [if_pos c11] at H
   have c11b0 : decide (t251 < 0) = true := decide_eq_true c11; clear c11; obtain rfl := Option.some.inj H
   go_enter Tryz.func145, Tryz.ntmps145
   try go_wp2_with (first | ((with_reducible refine gate_dst (N := 1) rfl ?_); refine box_event ?hg (N := 1) ?hd (cs := #[.bool a0_0, .int .u64 a0_1, .int .u64 a0_2]) (t := 99) ?hr ?_; (case hd => rfl); (case hg => rfl); (case hr => first | (go_simp; done) | (go_simp; rfl)); intro gb243 hg w12 hbox hb; have BK243 := Aside0.mk (hbox); obtain ⟨GW243, nHB⟩ := geA hg hb; have GE243 := GW243; replace HB := nHB; clear nHB; clear hb hbox hg))
   replace BK243 := Aside0.mk (blk_drew BK243.out); replace HB := Aside0.mk (below_drew1 HB.out); refine start_ (n := 5) (S := fun w' => w'.cell? ⟨gb243, 0, none⟩ = some (.bool a0_0) ∧ w'.cell? ⟨gb243, 1, none⟩ = some (.int .u64 a0_1) ∧ w'.cell? ⟨gb243, 2, none⟩ = some (.int .u64 a0_2)) (ds := []) #[N,N,N,N,N] (by kernel_rfl) rfl rfl ⟨(blk_cell BK243.out 0).trans rfl, (blk_cell BK243.out 1).trans rfl, (blk_cell BK243.out 2).trans rfl⟩ (fun hHeld => ?_)
   generalize w12.drew = w13 at BK243 HB hHeld ⊢
   refine take_ (i := 0) (N := some 4) (v := ?_) (a' := ?_) #[Y,N,N,N,N] rfl rfl (by kernel_rfl) (fun _ _ _ h => h) (Or.inl ⟨by rfl, ?_⟩) hHeld ?_ ?_; rotate_left
   ·rintro w' ⟨s0, s1, s2⟩; go_simp
    with_reducible rfl
   rotate_left
   ·simp only [Act.put, sA, sB, sC, i64_w, i32_w]
    rfl
   refine one_ (i := 1) (N := some 5) #[Y,Y,N,N,N] rfl rfl (by kernel_rfl) (by decide) (fun K hK => ?_); refine goesA_ Tryz.func48 rfl #[.int .i64 9223372036854775807] (by rfl) rfl rfl ?_
   with_reducible refine (big_OfS.calls 9223372036854775807 t244 t245 t246 _ A2.out).mono ?_
   rintro e w14 ⟨rfl, hb⟩; refine ⟨_, rfl, ?_⟩; replace BK243 := bbZ BK243 hb; replace HB := Aside0.mk (below_step HB.out hb); clear hb; refine hK.out _ _ ⟨(blk_cell BK243.out 0).trans rfl, (blk_cell BK243.out 1).trans rfl, (blk_cell BK243.out 2).trans rfl⟩ (fun hHeld => ?_); clear hK K; refine normA_ (some 5) ?_
   refine one_ (i := 2) (N := some 6) #[Y,Y,Y,N,N] rfl rfl (by kernel_rfl) (by decide) (fun K hK => ?_); refine goesA_ Tryz.func112 rfl #[.agg #[.bool a0_0, .int .u64 a0_1, .int .u64 a0_2], .agg #[.bool t244, .int .u64 t245, .int .u64 t246]] (by rfl) rfl rfl ?_
   with_reducible refine (big_CmpS.calls a0_0 a0_1 a0_2 t244 t245 t246 t247 _ A3.out).mono ?_
   rintro e w15 ⟨rfl, hb⟩; refine ⟨_, rfl, ?_⟩; replace BK243 := bbZ BK243 hb; replace HB := Aside0.mk (below_step HB.out hb); clear hb; refine hK.out _ _ ⟨(blk_cell BK243.out 0).trans rfl, (blk_cell BK243.out 1).trans rfl, (blk_cell BK243.out 2).trans rfl⟩ (fun hHeld => ?_); clear hK K; refine normA_ (some 6) ?_
   refine pureA_ (i := 3) (N := some 7) #[Y,Y,Y,Y,N] rfl rfl (by kernel_rfl) ?_
   refine pureA_ (i := 4) (N := some 3) #[Y,Y,Y,Y,Y] rfl rfl (by kernel_rfl) ?_
   refine done_ (by kernel_rfl) ?_
   try go_wp2
   replace BK243 := Aside0.mk (blk_drew BK243.out); replace HB := Aside0.mk (below_drew1 HB.out); refine start_ (n := 5) (S := fun w' => w'.cell? ⟨gb243, 0, none⟩ = some (.bool a0_0) ∧ w'.cell? ⟨gb243, 1, none⟩ = some (.int .u64 a0_1) ∧ w'.cell? ⟨gb243, 2, none⟩ = some (.int .u64 a0_2)) (ds := []) #[N,N,N,N,N] (by kernel_rfl) rfl rfl ⟨(blk_cell BK243.out 0).trans rfl, (blk_cell BK243.out 1).trans rfl, (blk_cell BK243.out 2).trans rfl⟩ (fun hHeld => ?_)
   generalize w15.drew = w16 at BK243 HB hHeld ⊢
   refine take_ (i := 0) (N := some 9) (v := ?_) (a' := ?_) #[Y,N,N,N,N] rfl rfl (by kernel_rfl) (fun _ _ _ h => h) (Or.inl ⟨by rfl, ?_⟩) hHeld ?_ ?_; rotate_left
   ·rintro w' ⟨s0, s1, s2⟩; go_simp
    with_reducible rfl
   rotate_left
   ·simp only [Act.put, sA, sB, sC, i64_w, i32_w]
    rfl
   refine one_ (i := 1) (N := some 10) #[Y,Y,N,N,N] rfl rfl (by kernel_rfl) (by decide) (fun K hK => ?_); refine goesA_ Tryz.func48 rfl #[.int .i64 (-9223372036854775808)] (by rfl) rfl rfl ?_
   with_reducible refine (big_OfS.calls (-9223372036854775808) t248 t249 t250 _ A9.out).mono ?_
   rintro e w17 ⟨rfl, hb⟩; refine ⟨_, rfl, ?_⟩; replace BK243 := bbZ BK243 hb; replace HB := Aside0.mk (below_step HB.out hb); clear hb; refine hK.out _ _ ⟨(blk_cell BK243.out 0).trans rfl, (blk_cell BK243.out 1).trans rfl, (blk_cell BK243.out 2).trans rfl⟩ (fun hHeld => ?_); clear hK K; refine normA_ (some 10) ?_
   refine one_ (i := 2) (N := some 11) #[Y,Y,Y,N,N] rfl rfl (by kernel_rfl) (by decide) (fun K hK => ?_); refine goesA_ Tryz.func112 rfl #[.agg #[.bool a0_0, .int .u64 a0_1, .int .u64 a0_2], .agg #[.bool t248, .int .u64 t249, .int .u64 t250]] (by rfl) rfl rfl ?_
   with_reducible refine (big_CmpS.calls a0_0 a0_1 a0_2 t248 t249 t250 t251 _ A10.out).mono ?_
   rintro e w18 ⟨rfl, hb⟩; refine ⟨_, rfl, ?_⟩; replace BK243 := bbZ BK243 hb; replace HB := Aside0.mk (below_step HB.out hb); clear hb; refine hK.out _ _ ⟨(blk_cell BK243.out 0).trans rfl, (blk_cell BK243.out 1).trans rfl, (blk_cell BK243.out 2).trans rfl⟩ (fun hHeld => ?_); clear hK K; refine normA_ (some 11) ?_
   refine pureA_ (i := 3) (N := some 12) #[Y,Y,Y,Y,N] rfl rfl (by kernel_rfl) ?_
   refine pureA_ (i := 4) (N := some 8) #[Y,Y,Y,Y,Y] rfl rfl (by kernel_rfl) ?_
   refine done_ (by kernel_rfl) ?_
   try go_wp2
   go_ret
   exact ⟨by first | rfl | (simp [errW_none, errW_some] <;> rfl) | (simp [*, errW_none, errW_some] <;> rfl), by repeat (first | (with_reducible first | exact HB.out | apply below_alloc | apply pw_below_drewN | apply below_drew1 | refine below_set ?_ GE243.out) | exact HB.out)⟩
  ·rw [if_neg c11] at H
   have c11b0 : decide (t251 < 0) = false := decide_eq_false c11; clear c11
   by_cases c19 : a0_0 = true
   ·subst c19
    have H1 : (some (wrap64 (-(wrap64 (a0_2))))) = some r := by rw [if_pos rfl] at H; exact H
    clear H; have H := H1; clear H1; obtain rfl := Option.some.inj H
    go_enter Tryz.func145, Tryz.ntmps145
    try go_wp2_with (first | ((with_reducible refine gate_dst (N := 1) rfl ?_); refine box_event ?hg (N := 1) ?hd (cs := #[.bool true, .int .u64 a0_1, .int .u64 a0_2]) (t := 99) ?hr ?_; (case hd => rfl); (case hg => rfl); (case hr => first | (go_simp; done) | (go_simp; rfl)); intro gb243 hg w20 hbox hb; have BK243 := Aside0.mk (hbox); obtain ⟨GW243, nHB⟩ := geA hg hb; have GE243 := GW243; replace HB := nHB; clear nHB; clear hb hbox hg))
    replace BK243 := Aside0.mk (blk_drew BK243.out); replace HB := Aside0.mk (below_drew1 HB.out); refine start_ (n := 5) (S := fun w' => w'.cell? ⟨gb243, 0, none⟩ = some (.bool true) ∧ w'.cell? ⟨gb243, 1, none⟩ = some (.int .u64 a0_1) ∧ w'.cell? ⟨gb243, 2, none⟩ = some (.int .u64 a0_2)) (ds := []) #[N,N,N,N,N] (by kernel_rfl) rfl rfl ⟨(blk_cell BK243.out 0).trans rfl, (blk_cell BK243.out 1).trans rfl, (blk_cell BK243.out 2).trans rfl⟩ (fun hHeld => ?_)
    generalize w20.drew = w21 at BK243 HB hHeld ⊢
    refine take_ (i := 0) (N := some 4) (v := ?_) (a' := ?_) #[Y,N,N,N,N] rfl rfl (by kernel_rfl) (fun _ _ _ h => h) (Or.inl ⟨by rfl, ?_⟩) hHeld ?_ ?_; rotate_left
    ·rintro w' ⟨s0, s1, s2⟩; go_simp
     with_reducible rfl
    rotate_left
    ·simp only [Act.put, sA, sB, sC, i64_w, i32_w]
     rfl
    refine one_ (i := 1) (N := some 5) #[Y,Y,N,N,N] rfl rfl (by kernel_rfl) (by decide) (fun K hK => ?_); refine goesA_ Tryz.func48 rfl #[.int .i64 9223372036854775807] (by rfl) rfl rfl ?_
    with_reducible refine (big_OfS.calls 9223372036854775807 t244 t245 t246 _ A2.out).mono ?_
    rintro e w22 ⟨rfl, hb⟩; refine ⟨_, rfl, ?_⟩; replace BK243 := bbZ BK243 hb; replace HB := Aside0.mk (below_step HB.out hb); clear hb; refine hK.out _ _ ⟨(blk_cell BK243.out 0).trans rfl, (blk_cell BK243.out 1).trans rfl, (blk_cell BK243.out 2).trans rfl⟩ (fun hHeld => ?_); clear hK K; refine normA_ (some 5) ?_
    refine one_ (i := 2) (N := some 6) #[Y,Y,Y,N,N] rfl rfl (by kernel_rfl) (by decide) (fun K hK => ?_); refine goesA_ Tryz.func112 rfl #[.agg #[.bool true, .int .u64 a0_1, .int .u64 a0_2], .agg #[.bool t244, .int .u64 t245, .int .u64 t246]] (by rfl) rfl rfl ?_
    with_reducible refine (big_CmpS.calls true a0_1 a0_2 t244 t245 t246 t247 _ A3.out).mono ?_
    rintro e w23 ⟨rfl, hb⟩; refine ⟨_, rfl, ?_⟩; replace BK243 := bbZ BK243 hb; replace HB := Aside0.mk (below_step HB.out hb); clear hb; refine hK.out _ _ ⟨(blk_cell BK243.out 0).trans rfl, (blk_cell BK243.out 1).trans rfl, (blk_cell BK243.out 2).trans rfl⟩ (fun hHeld => ?_); clear hK K; refine normA_ (some 6) ?_
    refine pureA_ (i := 3) (N := some 7) #[Y,Y,Y,Y,N] rfl rfl (by kernel_rfl) ?_
    refine pureA_ (i := 4) (N := some 3) #[Y,Y,Y,Y,Y] rfl rfl (by kernel_rfl) ?_
    refine done_ (by kernel_rfl) ?_
    try go_wp2
    replace BK243 := Aside0.mk (blk_drew BK243.out); replace HB := Aside0.mk (below_drew1 HB.out); refine start_ (n := 5) (S := fun w' => w'.cell? ⟨gb243, 0, none⟩ = some (.bool true) ∧ w'.cell? ⟨gb243, 1, none⟩ = some (.int .u64 a0_1) ∧ w'.cell? ⟨gb243, 2, none⟩ = some (.int .u64 a0_2)) (ds := []) #[N,N,N,N,N] (by kernel_rfl) rfl rfl ⟨(blk_cell BK243.out 0).trans rfl, (blk_cell BK243.out 1).trans rfl, (blk_cell BK243.out 2).trans rfl⟩ (fun hHeld => ?_)
    generalize w23.drew = w24 at BK243 HB hHeld ⊢
    refine take_ (i := 0) (N := some 9) (v := ?_) (a' := ?_) #[Y,N,N,N,N] rfl rfl (by kernel_rfl) (fun _ _ _ h => h) (Or.inl ⟨by rfl, ?_⟩) hHeld ?_ ?_; rotate_left
    ·rintro w' ⟨s0, s1, s2⟩; go_simp
     with_reducible rfl
    rotate_left
    ·simp only [Act.put, sA, sB, sC, i64_w, i32_w]
     rfl
    refine one_ (i := 1) (N := some 10) #[Y,Y,N,N,N] rfl rfl (by kernel_rfl) (by decide) (fun K hK => ?_); refine goesA_ Tryz.func48 rfl #[.int .i64 (-9223372036854775808)] (by rfl) rfl rfl ?_
    with_reducible refine (big_OfS.calls (-9223372036854775808) t248 t249 t250 _ A9.out).mono ?_
    rintro e w25 ⟨rfl, hb⟩; refine ⟨_, rfl, ?_⟩; replace BK243 := bbZ BK243 hb; replace HB := Aside0.mk (below_step HB.out hb); clear hb; refine hK.out _ _ ⟨(blk_cell BK243.out 0).trans rfl, (blk_cell BK243.out 1).trans rfl, (blk_cell BK243.out 2).trans rfl⟩ (fun hHeld => ?_); clear hK K; refine normA_ (some 10) ?_
    refine one_ (i := 2) (N := some 11) #[Y,Y,Y,N,N] rfl rfl (by kernel_rfl) (by decide) (fun K hK => ?_); refine goesA_ Tryz.func112 rfl #[.agg #[.bool true, .int .u64 a0_1, .int .u64 a0_2], .agg #[.bool t248, .int .u64 t249, .int .u64 t250]] (by rfl) rfl rfl ?_
    with_reducible refine (big_CmpS.calls true a0_1 a0_2 t248 t249 t250 t251 _ A10.out).mono ?_
    rintro e w26 ⟨rfl, hb⟩; refine ⟨_, rfl, ?_⟩; replace BK243 := bbZ BK243 hb; replace HB := Aside0.mk (below_step HB.out hb); clear hb; refine hK.out _ _ ⟨(blk_cell BK243.out 0).trans rfl, (blk_cell BK243.out 1).trans rfl, (blk_cell BK243.out 2).trans rfl⟩ (fun hHeld => ?_); clear hK K; refine normA_ (some 11) ?_
    refine pureA_ (i := 3) (N := some 12) #[Y,Y,Y,Y,N] rfl rfl (by kernel_rfl) ?_
    refine pureA_ (i := 4) (N := some 8) #[Y,Y,Y,Y,Y] rfl rfl (by kernel_rfl) ?_
    refine done_ (by kernel_rfl) ?_; have hcz27_0 := czZ BK243 0 (.bool true); have hcz27_1 := czZ BK243 1 (.int .u64 a0_1); have hcz27_2 := czZ BK243 2 (.int .u64 a0_2); have hfz27_0 := blk_frozen BK243.out 0; have hfz27_1 := blk_frozen BK243.out 1; have hfz27_2 := blk_frozen BK243.out 2
    try go_wp2
    go_ret
    exact ⟨by first | rfl | (simp [errW_none, errW_some] <;> rfl) | (simp [*, errW_none, errW_some] <;> rfl), by repeat (first | (with_reducible first | exact HB.out | apply below_alloc | apply pw_below_drewN | apply below_drew1 | refine below_set ?_ GE243.out) | exact HB.out)⟩
   ·replace c19 := Bool.eq_false_iff.mpr c19
    subst c19
    have H1 : (some (wrap64 (a0_2))) = some r := by rw [if_neg (show ¬ (false = true) by decide)] at H; exact H
    clear H; have H := H1; clear H1; obtain rfl := Option.some.inj H
    go_enter Tryz.func145, Tryz.ntmps145
    try go_wp2_with (first | ((with_reducible refine gate_dst (N := 1) rfl ?_); refine box_event ?hg (N := 1) ?hd (cs := #[.bool false, .int .u64 a0_1, .int .u64 a0_2]) (t := 99) ?hr ?_; (case hd => rfl); (case hg => rfl); (case hr => first | (go_simp; done) | (go_simp; rfl)); intro gb243 hg w28 hbox hb; have BK243 := Aside0.mk (hbox); obtain ⟨GW243, nHB⟩ := geA hg hb; have GE243 := GW243; replace HB := nHB; clear nHB; clear hb hbox hg))
    replace BK243 := Aside0.mk (blk_drew BK243.out); replace HB := Aside0.mk (below_drew1 HB.out); refine start_ (n := 5) (S := fun w' => w'.cell? ⟨gb243, 0, none⟩ = some (.bool false) ∧ w'.cell? ⟨gb243, 1, none⟩ = some (.int .u64 a0_1) ∧ w'.cell? ⟨gb243, 2, none⟩ = some (.int .u64 a0_2)) (ds := []) #[N,N,N,N,N] (by kernel_rfl) rfl rfl ⟨(blk_cell BK243.out 0).trans rfl, (blk_cell BK243.out 1).trans rfl, (blk_cell BK243.out 2).trans rfl⟩ (fun hHeld => ?_)
    generalize w28.drew = w29 at BK243 HB hHeld ⊢
    refine take_ (i := 0) (N := some 4) (v := ?_) (a' := ?_) #[Y,N,N,N,N] rfl rfl (by kernel_rfl) (fun _ _ _ h => h) (Or.inl ⟨by rfl, ?_⟩) hHeld ?_ ?_; rotate_left
    ·rintro w' ⟨s0, s1, s2⟩; go_simp
     with_reducible rfl
    rotate_left
    ·simp only [Act.put, sA, sB, sC, i64_w, i32_w]
     rfl
    refine one_ (i := 1) (N := some 5) #[Y,Y,N,N,N] rfl rfl (by kernel_rfl) (by decide) (fun K hK => ?_); refine goesA_ Tryz.func48 rfl #[.int .i64 9223372036854775807] (by rfl) rfl rfl ?_
    with_reducible refine (big_OfS.calls 9223372036854775807 t244 t245 t246 _ A2.out).mono ?_
    rintro e w30 ⟨rfl, hb⟩; refine ⟨_, rfl, ?_⟩; replace BK243 := bbZ BK243 hb; replace HB := Aside0.mk (below_step HB.out hb); clear hb; refine hK.out _ _ ⟨(blk_cell BK243.out 0).trans rfl, (blk_cell BK243.out 1).trans rfl, (blk_cell BK243.out 2).trans rfl⟩ (fun hHeld => ?_); clear hK K; refine normA_ (some 5) ?_
    refine one_ (i := 2) (N := some 6) #[Y,Y,Y,N,N] rfl rfl (by kernel_rfl) (by decide) (fun K hK => ?_); refine goesA_ Tryz.func112 rfl #[.agg #[.bool false, .int .u64 a0_1, .int .u64 a0_2], .agg #[.bool t244, .int .u64 t245, .int .u64 t246]] (by rfl) rfl rfl ?_
    with_reducible refine (big_CmpS.calls false a0_1 a0_2 t244 t245 t246 t247 _ A3.out).mono ?_
    rintro e w31 ⟨rfl, hb⟩; refine ⟨_, rfl, ?_⟩; replace BK243 := bbZ BK243 hb; replace HB := Aside0.mk (below_step HB.out hb); clear hb; refine hK.out _ _ ⟨(blk_cell BK243.out 0).trans rfl, (blk_cell BK243.out 1).trans rfl, (blk_cell BK243.out 2).trans rfl⟩ (fun hHeld => ?_); clear hK K; refine normA_ (some 6) ?_
    refine pureA_ (i := 3) (N := some 7) #[Y,Y,Y,Y,N] rfl rfl (by kernel_rfl) ?_
    refine pureA_ (i := 4) (N := some 3) #[Y,Y,Y,Y,Y] rfl rfl (by kernel_rfl) ?_
    refine done_ (by kernel_rfl) ?_
    try go_wp2
    replace BK243 := Aside0.mk (blk_drew BK243.out); replace HB := Aside0.mk (below_drew1 HB.out); refine start_ (n := 5) (S := fun w' => w'.cell? ⟨gb243, 0, none⟩ = some (.bool false) ∧ w'.cell? ⟨gb243, 1, none⟩ = some (.int .u64 a0_1) ∧ w'.cell? ⟨gb243, 2, none⟩ = some (.int .u64 a0_2)) (ds := []) #[N,N,N,N,N] (by kernel_rfl) rfl rfl ⟨(blk_cell BK243.out 0).trans rfl, (blk_cell BK243.out 1).trans rfl, (blk_cell BK243.out 2).trans rfl⟩ (fun hHeld => ?_)
    generalize w31.drew = w32 at BK243 HB hHeld ⊢
    refine take_ (i := 0) (N := some 9) (v := ?_) (a' := ?_) #[Y,N,N,N,N] rfl rfl (by kernel_rfl) (fun _ _ _ h => h) (Or.inl ⟨by rfl, ?_⟩) hHeld ?_ ?_; rotate_left
    ·rintro w' ⟨s0, s1, s2⟩; go_simp
     with_reducible rfl
    rotate_left
    ·simp only [Act.put, sA, sB, sC, i64_w, i32_w]
     rfl
    refine one_ (i := 1) (N := some 10) #[Y,Y,N,N,N] rfl rfl (by kernel_rfl) (by decide) (fun K hK => ?_); refine goesA_ Tryz.func48 rfl #[.int .i64 (-9223372036854775808)] (by rfl) rfl rfl ?_
    with_reducible refine (big_OfS.calls (-9223372036854775808) t248 t249 t250 _ A9.out).mono ?_
    rintro e w33 ⟨rfl, hb⟩; refine ⟨_, rfl, ?_⟩; replace BK243 := bbZ BK243 hb; replace HB := Aside0.mk (below_step HB.out hb); clear hb; refine hK.out _ _ ⟨(blk_cell BK243.out 0).trans rfl, (blk_cell BK243.out 1).trans rfl, (blk_cell BK243.out 2).trans rfl⟩ (fun hHeld => ?_); clear hK K; refine normA_ (some 10) ?_
    refine one_ (i := 2) (N := some 11) #[Y,Y,Y,N,N] rfl rfl (by kernel_rfl) (by decide) (fun K hK => ?_); refine goesA_ Tryz.func112 rfl #[.agg #[.bool false, .int .u64 a0_1, .int .u64 a0_2], .agg #[.bool t248, .int .u64 t249, .int .u64 t250]] (by rfl) rfl rfl ?_
    with_reducible refine (big_CmpS.calls false a0_1 a0_2 t248 t249 t250 t251 _ A10.out).mono ?_
    rintro e w34 ⟨rfl, hb⟩; refine ⟨_, rfl, ?_⟩; replace BK243 := bbZ BK243 hb; replace HB := Aside0.mk (below_step HB.out hb); clear hb; refine hK.out _ _ ⟨(blk_cell BK243.out 0).trans rfl, (blk_cell BK243.out 1).trans rfl, (blk_cell BK243.out 2).trans rfl⟩ (fun hHeld => ?_); clear hK K; refine normA_ (some 11) ?_
    refine pureA_ (i := 3) (N := some 12) #[Y,Y,Y,Y,N] rfl rfl (by kernel_rfl) ?_
    refine pureA_ (i := 4) (N := some 8) #[Y,Y,Y,Y,Y] rfl rfl (by kernel_rfl) ?_
    refine done_ (by kernel_rfl) ?_; have hcz35_0 := czZ BK243 0 (.bool false); have hcz35_1 := czZ BK243 1 (.int .u64 a0_1); have hcz35_2 := czZ BK243 2 (.int .u64 a0_2); have hfz35_0 := blk_frozen BK243.out 0; have hfz35_1 := blk_frozen BK243.out 1; have hfz35_2 := blk_frozen BK243.out 2
    try go_wp2
    go_ret
    exact ⟨by first | rfl | (simp [errW_none, errW_some] <;> rfl) | (simp [*, errW_none, errW_some] <;> rfl), by repeat (first | (with_reducible first | exact HB.out | apply below_alloc | apply pw_below_drewN | apply below_drew1 | refine below_set ?_ GE243.out) | exact HB.out)⟩

/-! ### big_IntS: the nearest int: pure, behind function 145 -/
noncomputable def big_IntS.f (n : Bool) (h l : Int) : Option Int := Sp.need (Sp.U h ∧ Sp.U l) (some (Sp.near (Sp.val n h l)))
theorem big_IntS.eq {n : Bool} {h l : Int} (h1 : Sp.U h) (h2 : Sp.U l) : big_IntS.f n h l = some (Sp.near (Sp.val n h l)) := Sp.need_pos ⟨h1, h2⟩
theorem big_IntS.enc {v : Int} (h : Sp.B v) : big_IntS.f (Sp.encN v) (Sp.encH v) (Sp.encL v) = some (Sp.near v) := by
 rw [big_IntS.eq (Sp.encH_U h) Sp.encL_U, Sp.val_enc]
theorem big_IntS.calls (a0_0 : Bool) (a0_1 a0_2 r : Int) (w : World) (h : big_IntS.f a0_0 a0_1 a0_2 = some r) :
  Calls Tryz.prog 145 #[.agg #[.bool a0_0, .int .u64 a0_1, .int .u64 a0_2]] w fun e w' => e = .returned (.int .i64 r) ∧ Below w.heap.size w w' := by
 obtain ⟨hc, h⟩ := Sp.need_some h; obtain ⟨h1, h2⟩ := hc; refine big_Int.calls a0_0 a0_1 a0_2 r w ?_
 rw [← h]
 have o1 : big_OfS.f 9223372036854775807 = some (false, 0, 9223372036854775807) := by
  unfold big_OfS.f
  obtain ⟨a, b, c⟩ := Sp.enc_small (v := 9223372036854775807) (by omega)
  rw [Sp.need_pos (by omega), a, b, c]
 have o2 : big_OfS.f (-9223372036854775808) = some (true, 0, 9223372036854775808) := by
  unfold big_OfS.f
  obtain ⟨a, b, c⟩ := Sp.enc_neg (v := 9223372036854775808) (by omega) (by omega)
  rw [Sp.need_pos (by omega), a, b, c]
 unfold big_Int.f
 rw [o1, o2]
 simp only [Option.bind_some]
 unfold big_CmpS.f
 rw [Sp.need_pos (by omega), Sp.need_pos (by omega)]
 simp only [Option.bind_some]
 have v1 : Sp.val false 0 9223372036854775807 = 9223372036854775807 := by unfold Sp.val; simp
 have v2 : Sp.val true 0 9223372036854775808 = -9223372036854775808 := by unfold Sp.val; simp
 rw [v1, v2]
 have hv : Sp.val a0_0 a0_1 a0_2 = if a0_0 = true then -(a0_1 * 18446744073709551616 + a0_2) else a0_1 * 18446744073709551616 + a0_2 := rfl
 generalize Sp.val a0_0 a0_1 a0_2 = v at *
 unfold Sp.cmpI Sp.near
 by_cases c1 : 9223372036854775807 < v
 ·rw [if_neg (show ¬ v < 9223372036854775807 by omega), if_neg (show ¬ v = 9223372036854775807 by omega), if_pos (by omega), if_pos c1]
 rw [if_neg (show ¬ (if v < 9223372036854775807 then (-1 : Int) else if v = 9223372036854775807 then 0 else 1) > 0 by split <;> (try split) <;> omega), if_neg c1]
 by_cases c2 : v < -9223372036854775808
 ·rw [if_pos c2, if_pos (by omega), if_pos c2]
 rw [if_neg (show ¬ (if v < -9223372036854775808 then (-1 : Int) else if v = -9223372036854775808 then 0 else 1) < 0 by split <;> (try split) <;> omega), if_neg c2]
 cases a0_0
 ·simp only [Bool.false_eq_true, if_false] at hv ⊢
  congr 1; unfold wrap64; omega
 ·simp only [if_true] at hv ⊢
  congr 1; unfold wrap64; omega

-- NOT PRINTED: function 100 (frac_way_part)

end Go.Proofs.YtfahbgkoldoflaaGreatDoor.Px
