/- Printed by a program of this session (wip/tool/px.py), over the kit's print: for each Go function a Lean function, and the proof that the machine's call answers as that function says. Conditions: none beside what the theorems state. -/
import Derived.Test.YtidpdaiolkcgnaaPx0
import Derived.Test.YtidpdaiolkcgnaaPx2
import Derived.Test.YtidpdaiolkcgnaaPx6
import Derived.Test.YtidpdaiolkcgnaaPx13
import Derived.Test.YtidpdaiolkcgnaaPx15
import Derived.Test.YtidpdaiolkcgnaaPx19
import Derived.Test.YtidpdaiolkcgnaaPx21
import Derived.Test.YtidpdaiolkcgnaaPx25
import Derived.Test.YtidpdaiolkcgnaaSpec
namespace Go.Proofs.Ytidpdaiolkcgnaa.Px
open Go.RowKit Go.Proofs.YtidpdaiolkcgnaaW.PrintWords Go.Proofs.YtidpdaiolkcgnaaW.PrintLast Go.Proofs.YtidpdaiolkcgnaaW.PrintMore
attribute [local go_sem] max2_int min2_int max_two min_two max_three min_three max_four min_four   -- for this text's walks alone
set_option linter.unusedVariables false
set_option linter.unusedSimpArgs false

attribute [local go_sem high] eqA58
-- NOT PRINTED: function 46 (frac_way_part)

/-! ### frac_way_part_frac_Ceil: function 46 -/
mutual
noncomputable def frac_way_part_frac_Ceil.j0 : Nat → Int → Bool → Bool → Int → Int → Option (Int × Int)
 | 0, _, _, _, _, _ => none
 | k + 1, x13, x36, x246000, x246001, x246002 => if x36 = true then ((big_OfS.f 1).bind fun bt247 => ((big_AddS.f x246000 x246001 x246002 bt247.1 bt247.2.1 bt247.2.2).bind fun bt250 => (frac_way_part_frac_Ceil.j1 k bt250.2.2.2 bt250.1 bt250.2.1 bt250.2.2.1))) else (frac_way_part_frac_Ceil.j1 k x13 x246000 x246001 x246002)
noncomputable def frac_way_part_frac_Ceil.j1 : Nat → Int → Bool → Int → Int → Option (Int × Int)
 | 0, _, _, _, _ => none
 | k + 1, x13, x246000, x246001, x246002 => (big_IntS.f x246000 x246001 x246002).bind fun t254 => (if x13 = 0 then ((big_OfS.f t254).bind fun bt255 => (if (!(x246000 == bt255.1) || (!(x246001 == bt255.2.1) || (!(x246002 == bt255.2.2)))) = true then (some (0, 10)) else (some (t254, 0)))) else (some (0, 10)))
end
noncomputable def frac_way_part_frac_Ceil.f (k : Nat) (a0_0 : Unit) (a1 : Int) (a2 : Int) (a3 : Int) : Option (Int × Int) := if a3 < 1 then (some (0, 20)) else ((big_MulS.f a1 a2).bind fun bt237 => ((big_DivS.f bt237.1 bt237.2.1 bt237.2.2 (IntKind.u64.wrap (a3))).bind fun bt240 => (if bt240.2.2.2.2 = 0 then ((frac_Ceil_1.f bt240.2.2.2.1 (IntKind.u64.wrap (a3))).bind fun t246 => (frac_way_part_frac_Ceil.j0 k bt240.2.2.2.2 t246 bt240.1 bt240.2.1 bt240.2.2.1)) else (frac_way_part_frac_Ceil.j0 k bt240.2.2.2.2 false bt240.1 bt240.2.1 bt240.2.2.1))))
theorem frac_way_part_frac_Ceil.mono_l : ∀ k, (∀ y0 y1 y2 y3 y4, LeO (frac_way_part_frac_Ceil.j0 k y0 y1 y2 y3 y4) (frac_way_part_frac_Ceil.j0 (k + 1) y0 y1 y2 y3 y4)) ∧ (∀ y0 y1 y2 y3, LeO (frac_way_part_frac_Ceil.j1 k y0 y1 y2 y3) (frac_way_part_frac_Ceil.j1 (k + 1) y0 y1 y2 y3))
 | 0 => ⟨fun _ _ _ _ _ r h => by simp [frac_way_part_frac_Ceil.j0] at h, fun _ _ _ _ r h => by simp [frac_way_part_frac_Ceil.j1] at h⟩
 | k + 1 => by
  obtain ⟨ih0, ih1⟩ := frac_way_part_frac_Ceil.mono_l k; refine ⟨?_, ?_⟩
  ·intro y0 y1 y2 y3 y4
   unfold frac_way_part_frac_Ceil.j0
   repeat' first
   | (with_reducible exact ih0 _ _ _ _ _)
   | (with_reducible exact ih1 _ _ _ _)
   | (with_reducible exact LeO.refl _)
   | (with_reducible exact LeO.none _)
   | (with_reducible refine LeO.ite ?_ ?_)
   | (with_reducible refine LeO.bind ?_ (fun _ => ?_))
   | exact ih0 _ _ _ _ _
   | exact ih1 _ _ _ _
   | exact LeO.none _
   | refine LeO.ite ?_ ?_
   | refine LeO.bind ?_ (fun _ => ?_)
  ·intro y0 y1 y2 y3
   unfold frac_way_part_frac_Ceil.j1
   repeat' first
   | (with_reducible exact ih0 _ _ _ _ _)
   | (with_reducible exact ih1 _ _ _ _)
   | (with_reducible exact LeO.refl _)
   | (with_reducible exact LeO.none _)
   | (with_reducible refine LeO.ite ?_ ?_)
   | (with_reducible refine LeO.bind ?_ (fun _ => ?_))
   | exact ih0 _ _ _ _ _
   | exact ih1 _ _ _ _
   | exact LeO.none _
   | refine LeO.ite ?_ ?_
   | refine LeO.bind ?_ (fun _ => ?_)
theorem frac_way_part_frac_Ceil.mono : ∀ a0 a1 a2 a3 k, LeO (frac_way_part_frac_Ceil.f k a0 a1 a2 a3) (frac_way_part_frac_Ceil.f (k + 1) a0 a1 a2 a3) := by
 intro a0 a1 a2 a3 k; obtain ⟨ih0, ih1⟩ := frac_way_part_frac_Ceil.mono_l k
 unfold frac_way_part_frac_Ceil.f
 repeat' first
   | (with_reducible exact ih0 _ _ _ _ _)
   | (with_reducible exact ih1 _ _ _ _)
   | (with_reducible exact LeO.refl _)
   | (with_reducible exact LeO.none _)
   | (with_reducible refine LeO.ite ?_ ?_)
   | (with_reducible refine LeO.bind ?_ (fun _ => ?_))
   | exact ih0 _ _ _ _ _
   | exact ih1 _ _ _ _
   | exact LeO.none _
   | refine LeO.ite ?_ ?_
   | refine LeO.bind ?_ (fun _ => ?_)
def frac_way_part_frac_Ceil.T6 : Bool × List (List Nat × List Nat) := (true, [([], []), ([], []), ([0, 1, 1], [0, 1]), ([2], [2]), ([3], [3]), ([3], [3]), ([4, 2, 0, 1, 2, 3, 4], [4]), ([5, 6, 0, 1, 2, 3, 4, 5, 6], [5])])
def frac_way_part_frac_Ceil.B6 : List Nat := [0, 0, 3, 7, 15, 15, 31, 127]
theorem frac_way_part_frac_Ceil.tab6 : rtab .any (opsOf Try.f46 6) = frac_way_part_frac_Ceil.T6 := by kernel_rfl
theorem frac_way_part_frac_Ceil.bits6 : waitsOk frac_way_part_frac_Ceil.T6.2 frac_way_part_frac_Ceil.B6 = true := by kernel_rfl
def frac_way_part_frac_Ceil.T8 : Bool × List (List Nat × List Nat) := (true, [([], []), ([0], [0]), ([1], [1]), ([2], [2]), ([2], [2]), ([4, 2, 2], [2, 4]), ([3, 5, 2], [2, 3, 5]), ([2, 6], [2, 6])])
def frac_way_part_frac_Ceil.B8 : List Nat := [0, 1, 3, 7, 7, 23, 63, 127]
theorem frac_way_part_frac_Ceil.tab8 : rtab .any (opsOf Try.f46 8) = frac_way_part_frac_Ceil.T8 := by kernel_rfl
theorem frac_way_part_frac_Ceil.bits8 : waitsOk frac_way_part_frac_Ceil.T8.2 frac_way_part_frac_Ceil.B8 = true := by kernel_rfl
set_option maxHeartbeats 8000000 in
set_option maxRecDepth 100000 in
theorem frac_way_part_frac_Ceil.calls (k : Nat) (a0_0 : Unit) (a1 : Int) (a2 : Int) (a3 : Int) (r1 : Int) (r2 : Int) (w : World) (h : frac_way_part_frac_Ceil.f k a0_0 a1 a2 a3 = some (r1, r2)) :
  Calls Try.prog 46 #[.agg #[.func (.func 45) #[] #[]], .int .i64 a1, .int .i64 a2, .int .i64 a3] w fun e w' => e = .returned (.tuple #[.int .i64 r1, .int .i64 r2]) ∧ Below w.heap.size w w' := by
 have hu55 := Try.underlying55; have hu58 := Try.underlying58; have HB := Aside0.mk (Below.refl w.heap.size w); have H : (if a3 < 1 then (some (0, 20)) else ((big_MulS.f a1 a2).bind fun bt237 => ((big_DivS.f bt237.1 bt237.2.1 bt237.2.2 (IntKind.u64.wrap (a3))).bind fun bt240 => (if bt240.2.2.2.2 = 0 then ((frac_Ceil_1.f bt240.2.2.2.1 (IntKind.u64.wrap (a3))).bind fun t246 => (frac_way_part_frac_Ceil.j0 k bt240.2.2.2.2 t246 bt240.1 bt240.2.1 bt240.2.2.1)) else (frac_way_part_frac_Ceil.j0 k bt240.2.2.2.2 false bt240.1 bt240.2.1 bt240.2.2.1))))) = some (r1, r2) := h; clear h
 by_cases c5 : a3 < 1
 ·rw [if_pos c5] at H
  have c5b0 : decide (a3 < 1) = true := decide_eq_true c5; clear c5; simp only [Option.some.injEq, Prod.mk.injEq] at H; obtain ⟨rfl, rfl⟩ := H
  go_enter Try.func46, Try.ntmps46
  go_wp2_with (first | ((with_reducible refine gate_dst (N := 4) rfl ?_); refine box_event ?hg (N := 4) ?hd (cs := #[.func (.func 45) #[] #[]]) (t := 55) ?hr ?_; (case hd => rfl); (case hg => rfl); (case hr => first | (go_simp; done) | (go_simp; rfl)); intro gb236 hg w6 hbox hb; have BK236 := Aside0.mk (hbox); obtain ⟨GW236, nHB⟩ := geA hg hb; have GE236 := GW236; replace HB := nHB; clear nHB; clear hb hbox hg))
  go_ret2
  exact ⟨by first | rfl | (simp [errW_none, errW_some] <;> rfl) | (simp [*, errW_none, errW_some] <;> rfl), by repeat (first | (with_reducible first | exact HB.out | apply below_alloc | apply pw_below_drewN | apply below_drew1 | refine below_set ?_ GE236.out) | exact HB.out)⟩
 ·rw [if_neg c5] at H
  have c5b0 : decide (a3 < 1) = false := decide_eq_false c5; clear c5; replace H := Option.bind_eq_some_iff.mp H; obtain ⟨⟨t237, t238, t239⟩, A70, H⟩ := H; (try dsimp only at H); have A7 := Aside0.mk A70; clear A70; replace H := Option.bind_eq_some_iff.mp H; obtain ⟨⟨t240, t241, t242, t243, t244⟩, A80, H⟩ := H; (try dsimp only at H); have A8 := Aside0.mk A80; clear A80; have HC9 := Aside0.mk H; clear H
  go_enter Try.func46, Try.ntmps46
  go_upto_region 5 with (first | ((with_reducible refine gate_dst (N := 4) rfl ?_); refine box_event ?hg (N := 4) ?hd (cs := #[.func (.func 45) #[] #[]]) (t := 55) ?hr ?_; (case hd => rfl); (case hg => rfl); (case hr => first | (go_simp; done) | (go_simp; rfl)); intro gb236 hg w10 hbox hb; have BK236 := Aside0.mk (hbox); obtain ⟨GW236, nHB⟩ := geA hg hb; have GE236 := GW236; replace HB := nHB; clear nHB; clear hb hbox hg) | ((with_reducible refine gate_callee (f := 49) rfl ?_); refine goesLA_ (some 22) rfl rfl Try.func49 rfl #[.int .i64 a1, .int .i64 a2] rfl ?_; (with_reducible refine (big_MulS.calls a1 a2 t237 t238 t239 _ A7.out).mono ?_); rintro e w11 ⟨rfl, hb⟩; refine ⟨_, rfl, ?_⟩; replace BK236 := bdZ BK236 hb; replace HB := stA hb; clear hb) | ((with_reducible refine gate_callee (f := 48) rfl ?_); refine goesLA_ (some 24) rfl rfl Try.func48 rfl #[.agg #[.bool t237, .int .u64 t238, .int .u64 t239], .int .u64 (IntKind.u64.wrap (a3))] rfl ?_; (with_reducible refine (big_DivS.calls t237 t238 t239 (IntKind.u64.wrap (a3)) t240 t241 t242 t243 t244 _ A8.out).mono ?_); rintro e w12 ⟨rfl, hb⟩; refine ⟨_, rfl, ?_⟩; replace BK236 := bdZ BK236 hb; replace HB := stA hb; clear hb) | ((with_reducible refine gate_dst (N := 11) rfl ?_); refine box_event ?hg (N := 11) ?hd (cs := #[.bool false, .int .u64 0, .int .u64 0]) (t := 58) ?hr ?_; (case hd => rfl); (case hg => rfl); (case hr => first | (go_simp; done) | (go_simp; rfl)); intro gb245 hg w13 hbox hb; have BK245 := Aside0.mk (hbox); obtain ⟨GW245, nHB⟩ := geA hg hb; have GE245 := GW245; obtain ⟨NB236_245, NB245_236, nBK⟩ := nbA BK236 hg hb; replace BK236 := nBK; clear nBK; replace HB := nHB; clear nHB; clear hb hbox hg; have hnb14 := NB245_236.out; have hnc14 := NB236_245.out; have hcz15_0 := czZ BK245 0 (.bool false); have hcz15_1 := czZ BK245 1 (.int .u64 0); have hcz15_2 := czZ BK245 2 (.int .u64 0); have hfz15_0 := blk_frozen BK245.out 0; have hfz15_1 := blk_frozen BK245.out 1; have hfz15_2 := blk_frozen BK245.out 2))
  (try simp only [Act.put, sA, sB, sC])
  go_cut [36] (fun v36 wc => ∃ (kq : Nat) (x36_8 : Bool), v36 = .bool x36_8 ∧ Aside0 (frac_way_part_frac_Ceil.j0 kq t244 x36_8 t240 t241 t242 = some (r1, r2)) ∧ Aside0 (kq ≤ k) ∧ Aside0 (wc.heap[gb236]? = some (.cells #[.func (.func 45) #[] #[]] 55 (0, 0))) ∧ Aside0 (wc.heap[gb245]? = some (.cells #[.bool t240, .int .u64 t241, .int .u64 t242] 58 (0, 0))) ∧ Aside0 (Below w.heap.size w wc))
  case first =>
   have H := HC9.out; clear HC9
   by_cases c16 : t244 = 0
   ·rw [if_pos c16] at H
    have c16b0 : (t244 == 0) = true := beq_iff_eq.mpr c16; have c16b1 : (t244 != 0) = false := bne_eq_false_iff_eq.mpr c16; clear c16
    (first | rw [c16b0] | (simp only [i64_w, i32_w]; rw [c16b0]) | skip)
    replace H := Option.bind_eq_some_iff.mp H; obtain ⟨t246, A170, H⟩ := H; replace H : (frac_way_part_frac_Ceil.j0 k t244 t246 t240 t241 t242) = some (r1, r2) := H; have A17 := Aside0.mk A170; clear A170; have H' := Aside0.mk H; clear H; have hnb18 := NB236_245.out; have hnc18 := NB245_236.out; have hcz19_0 := czZ BK236 0 (.func (.func 45) #[] #[]); have hfz19_0 := blk_frozen BK236.out 0
    go_wp2_with (first | (go_at_call 45; (with_reducible refine (frac_Ceil_1.calls t243 (IntKind.u64.wrap (a3)) t246 _ A17.out).mono ?_); rintro e w' ⟨rfl, ⟨nd, rfl⟩⟩))
    go_meet
    case rel => exact ⟨_, (t246), (by first | rfl | (simp; done) | (simp [*]; done)), H', ⟨by first | omega | exact Nat.le_refl _⟩, ⟨by (with_reducible repeat first | apply blk_drewN | apply blk_drew | apply blk_alloc); refine blk_far ?_ NB236_245.out _; (with_reducible repeat first | apply blk_drewN | apply blk_drew | apply blk_alloc); refine blk_far ?_ NB236_245.out _; (with_reducible repeat first | apply blk_drewN | apply blk_drew | apply blk_alloc); refine blk_far ?_ NB236_245.out _; (with_reducible repeat first | apply blk_drewN | apply blk_drew | apply blk_alloc); exact BK236.out⟩, ⟨by (with_reducible repeat first | apply blk_drewN | apply blk_drew | apply blk_alloc); refine blk_put (cs := #[.bool t240, .int .u64 t241, .int .u64 0]) ?_ 2 _ rfl; (with_reducible repeat first | apply blk_drewN | apply blk_drew | apply blk_alloc); refine blk_put (cs := #[.bool t240, .int .u64 0, .int .u64 0]) ?_ 1 _ rfl; (with_reducible repeat first | apply blk_drewN | apply blk_drew | apply blk_alloc); refine blk_put (cs := #[.bool false, .int .u64 0, .int .u64 0]) ?_ 0 _ rfl; (with_reducible repeat first | apply blk_drewN | apply blk_drew | apply blk_alloc); exact BK245.out⟩, ⟨by repeat (first | (with_reducible first | exact HB.out | apply below_alloc | apply pw_below_drewN | apply below_drew1 | refine below_set ?_ (Aside0.out (by assumption))) | exact HB.out)⟩⟩
   ·rw [if_neg c16] at H
    have c16b0 : (t244 == 0) = false := beq_eq_false_iff_ne.mpr c16; have c16b1 : (t244 != 0) = true := bne_iff_ne.mpr c16
    (first | rw [c16b0] | (simp only [i64_w, i32_w]; rw [c16b0]) | skip)
    have H' := Aside0.mk H; clear H
    go_wp2
    go_meet
    case rel => exact ⟨_, (false), (by first | rfl | (simp; done) | (simp [*]; done)), H', ⟨by first | omega | exact Nat.le_refl _⟩, ⟨by (with_reducible repeat first | apply blk_drewN | apply blk_drew | apply blk_alloc); refine blk_far ?_ NB236_245.out _; (with_reducible repeat first | apply blk_drewN | apply blk_drew | apply blk_alloc); refine blk_far ?_ NB236_245.out _; (with_reducible repeat first | apply blk_drewN | apply blk_drew | apply blk_alloc); refine blk_far ?_ NB236_245.out _; (with_reducible repeat first | apply blk_drewN | apply blk_drew | apply blk_alloc); exact BK236.out⟩, ⟨by (with_reducible repeat first | apply blk_drewN | apply blk_drew | apply blk_alloc); refine blk_put (cs := #[.bool t240, .int .u64 t241, .int .u64 0]) ?_ 2 _ rfl; (with_reducible repeat first | apply blk_drewN | apply blk_drew | apply blk_alloc); refine blk_put (cs := #[.bool t240, .int .u64 0, .int .u64 0]) ?_ 1 _ rfl; (with_reducible repeat first | apply blk_drewN | apply blk_drew | apply blk_alloc); refine blk_put (cs := #[.bool false, .int .u64 0, .int .u64 0]) ?_ 0 _ rfl; (with_reducible repeat first | apply blk_drewN | apply blk_drew | apply blk_alloc); exact BK245.out⟩, ⟨by repeat (first | (with_reducible first | exact HB.out | apply below_alloc | apply pw_below_drewN | apply below_drew1 | refine below_set ?_ (Aside0.out (by assumption))) | exact HB.out)⟩⟩
  case rest =>
   clear HC9
   try clear c1
   try clear p2
   try clear c4
   try clear c5
   try clear c5b0
   try clear c14
   try clear c16
   try clear c16b0
   try clear c16b1
   try clear c18
   try clear hcz15_0
   try clear hcz15_1
   try clear hcz15_2
   try clear hcz19_0
   try clear hfz15_0
   try clear hfz15_1
   try clear hfz15_2
   try clear hfz19_0
   obtain ⟨kq, x36_8, rfl, HA, HJ8, BK236, BK245, HB⟩ := hcut
   cases kq with
   | zero => exact absurd HA.out (by simp [frac_way_part_frac_Ceil.j0])
   | succ kj8 =>
    have H := HA.out; clear HA; simp only [frac_way_part_frac_Ceil.j0] at H; have HC20 := Aside0.mk H; clear H
    go_upto_if 36 with (fail)
    go_cut [13] (fun v13 wc => ∃ (kq : Nat) (x13_19 : Int) (x246000_19 : Bool) (x246001_19 : Int) (x246002_19 : Int), v13 = .int .i64 x13_19 ∧ Aside0 (frac_way_part_frac_Ceil.j1 kq x13_19 x246000_19 x246001_19 x246002_19 = some (r1, r2)) ∧ Aside0 (kq ≤ kj8) ∧ Aside0 (wc.heap[gb236]? = some (.cells #[.func (.func 45) #[] #[]] 55 (0, 0))) ∧ Aside0 (wc.heap[gb245]? = some (.cells #[.bool x246000_19, .int .u64 x246001_19, .int .u64 x246002_19] 58 (0, 0))) ∧ Aside0 (Below w.heap.size w wc))
    case first =>
     have H := HC20.out; clear HC20
     by_cases c21 : x36_8 = true
     ·subst c21
      have H1 : ((big_OfS.f 1).bind fun bt247 => ((big_AddS.f t240 t241 t242 bt247.1 bt247.2.1 bt247.2.2).bind fun bt250 => (frac_way_part_frac_Ceil.j1 kj8 bt250.2.2.2 bt250.1 bt250.2.1 bt250.2.2.1))) = some (r1, r2) := by rw [if_pos rfl] at H; exact H
      clear H; have H := H1; clear H1; replace H := Option.bind_eq_some_iff.mp H; obtain ⟨⟨t247, t248, t249⟩, A220, H⟩ := H; replace H : ((big_AddS.f t240 t241 t242 t247 t248 t249).bind fun bt250 => (frac_way_part_frac_Ceil.j1 kj8 bt250.2.2.2 bt250.1 bt250.2.1 bt250.2.2.1)) = some (r1, r2) := H; have A22 := Aside0.mk A220; clear A220; replace H := Option.bind_eq_some_iff.mp H; obtain ⟨⟨t250, t251, t252, t253⟩, A230, H⟩ := H; replace H : (frac_way_part_frac_Ceil.j1 kj8 t253 t250 t251 t252) = some (r1, r2) := H; have A23 := Aside0.mk A230; clear A230; have H' := Aside0.mk H; clear H
      try go_wp2
      replace BK236 := Aside0.mk (blk_drew BK236.out); replace BK245 := Aside0.mk (blk_drew BK245.out); replace HB := Aside0.mk (below_drew1 HB.out); refine start_ (n := 8) (S := fun w' => w'.cell? ⟨gb245, 0, none⟩ = some (.bool t240) ∧ w'.cell? ⟨gb245, 1, none⟩ = some (.int .u64 t241) ∧ w'.cell? ⟨gb245, 2, none⟩ = some (.int .u64 t242)) (ds := [6]) #[N,N,N,N,N,N,N,N] (by kernel_rfl) rfl rfl ⟨(blk_cell BK245.out 0).trans rfl, (blk_cell BK245.out 1).trans rfl, (blk_cell BK245.out 2).trans rfl⟩ (fun hHeld => ?_); refine with_tabW frac_way_part_frac_Ceil.tab6 frac_way_part_frac_Ceil.bits6 (fun HT_ HW_ => ?_)
      generalize wc.drew = w24 at BK236 BK245 HB hHeld ⊢
      refine take_ (i := 0) (N := some 38) (v := ?_) (a' := ?_) #[Y,N,N,N,N,N,N,N] rfl rfl (take_ofW HT_.out HW_.out (by kernel_rfl)) (fun _ _ _ h => h) (Or.inl ⟨by rfl, ?_⟩) hHeld ?_ ?_; rotate_left
      ·rintro w' ⟨s0, s1, s2⟩; go_simp
       with_reducible rfl
      rotate_left
      ·simp only [Act.put, sA, sB, sC, i64_w, i32_w]
       rfl
      refine one_ (i := 1) (N := some 39) #[Y,Y,N,N,N,N,N,N] rfl rfl (one_of HT_.out (by kernel_rfl)) (by decide) (fun K hK => ?_); refine goesA_ Try.func51 rfl #[.int .i64 1] (by rfl) rfl rfl ?_
      with_reducible refine (big_OfS.calls 1 t247 t248 t249 _ A22.out).mono ?_
      rintro e w25 ⟨rfl, hb⟩; refine ⟨_, rfl, ?_⟩; replace BK236 := bbZ BK236 hb; replace BK245 := bbZ BK245 hb; replace HB := Aside0.mk (below_step HB.out hb); clear hb; refine hK.out _ _ ⟨(blk_cell BK245.out 0).trans rfl, (blk_cell BK245.out 1).trans rfl, (blk_cell BK245.out 2).trans rfl⟩ (fun hHeld => ?_); clear hK K; refine normA_ (some 39) ?_
      refine one_ (i := 2) (N := some 40) #[Y,Y,Y,N,N,N,N,N] rfl rfl (one_of HT_.out (by kernel_rfl)) (by decide) (fun K hK => ?_); refine goesA_ Try.func50 rfl #[.agg #[.bool t240, .int .u64 t241, .int .u64 t242], .agg #[.bool t247, .int .u64 t248, .int .u64 t249]] (by rfl) rfl rfl ?_
      with_reducible refine (big_AddS.calls t240 t241 t242 t247 t248 t249 t250 t251 t252 t253 _ A23.out).mono ?_
      rintro e w26 ⟨rfl, hb⟩; refine ⟨_, rfl, ?_⟩; replace BK236 := bbZ BK236 hb; replace BK245 := bbZ BK245 hb; replace HB := Aside0.mk (below_step HB.out hb); clear hb; refine hK.out _ _ ⟨(blk_cell BK245.out 0).trans rfl, (blk_cell BK245.out 1).trans rfl, (blk_cell BK245.out 2).trans rfl⟩ (fun hHeld => ?_); clear hK K; refine normA_ (some 40) ?_
      refine pureA_ (i := 3) (N := some 37) #[Y,Y,Y,Y,N,N,N,N] rfl rfl (any_of HT_.out (by kernel_rfl)) ?_
      refine pureA_ (i := 4) (N := some 41) #[Y,Y,Y,Y,Y,N,N,N] rfl rfl (any_of HT_.out (by kernel_rfl)) ?_
      refine pureA_ (i := 5) (N := some 42) #[Y,Y,Y,Y,Y,Y,N,N] rfl rfl (any_of HT_.out (by kernel_rfl)) ?_
      refine last_ (i := 6) (N := none) #[Y,Y,Y,Y,Y,Y,Y,N] rfl rfl (one_of HT_.out (by kernel_rfl)) (by decide) (fun K hK => ?_); have hs27 := czZ BK245 0 (.bool t240); have hfs27 := blk_frozen BK245.out 0; have hns27_0 := NB236_245.out; have hms27_0 := NB245_236.out; have hs28 := czZ BK245 1 (.int .u64 t241); have hfs28 := blk_frozen BK245.out 1; have hns28_0 := NB236_245.out; have hms28_0 := NB245_236.out; have hs29 := czZ BK245 2 (.int .u64 t242); have hfs29 := blk_frozen BK245.out 2; have hns29_0 := NB236_245.out; have hms29_0 := NB245_236.out; refine skip_ (w1 := ?_) (by rfl) rfl ?_ ?_; rotate_left
      ·go_simp
       rfl
      refine hK.out _ _ ?_; clear hK K; refine pureA_ (i := 7) (N := some 13) #[Y,Y,Y,Y,Y,Y,Y,Y] rfl rfl (any_of HT_.out (by kernel_rfl)) ?_
      refine done_ (done_of HT_.out (by kernel_rfl)) ?_
      try go_wp2
      go_meet
      case rel => exact ⟨_, (t253), (t250), (t251), (t252), (by first | rfl | (simp; done) | (simp [*]; done)), H', ⟨by have := HJ8.out; first | omega | exact Nat.le_refl _⟩, ⟨by (with_reducible repeat first | apply blk_drewN | apply blk_drew | apply blk_alloc); refine blk_far ?_ NB236_245.out _; (with_reducible repeat first | apply blk_drewN | apply blk_drew | apply blk_alloc); refine blk_far ?_ NB236_245.out _; (with_reducible repeat first | apply blk_drewN | apply blk_drew | apply blk_alloc); refine blk_far ?_ NB236_245.out _; (with_reducible repeat first | apply blk_drewN | apply blk_drew | apply blk_alloc); exact BK236.out⟩, ⟨by (with_reducible repeat first | apply blk_drewN | apply blk_drew | apply blk_alloc); refine blk_put (cs := #[.bool t250, .int .u64 t251, .int .u64 t242]) ?_ 2 _ rfl; (with_reducible repeat first | apply blk_drewN | apply blk_drew | apply blk_alloc); refine blk_put (cs := #[.bool t250, .int .u64 t241, .int .u64 t242]) ?_ 1 _ rfl; (with_reducible repeat first | apply blk_drewN | apply blk_drew | apply blk_alloc); refine blk_put (cs := #[.bool t240, .int .u64 t241, .int .u64 t242]) ?_ 0 _ rfl; (with_reducible repeat first | apply blk_drewN | apply blk_drew | apply blk_alloc); exact BK245.out⟩, ⟨by repeat (first | (with_reducible first | exact HB.out | apply below_alloc | apply pw_below_drewN | apply below_drew1 | refine below_set ?_ (Aside0.out (by assumption))) | exact HB.out)⟩⟩
     ·replace c21 := Bool.eq_false_iff.mpr c21
      subst c21
      have H1 : (frac_way_part_frac_Ceil.j1 kj8 t244 t240 t241 t242) = some (r1, r2) := by rw [if_neg (show ¬ (false = true) by decide)] at H; exact H
      clear H; have H := H1; clear H1; have H' := Aside0.mk H; clear H
      go_wp2
      go_meet
      case rel => exact ⟨_, (t244), (t240), (t241), (t242), (by first | rfl | (simp; done) | (simp [*]; done)), H', ⟨by have := HJ8.out; first | omega | exact Nat.le_refl _⟩, ⟨by (with_reducible repeat first | apply blk_drewN | apply blk_drew | apply blk_alloc); exact BK236.out⟩, ⟨by (with_reducible repeat first | apply blk_drewN | apply blk_drew | apply blk_alloc); exact BK245.out⟩, ⟨by repeat (first | (with_reducible first | exact HB.out | apply below_alloc | apply pw_below_drewN | apply below_drew1 | refine below_set ?_ (Aside0.out (by assumption))) | exact HB.out)⟩⟩
    case rest =>
     clear HC20
     try clear c1
     try clear c2
     try clear p2
     try clear c4
     try clear c5
     try clear c5b0
     try clear c14
     try clear c16
     try clear c16b0
     try clear c16b1
     try clear c18
     try clear c21
     try clear hcz15_0
     try clear hcz15_1
     try clear hcz15_2
     try clear hcz19_0
     try clear hfz15_0
     try clear hfz15_1
     try clear hfz15_2
     try clear hfz19_0
     try clear p2
     obtain ⟨kq, x13_19, x246000_19, x246001_19, x246002_19, rfl, HA, HJ19, BK236, BK245, HB⟩ := hcut
     cases kq with
     | zero => exact absurd HA.out (by simp [frac_way_part_frac_Ceil.j1])
     | succ kj19 =>
      have H := HA.out; clear HA; simp only [frac_way_part_frac_Ceil.j1] at H; replace H := Option.bind_eq_some_iff.mp H; obtain ⟨t254, A300, H⟩ := H; (try dsimp only at H); have A30 := Aside0.mk A300; clear A300
      by_cases c31 : x13_19 = 0
      ·rw [if_pos c31] at H
       have c31b0 : (x13_19 == 0) = true := beq_iff_eq.mpr c31; have c31b1 : (x13_19 != 0) = false := bne_eq_false_iff_eq.mpr c31; clear c31; replace H := Option.bind_eq_some_iff.mp H; obtain ⟨⟨t255, t256, t257⟩, A320, H⟩ := H; replace H : (if (!(x246000_19 == t255) || (!(x246001_19 == t256) || (!(x246002_19 == t257)))) = true then (some (0, 10)) else (some (t254, 0))) = some (r1, r2) := H; have A32 := Aside0.mk A320; clear A320
       by_cases c33 : (!(x246000_19 == t255) || (!(x246001_19 == t256) || (!(x246002_19 == t257)))) = true
       ·rw [if_pos c33] at H
        have c33b0 : (!(x246000_19 == t255) || (!(x246001_19 == t256) || (!(x246002_19 == t257)))) = true := c33; clear c33; simp only [Option.some.injEq, Prod.mk.injEq] at H; obtain ⟨rfl, rfl⟩ := H; have hnb34 := NB245_236.out; have hnc34 := NB236_245.out; have hcz35_0 : wc.cell? ⟨gb245, 0, none⟩ = some (.bool x246000_19) := (blk_cell BK245.out 0).trans rfl; have hcz35_1 : wc.cell? ⟨gb245, 1, none⟩ = some (.int .u64 x246001_19) := (blk_cell BK245.out 1).trans rfl; have hcz35_2 : wc.cell? ⟨gb245, 2, none⟩ = some (.int .u64 x246002_19) := (blk_cell BK245.out 2).trans rfl; have hfz35_0 := blk_frozen BK245.out 0; have hfz35_1 := blk_frozen BK245.out 1; have hfz35_2 := blk_frozen BK245.out 2
        try go_wp2_with (first | ((with_reducible refine gate_callee (f := 52) rfl ?_); refine goesLA_ (some 44) rfl rfl Try.func52 rfl #[.agg #[.bool x246000_19, .int .u64 x246001_19, .int .u64 x246002_19]] rfl ?_; (with_reducible refine (big_IntS.calls x246000_19 x246001_19 x246002_19 t254 _ A30.out).mono ?_); rintro e w36 ⟨rfl, hb⟩; refine ⟨_, rfl, ?_⟩; replace BK236 := bdZ BK236 hb; replace BK245 := bdZ BK245 hb; replace HB := stA hb; clear hb))
        replace BK236 := Aside0.mk (blk_drew BK236.out); replace BK245 := Aside0.mk (blk_drew BK245.out); replace HB := Aside0.mk (below_drew1 HB.out); refine start_ (n := 8) (S := fun w' => w'.cell? ⟨gb245, 0, none⟩ = some (.bool x246000_19) ∧ w'.cell? ⟨gb245, 1, none⟩ = some (.int .u64 x246001_19) ∧ w'.cell? ⟨gb245, 2, none⟩ = some (.int .u64 x246002_19)) (ds := []) #[N,N,N,N,N,N,N,N] (by kernel_rfl) rfl rfl ⟨(blk_cell BK245.out 0).trans rfl, (blk_cell BK245.out 1).trans rfl, (blk_cell BK245.out 2).trans rfl⟩ (fun hHeld => ?_); refine with_tabW frac_way_part_frac_Ceil.tab8 frac_way_part_frac_Ceil.bits8 (fun HT_ HW_ => ?_)
        generalize w36.drew = w37 at BK236 BK245 HB hHeld ⊢
        refine pureA_ (i := 0) (N := some 45) #[Y,N,N,N,N,N,N,N] rfl rfl (any_of HT_.out (by kernel_rfl)) ?_
        refine pureA_ (i := 1) (N := some 46) #[Y,Y,N,N,N,N,N,N] rfl rfl (any_of HT_.out (by kernel_rfl)) ?_
        refine pureA_ (i := 2) (N := some 47) #[Y,Y,Y,N,N,N,N,N] rfl rfl (any_of HT_.out (by kernel_rfl)) ?_
        refine pureA_ (i := 4) (N := some 49) #[Y,Y,Y,N,Y,N,N,N] rfl rfl (any_of HT_.out (by kernel_rfl)) ?_
        refine take_ (i := 3) (N := some 48) (v := ?_) (a' := ?_) #[Y,Y,Y,Y,Y,N,N,N] rfl rfl (take_ofW HT_.out HW_.out (by kernel_rfl)) (fun _ _ _ h => h) (Or.inl ⟨by rfl, ?_⟩) hHeld ?_ ?_; rotate_left
        ·rintro w' ⟨s0, s1, s2⟩; go_simp
         with_reducible rfl
        rotate_left
        ·simp only [Act.put, sA, sB, sC, i64_w, i32_w]
         rfl
        refine one_ (i := 5) (N := some 50) #[Y,Y,Y,Y,Y,Y,N,N] rfl rfl (one_of HT_.out (by kernel_rfl)) (by decide) (fun K hK => ?_); refine goesA_ Try.func51 rfl #[.int .i64 t254] (by rfl) rfl rfl ?_
        with_reducible refine (big_OfS.calls t254 t255 t256 t257 _ A32.out).mono ?_
        rintro e w38 ⟨rfl, hb⟩; refine ⟨_, rfl, ?_⟩; replace BK236 := bbZ BK236 hb; replace BK245 := bbZ BK245 hb; replace HB := Aside0.mk (below_step HB.out hb); clear hb; refine hK.out _ _ ⟨(blk_cell BK245.out 0).trans rfl, (blk_cell BK245.out 1).trans rfl, (blk_cell BK245.out 2).trans rfl⟩ (fun hHeld => ?_); clear hK K; refine normA_ (some 50) ?_
        refine pureA_ (i := 6) (N := some 51) #[Y,Y,Y,Y,Y,Y,Y,N] rfl rfl (any_of HT_.out (by kernel_rfl)) ?_
        refine pureA_ (i := 7) (N := some 52) #[Y,Y,Y,Y,Y,Y,Y,Y] rfl rfl (any_of HT_.out (by kernel_rfl)) ?_
        refine done_ (done_of HT_.out (by kernel_rfl)) ?_
        try go_wp2
        go_ret2
        exact ⟨by first | rfl | (simp [errW_none, errW_some] <;> rfl) | (simp [*, errW_none, errW_some] <;> rfl), by repeat (first | (with_reducible first | exact HB.out | apply below_alloc | apply pw_below_drewN | apply below_drew1 | refine below_set ?_ (Aside0.out (by assumption))) | exact HB.out)⟩
       ·rw [if_neg c33] at H
        have c33b0 : (!(x246000_19 == t255) || (!(x246001_19 == t256) || (!(x246002_19 == t257)))) = false := by simpa using c33
        clear c33; simp only [Option.some.injEq, Prod.mk.injEq] at H; obtain ⟨rfl, rfl⟩ := H; have hnb39 := NB245_236.out; have hnc39 := NB236_245.out; have hcz40_0 : wc.cell? ⟨gb245, 0, none⟩ = some (.bool x246000_19) := (blk_cell BK245.out 0).trans rfl; have hcz40_1 : wc.cell? ⟨gb245, 1, none⟩ = some (.int .u64 x246001_19) := (blk_cell BK245.out 1).trans rfl; have hcz40_2 : wc.cell? ⟨gb245, 2, none⟩ = some (.int .u64 x246002_19) := (blk_cell BK245.out 2).trans rfl; have hfz40_0 := blk_frozen BK245.out 0; have hfz40_1 := blk_frozen BK245.out 1; have hfz40_2 := blk_frozen BK245.out 2
        try go_wp2_with (first | ((with_reducible refine gate_callee (f := 52) rfl ?_); refine goesLA_ (some 44) rfl rfl Try.func52 rfl #[.agg #[.bool x246000_19, .int .u64 x246001_19, .int .u64 x246002_19]] rfl ?_; (with_reducible refine (big_IntS.calls x246000_19 x246001_19 x246002_19 t254 _ A30.out).mono ?_); rintro e w41 ⟨rfl, hb⟩; refine ⟨_, rfl, ?_⟩; replace BK236 := bdZ BK236 hb; replace BK245 := bdZ BK245 hb; replace HB := stA hb; clear hb))
        replace BK236 := Aside0.mk (blk_drew BK236.out); replace BK245 := Aside0.mk (blk_drew BK245.out); replace HB := Aside0.mk (below_drew1 HB.out); refine start_ (n := 8) (S := fun w' => w'.cell? ⟨gb245, 0, none⟩ = some (.bool x246000_19) ∧ w'.cell? ⟨gb245, 1, none⟩ = some (.int .u64 x246001_19) ∧ w'.cell? ⟨gb245, 2, none⟩ = some (.int .u64 x246002_19)) (ds := []) #[N,N,N,N,N,N,N,N] (by kernel_rfl) rfl rfl ⟨(blk_cell BK245.out 0).trans rfl, (blk_cell BK245.out 1).trans rfl, (blk_cell BK245.out 2).trans rfl⟩ (fun hHeld => ?_); refine with_tabW frac_way_part_frac_Ceil.tab8 frac_way_part_frac_Ceil.bits8 (fun HT_ HW_ => ?_)
        generalize w41.drew = w42 at BK236 BK245 HB hHeld ⊢
        refine pureA_ (i := 0) (N := some 45) #[Y,N,N,N,N,N,N,N] rfl rfl (any_of HT_.out (by kernel_rfl)) ?_
        refine pureA_ (i := 1) (N := some 46) #[Y,Y,N,N,N,N,N,N] rfl rfl (any_of HT_.out (by kernel_rfl)) ?_
        refine pureA_ (i := 2) (N := some 47) #[Y,Y,Y,N,N,N,N,N] rfl rfl (any_of HT_.out (by kernel_rfl)) ?_
        refine pureA_ (i := 4) (N := some 49) #[Y,Y,Y,N,Y,N,N,N] rfl rfl (any_of HT_.out (by kernel_rfl)) ?_
        refine take_ (i := 3) (N := some 48) (v := ?_) (a' := ?_) #[Y,Y,Y,Y,Y,N,N,N] rfl rfl (take_ofW HT_.out HW_.out (by kernel_rfl)) (fun _ _ _ h => h) (Or.inl ⟨by rfl, ?_⟩) hHeld ?_ ?_; rotate_left
        ·rintro w' ⟨s0, s1, s2⟩; go_simp
         with_reducible rfl
        rotate_left
        ·simp only [Act.put, sA, sB, sC, i64_w, i32_w]
         rfl
        refine one_ (i := 5) (N := some 50) #[Y,Y,Y,Y,Y,Y,N,N] rfl rfl (one_of HT_.out (by kernel_rfl)) (by decide) (fun K hK => ?_); refine goesA_ Try.func51 rfl #[.int .i64 t254] (by rfl) rfl rfl ?_
        with_reducible refine (big_OfS.calls t254 t255 t256 t257 _ A32.out).mono ?_
        rintro e w43 ⟨rfl, hb⟩; refine ⟨_, rfl, ?_⟩; replace BK236 := bbZ BK236 hb; replace BK245 := bbZ BK245 hb; replace HB := Aside0.mk (below_step HB.out hb); clear hb; refine hK.out _ _ ⟨(blk_cell BK245.out 0).trans rfl, (blk_cell BK245.out 1).trans rfl, (blk_cell BK245.out 2).trans rfl⟩ (fun hHeld => ?_); clear hK K; refine normA_ (some 50) ?_
        refine pureA_ (i := 6) (N := some 51) #[Y,Y,Y,Y,Y,Y,Y,N] rfl rfl (any_of HT_.out (by kernel_rfl)) ?_
        refine pureA_ (i := 7) (N := some 52) #[Y,Y,Y,Y,Y,Y,Y,Y] rfl rfl (any_of HT_.out (by kernel_rfl)) ?_
        refine done_ (done_of HT_.out (by kernel_rfl)) ?_
        try go_wp2
        go_ret2
        exact ⟨by first | rfl | (simp [errW_none, errW_some] <;> rfl) | (simp [*, errW_none, errW_some] <;> rfl), by repeat (first | (with_reducible first | exact HB.out | apply below_alloc | apply pw_below_drewN | apply below_drew1 | refine below_set ?_ (Aside0.out (by assumption))) | exact HB.out)⟩
      ·rw [if_neg c31] at H
       have c31b0 : (x13_19 == 0) = false := beq_eq_false_iff_ne.mpr c31; have c31b1 : (x13_19 != 0) = true := bne_iff_ne.mpr c31; simp only [Option.some.injEq, Prod.mk.injEq] at H; obtain ⟨rfl, rfl⟩ := H; have hnb44 := NB245_236.out; have hnc44 := NB236_245.out; have hcz45_0 : wc.cell? ⟨gb245, 0, none⟩ = some (.bool x246000_19) := (blk_cell BK245.out 0).trans rfl; have hcz45_1 : wc.cell? ⟨gb245, 1, none⟩ = some (.int .u64 x246001_19) := (blk_cell BK245.out 1).trans rfl; have hcz45_2 : wc.cell? ⟨gb245, 2, none⟩ = some (.int .u64 x246002_19) := (blk_cell BK245.out 2).trans rfl; have hfz45_0 := blk_frozen BK245.out 0; have hfz45_1 := blk_frozen BK245.out 1; have hfz45_2 := blk_frozen BK245.out 2
       try go_wp2_with (first | ((with_reducible refine gate_callee (f := 52) rfl ?_); refine goesLA_ (some 44) rfl rfl Try.func52 rfl #[.agg #[.bool x246000_19, .int .u64 x246001_19, .int .u64 x246002_19]] rfl ?_; (with_reducible refine (big_IntS.calls x246000_19 x246001_19 x246002_19 t254 _ A30.out).mono ?_); rintro e w46 ⟨rfl, hb⟩; refine ⟨_, rfl, ?_⟩; replace BK236 := bdZ BK236 hb; replace BK245 := bdZ BK245 hb; replace HB := stA hb; clear hb))
       replace BK236 := Aside0.mk (blk_drew BK236.out); replace BK245 := Aside0.mk (blk_drew BK245.out); replace HB := Aside0.mk (below_drew1 HB.out); refine start_ (n := 8) (S := fun w' => True) (ds := []) #[N,N,N,N,N,N,N,N] (by kernel_rfl) rfl rfl trivial (fun hHeld => ?_); refine with_tabW frac_way_part_frac_Ceil.tab8 frac_way_part_frac_Ceil.bits8 (fun HT_ HW_ => ?_)
       generalize w46.drew = w47 at BK236 BK245 HB hHeld ⊢
       refine pureA_ (i := 0) (N := some 45) #[Y,N,N,N,N,N,N,N] rfl rfl (any_of HT_.out (by kernel_rfl)) ?_
       refine pureA_ (i := 1) (N := some 46) #[Y,Y,N,N,N,N,N,N] rfl rfl (any_of HT_.out (by kernel_rfl)) ?_
       refine pureA_ (i := 2) (N := some 47) #[Y,Y,Y,N,N,N,N,N] rfl rfl (any_of HT_.out (by kernel_rfl)) ?_
       refine pure_ (i := 3) (N := some 48) (v := undef) (a' := ?_) #[Y,Y,Y,Y,N,N,N,N] rfl rfl (any_of HT_.out (by kernel_rfl)) (fun _ _ _ h => h) (Or.inr ⟨by rfl, rfl⟩) ?_ ?_; rotate_left
       ·simp only [Act.put, sA, sB, sC, i64_w, i32_w]
        rfl
       refine pure_ (i := 4) (N := some 49) (v := undef) (a' := ?_) #[Y,Y,Y,Y,Y,N,N,N] rfl rfl (any_of HT_.out (by kernel_rfl)) (fun _ _ _ h => h) (Or.inr ⟨by rfl, rfl⟩) ?_ ?_; rotate_left
       ·simp only [Act.put, sA, sB, sC, i64_w, i32_w]
        rfl
       refine pure_ (i := 5) (N := some 50) (v := undef) (a' := ?_) #[Y,Y,Y,Y,Y,Y,N,N] rfl rfl (any_of HT_.out (by kernel_rfl)) (fun _ _ _ h => h) (Or.inr ⟨by rfl, rfl⟩) ?_ ?_; rotate_left
       ·simp only [Act.put, sA, sB, sC, i64_w, i32_w]
        rfl
       refine pure_ (i := 6) (N := some 51) (v := undef) (a' := ?_) #[Y,Y,Y,Y,Y,Y,Y,N] rfl rfl (any_of HT_.out (by kernel_rfl)) (fun _ _ _ h => h) (Or.inr ⟨by rfl, rfl⟩) ?_ ?_; rotate_left
       ·simp only [Act.put, sA, sB, sC, i64_w, i32_w]
        rfl
       refine pureA_ (i := 7) (N := some 52) #[Y,Y,Y,Y,Y,Y,Y,Y] rfl rfl (any_of HT_.out (by kernel_rfl)) ?_
       refine done_ (done_of HT_.out (by kernel_rfl)) ?_
       try go_wp2
       go_ret2
       exact ⟨by first | rfl | (simp [errW_none, errW_some] <;> rfl) | (simp [*, errW_none, errW_some] <;> rfl), by repeat (first | (with_reducible first | exact HB.out | apply below_alloc | apply pw_below_drewN | apply below_drew1 | refine below_set ?_ (Aside0.out (by assumption))) | exact HB.out)⟩

/-! ### frac_Ceil: function 32 -/
noncomputable def frac_Ceil.f (k : Nat) (a0 : Int) (a1 : Int) (a2 : Int) : Option (Int × Int) := (frac_way_part_frac_Ceil.f k () a0 a1 a2).bind fun bt258 => (some (bt258.1, bt258.2))
theorem frac_Ceil.mono : ∀ a0 a1 a2 k, LeO (frac_Ceil.f k a0 a1 a2) (frac_Ceil.f (k + 1) a0 a1 a2) := by
 intro a0 a1 a2 k
 unfold frac_Ceil.f
 repeat' first
   | (with_reducible exact frac_way_part_frac_Ceil.mono _ _ _ _ _)
   | (with_reducible exact LeO.refl _)
   | (with_reducible exact LeO.none _)
   | (with_reducible refine LeO.ite ?_ ?_)
   | (with_reducible refine LeO.bind ?_ (fun _ => ?_))
   | exact frac_way_part_frac_Ceil.mono _ _ _ _ _
   | exact LeO.none _
   | refine LeO.ite ?_ ?_
   | refine LeO.bind ?_ (fun _ => ?_)
set_option maxHeartbeats 8000000 in
set_option maxRecDepth 100000 in
theorem frac_Ceil.calls (k : Nat) (a0 : Int) (a1 : Int) (a2 : Int) (r1 : Int) (r2 : Int) (w : World) (h : frac_Ceil.f k a0 a1 a2 = some (r1, r2)) :
  Calls Try.prog 32 #[.int .i64 a0, .int .i64 a1, .int .i64 a2] w fun e w' => e = .returned (.tuple #[.int .i64 r1, .int .i64 r2]) ∧ Below w.heap.size w w' := by
 have hu55 := Try.underlying55; have HB := Aside0.mk (Below.refl w.heap.size w); have H : ((frac_way_part_frac_Ceil.f k () a0 a1 a2).bind fun bt258 => (some (bt258.1, bt258.2))) = some (r1, r2) := h; clear h; replace H := Option.bind_eq_some_iff.mp H; obtain ⟨⟨t258, t259⟩, A40, H⟩ := H; replace H : (some (t258, t259)) = some (r1, r2) := H; have A4 := Aside0.mk A40; clear A40; simp only [Option.some.injEq, Prod.mk.injEq] at H; obtain ⟨rfl, rfl⟩ := H
 go_enter Try.func32, Try.ntmps32
 go_wp2_with (first | ((with_reducible refine gate_callee (f := 46) rfl ?_); refine goesLA_ (some 12) rfl rfl Try.func46 rfl #[.agg #[.func (.func 45) #[] #[]], .int .i64 a0, .int .i64 a1, .int .i64 a2] rfl ?_; (with_reducible refine (frac_way_part_frac_Ceil.calls k () a0 a1 a2 t258 t259 _ A4.out).mono ?_); rintro e w5 ⟨rfl, hb⟩; refine ⟨_, rfl, ?_⟩; replace HB := stA hb; clear hb))
 go_ret2
 exact ⟨by first | rfl | (simp [errW_none, errW_some] <;> rfl) | (simp [*, errW_none, errW_some] <;> rfl), by repeat (first | (with_reducible first | exact HB.out | apply below_alloc | apply pw_below_drewN | apply below_drew1) | exact HB.out)⟩

/-! ### frac_CeilS: a part of a product, from above: pure, behind function 32 -/
noncomputable def frac_CeilS.f (a b c : Int) : Option (Int × Int) := Go.Proofs.Ytidpdaiolkcgnaa.Sp.need (Go.Proofs.Ytidpdaiolkcgnaa.Sp.I a ∧ Go.Proofs.Ytidpdaiolkcgnaa.Sp.I b ∧ Go.Proofs.Ytidpdaiolkcgnaa.Sp.I c) (Go.Proofs.Ytidpdaiolkcgnaa.Sp.ceilQ a b c)
section FracCeil
open Go.Proofs.Ytidpdaiolkcgnaa.Sp
theorem frac_way_part_frac_Ceil.j1_eq {q : Int} (h : B q) : frac_way_part_frac_Ceil.j1 1 0 (encN q) (encH q) (encL q) = fit q := by
 simp only [frac_way_part_frac_Ceil.j1]
 rw [big_IntS.enc h]
 simp only [Option.bind_some, if_true]
 rw [big_OfS.eq (near_I _)]
 simp only [Option.bind_some]
 rw [enc_bne]
 unfold fit
 by_cases hi : I q
 ·rw [near_in hi, if_pos hi]; simp
 ·rw [if_neg hi, if_pos]
  have : ¬ q = near q := fun e => hi (e ▸ near_I q)
  simp [this]
theorem frac_way_part_frac_Ceil.j0_eq {q : Int} (h : -85070591730234615865843651857942052864 ≤ q ∧ q ≤ 85070591730234615865843651857942052864) (up : Bool) : frac_way_part_frac_Ceil.j0 2 0 up (encN q) (encH q) (encL q) = fit (if up = true then q + 1 else q) := by
 simp only [frac_way_part_frac_Ceil.j0]
 cases up with
 | false =>
  simp only [Bool.false_eq_true, if_false]; exact frac_way_part_frac_Ceil.j1_eq (by omega)
 | true =>
  simp only [if_true]
  rw [big_OfS.eq (by omega)]
  simp only [Option.bind_some]
  rw [big_AddS.enc (by omega) (by omega), held_in (by omega)]
  simp only [Option.bind_some]; exact frac_way_part_frac_Ceil.j1_eq (by omega)
theorem frac_Ceil.main {a b c : Int} (h1 : I a) (h2 : I b) (h3 : I c) : frac_Ceil.f 2 a b c = ceilQ a b c := by
 unfold frac_Ceil.f frac_way_part_frac_Ceil.f
 by_cases hc : c < 1
 ·rw [if_pos hc]; unfold ceilQ; rw [if_pos hc]; rfl
 ·have hp : 0 < c := by omega
  have hm := mulI h1 h2; have r0 := Int.emod_nonneg (a * b) (show c ≠ 0 by omega); have r1 := Int.emod_lt_of_pos (a * b) hp; have hq := quoI hm hp
  rw [if_neg hc, big_MulS.eq h1 h2, u64w_in (x := c) (by omega)]
  simp only [Option.bind_some]
  rw [big_DivS.enc (by omega) (by omega), quo_pos (by omega)]
  simp only [Option.bind_some, if_true, frac_Ceil_1.f]
  rw [show ∀ x : Option (Int × Int), (x.bind fun bt => some (bt.1, bt.2)) = x from fun x => by cases x <;> rfl]
  rw [frac_way_part_frac_Ceil.j0_eq hq (decide _)]
  unfold ceilQ; rw [if_neg hc]
  by_cases hz : a * b % c = 0
  ·rw [hz, neg_div hp hz]; simp
  ·rw [neg_div' hp hz, if_pos (decide_eq_true (by omega))]; congr 1; omega
theorem frac_CeilS.eq {a b c : Int} (h1 : I a) (h2 : I b) (h3 : I c) : frac_CeilS.f a b c = ceilQ a b c := need_pos ⟨h1, h2, h3⟩
end FracCeil
theorem frac_CeilS.calls (a0 a1 a2 r1 r2 : Int) (w : World) (h : frac_CeilS.f a0 a1 a2 = some (r1, r2)) :
  Calls Try.prog 32 #[.int .i64 a0, .int .i64 a1, .int .i64 a2] w fun e w' => e = .returned (.tuple #[.int .i64 r1, .int .i64 r2]) ∧ Below w.heap.size w w' := by
 obtain ⟨hc, h⟩ := Go.Proofs.Ytidpdaiolkcgnaa.Sp.need_some h; obtain ⟨h1, h2, h3⟩ := hc; exact frac_Ceil.calls 2 a0 a1 a2 r1 r2 w (by rw [frac_Ceil.main h1 h2 h3]; exact h)

end Go.Proofs.Ytidpdaiolkcgnaa.Px
