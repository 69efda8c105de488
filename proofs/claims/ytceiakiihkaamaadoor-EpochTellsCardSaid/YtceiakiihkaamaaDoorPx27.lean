/- Printed by px.py, over the kit's print. Conditions: none beside the theorems' own. -/
import Derived.Test.YtceiakiihkaamaaDoorPx0
import Derived.Test.YtceiakiihkaamaaDoorPx1
import Derived.Test.YtceiakiihkaamaaDoorPx2
import Derived.Test.YtceiakiihkaamaaDoorPx7
import Derived.Test.YtceiakiihkaamaaDoorPx15
import Derived.Test.YtceiakiihkaamaaDoorPx17
import Derived.Test.YtceiakiihkaamaaDoorPx23
import Derived.Test.YtceiakiihkaamaaDoorPx24
import Derived.Test.YtceiakiihkaamaaDoorPx26
import Derived.Test.YtceiakiihkaamaaDoorSpec
namespace Go.Proofs.YtceiakiihkaamaaDoor.Px
open Go.RowKit Go.Proofs.YtceiakiihkaamaaDoorW.PrintWords Go.Proofs.YtceiakiihkaamaaDoorW.PrintLast Go.Proofs.YtceiakiihkaamaaDoorW.PrintMore
attribute [local go_sem] max2_int min2_int max_two min_two max_three min_three max_four min_four
set_option linter.unusedVariables false
set_option linter.unusedSimpArgs false

attribute [local go_sem high] eqA23 eqA35
-- NOT PRINTED: function 54 (frac_way_part)

/-! ### frac_way_part_frac_Floor: function 54 -/
mutual
noncomputable def frac_way_part_frac_Floor.j0 : Nat → Int → Bool → Bool → Int → Int → Option (Int × Int)
 | 0, _, _, _, _, _ => none
 | k + 1, x13, x36, x261000, x261001, x261002 => if x36 = true then ((big_OfS.f 1).bind fun bt262 => ((big_AddS.f x261000 x261001 x261002 bt262.1 bt262.2.1 bt262.2.2).bind fun bt265 => (frac_way_part_frac_Floor.j1 k bt265.2.2.2 bt265.1 bt265.2.1 bt265.2.2.1))) else (frac_way_part_frac_Floor.j1 k x13 x261000 x261001 x261002)
noncomputable def frac_way_part_frac_Floor.j1 : Nat → Int → Bool → Int → Int → Option (Int × Int)
 | 0, _, _, _, _ => none
 | k + 1, x13, x261000, x261001, x261002 => (big_IntS.f x261000 x261001 x261002).bind fun t269 => (if x13 = 0 then ((big_OfS.f t269).bind fun bt270 => (if (!(x261000 == bt270.1) || (!(x261001 == bt270.2.1) || (!(x261002 == bt270.2.2)))) = true then (some (0, 10)) else (some (t269, 0)))) else (some (0, 10)))
end
noncomputable def frac_way_part_frac_Floor.f (k : Nat) (a0_0 : Unit) (a1 : Int) (a2 : Int) (a3 : Int) : Option (Int × Int) := if a3 < 1 then (some (0, 20)) else ((big_MulS.f a1 a2).bind fun bt252 => ((big_DivS.f bt252.1 bt252.2.1 bt252.2.2 (IntKind.u64.wrap (a3))).bind fun bt255 => (if bt255.2.2.2.2 = 0 then ((frac_Floor_1.f bt255.2.2.2.1 (IntKind.u64.wrap (a3))).bind fun t261 => (frac_way_part_frac_Floor.j0 k bt255.2.2.2.2 t261 bt255.1 bt255.2.1 bt255.2.2.1)) else (frac_way_part_frac_Floor.j0 k bt255.2.2.2.2 false bt255.1 bt255.2.1 bt255.2.2.1))))
theorem frac_way_part_frac_Floor.mono_l : ∀ k, (∀ y0 y1 y2 y3 y4, LeO (frac_way_part_frac_Floor.j0 k y0 y1 y2 y3 y4) (frac_way_part_frac_Floor.j0 (k + 1) y0 y1 y2 y3 y4)) ∧ (∀ y0 y1 y2 y3, LeO (frac_way_part_frac_Floor.j1 k y0 y1 y2 y3) (frac_way_part_frac_Floor.j1 (k + 1) y0 y1 y2 y3))
 | 0 => ⟨fun _ _ _ _ _ r h => by simp [frac_way_part_frac_Floor.j0] at h, fun _ _ _ _ r h => by simp [frac_way_part_frac_Floor.j1] at h⟩
 | k + 1 => by
  obtain ⟨ih0, ih1⟩ := frac_way_part_frac_Floor.mono_l k; refine ⟨?_, ?_⟩
  ·intro y0 y1 y2 y3 y4
   unfold frac_way_part_frac_Floor.j0
   repeat' first
   | (with_reducible exact ih0 _ _ _ _ _)
   | (with_reducible exact ih1 _ _ _ _)
   | (with_reducible exact LeO.refl _)
   | (with_reducible exact LeO.none _)
   | (with_reducible refine LeO.ite ?_ ?_)
   | (with_reducible refine LeO.bind ?_ (fun _ => ?_))
   | exact ih0 _ _ _ _ _
   | exact ih1 _ _ _ _
   | exact LeO.none _
   | refine LeO.ite ?_ ?_
   | refine LeO.bind ?_ (fun _ => ?_)
  ·intro y0 y1 y2 y3
   unfold frac_way_part_frac_Floor.j1
   repeat' first
   | (with_reducible exact ih0 _ _ _ _ _)
   | (with_reducible exact ih1 _ _ _ _)
   | (with_reducible exact LeO.refl _)
   | (with_reducible exact LeO.none _)
   | (with_reducible refine LeO.ite ?_ ?_)
   | (with_reducible refine LeO.bind ?_ (fun _ => ?_))
   | exact ih0 _ _ _ _ _
   | exact ih1 _ _ _ _
   | exact LeO.none _
   | refine LeO.ite ?_ ?_
   | refine LeO.bind ?_ (fun _ => ?_)
theorem frac_way_part_frac_Floor.mono : ∀ a0 a1 a2 a3 k, LeO (frac_way_part_frac_Floor.f k a0 a1 a2 a3) (frac_way_part_frac_Floor.f (k + 1) a0 a1 a2 a3) := by
 intro a0 a1 a2 a3 k; obtain ⟨ih0, ih1⟩ := frac_way_part_frac_Floor.mono_l k
 unfold frac_way_part_frac_Floor.f
 repeat' first
   | (with_reducible exact ih0 _ _ _ _ _)
   | (with_reducible exact ih1 _ _ _ _)
   | (with_reducible exact LeO.refl _)
   | (with_reducible exact LeO.none _)
   | (with_reducible refine LeO.ite ?_ ?_)
   | (with_reducible refine LeO.bind ?_ (fun _ => ?_))
   | exact ih0 _ _ _ _ _
   | exact ih1 _ _ _ _
   | exact LeO.none _
   | refine LeO.ite ?_ ?_
   | refine LeO.bind ?_ (fun _ => ?_)
def frac_way_part_frac_Floor.T6 : Bool × List (List Nat × List Nat) := (true, [([], []), ([], []), ([0, 1, 1], [0, 1]), ([2], [2]), ([3], [3]), ([3], [3]), ([4, 2, 0, 1, 2, 3, 4], [4]), ([5, 6, 0, 1, 2, 3, 4, 5, 6], [5])])
def frac_way_part_frac_Floor.B6 : List Nat := [0, 0, 3, 7, 15, 15, 31, 127]
theorem frac_way_part_frac_Floor.tab6 : rtab .any (opsOf Tryd.f54 6) = frac_way_part_frac_Floor.T6 := by kernel_rfl
theorem frac_way_part_frac_Floor.bits6 : waitsOk frac_way_part_frac_Floor.T6.2 frac_way_part_frac_Floor.B6 = true := by kernel_rfl
def frac_way_part_frac_Floor.T8 : Bool × List (List Nat × List Nat) := (true, [([], []), ([0], [0]), ([1], [1]), ([2], [2]), ([2], [2]), ([4, 2, 2], [2, 4]), ([3, 5, 2], [2, 3, 5]), ([2, 6], [2, 6])])
def frac_way_part_frac_Floor.B8 : List Nat := [0, 1, 3, 7, 7, 23, 63, 127]
theorem frac_way_part_frac_Floor.tab8 : rtab .any (opsOf Tryd.f54 8) = frac_way_part_frac_Floor.T8 := by kernel_rfl
theorem frac_way_part_frac_Floor.bits8 : waitsOk frac_way_part_frac_Floor.T8.2 frac_way_part_frac_Floor.B8 = true := by kernel_rfl
set_option maxHeartbeats 8000000 in
set_option maxRecDepth 100000 in
theorem frac_way_part_frac_Floor.calls (k : Nat) (a0_0 : Unit) (a1 : Int) (a2 : Int) (a3 : Int) (r1 : Int) (r2 : Int) (w : World) (h : frac_way_part_frac_Floor.f k a0_0 a1 a2 a3 = some (r1, r2)) :
  Calls Tryd.prog 54 #[.agg #[.func (.func 53) #[] #[]], .int .i64 a1, .int .i64 a2, .int .i64 a3] w fun e w' => e = .returned (.tuple #[.int .i64 r1, .int .i64 r2]) ∧ Below w.heap.size w w' := by
 have hu71 := Tryd.underlying71; have hu35 := Tryd.underlying35; have HB := Aside0.mk (Below.refl w.heap.size w); have H : (if a3 < 1 then (some (0, 20)) else ((big_MulS.f a1 a2).bind fun bt252 => ((big_DivS.f bt252.1 bt252.2.1 bt252.2.2 (IntKind.u64.wrap (a3))).bind fun bt255 => (if bt255.2.2.2.2 = 0 then ((frac_Floor_1.f bt255.2.2.2.1 (IntKind.u64.wrap (a3))).bind fun t261 => (frac_way_part_frac_Floor.j0 k bt255.2.2.2.2 t261 bt255.1 bt255.2.1 bt255.2.2.1)) else (frac_way_part_frac_Floor.j0 k bt255.2.2.2.2 false bt255.1 bt255.2.1 bt255.2.2.1))))) = some (r1, r2) := h; clear h
 by_cases c5 : a3 < 1
 ·rw [if_pos c5] at H
  have c5b0 : decide (a3 < 1) = true := decide_eq_true c5; clear c5; simp only [Option.some.injEq, Prod.mk.injEq] at H; obtain ⟨rfl, rfl⟩ := H
  go_enter Tryd.func54, Tryd.ntmps54
  go_wp2_with (first | ((with_reducible refine gate_dst (N := 4) rfl ?_); refine box_event ?hg (N := 4) ?hd (cs := #[.func (.func 53) #[] #[]]) (t := 71) ?hr ?_; (case hd => rfl); (case hg => rfl); (case hr => first | (go_simp; done) | (go_simp; rfl)); intro gb251 hg w6 hbox hb; have BK251 := Aside0.mk (hbox); obtain ⟨GW251, nHB⟩ := geA hg hb; have GE251 := GW251; replace HB := nHB; clear nHB; clear hb hbox hg))
  go_ret2
  exact ⟨by first | rfl | (simp [errW_none, errW_some] <;> rfl) | (simp [*, errW_none, errW_some] <;> rfl), by repeat (first | (with_reducible first | exact HB.out | apply below_alloc | apply pw_below_drewN | apply below_drew1 | refine below_set ?_ GE251.out) | exact HB.out)⟩
 ·rw [if_neg c5] at H
  have c5b0 : decide (a3 < 1) = false := decide_eq_false c5; clear c5; replace H := Option.bind_eq_some_iff.mp H; obtain ⟨⟨t252, t253, t254⟩, A70, H⟩ := H; (try dsimp only at H); have A7 := Aside0.mk A70; clear A70; replace H := Option.bind_eq_some_iff.mp H; obtain ⟨⟨t255, t256, t257, t258, t259⟩, A80, H⟩ := H; (try dsimp only at H); have A8 := Aside0.mk A80; clear A80; have HC9 := Aside0.mk H; clear H
  go_enter Tryd.func54, Tryd.ntmps54
  go_upto_region 5 with (first | ((with_reducible refine gate_dst (N := 4) rfl ?_); refine box_event ?hg (N := 4) ?hd (cs := #[.func (.func 53) #[] #[]]) (t := 71) ?hr ?_; (case hd => rfl); (case hg => rfl); (case hr => first | (go_simp; done) | (go_simp; rfl)); intro gb251 hg w10 hbox hb; have BK251 := Aside0.mk (hbox); obtain ⟨GW251, nHB⟩ := geA hg hb; have GE251 := GW251; replace HB := nHB; clear nHB; clear hb hbox hg) | ((with_reducible refine gate_callee (f := 71) rfl ?_); refine goesLA_ (some 22) rfl rfl Tryd.func71 rfl #[.int .i64 a1, .int .i64 a2] rfl ?_; (with_reducible refine (big_MulS.calls a1 a2 t252 t253 t254 _ A7.out).mono ?_); rintro e w11 ⟨rfl, hb⟩; refine ⟨_, rfl, ?_⟩; replace BK251 := bdZ BK251 hb; replace HB := stA hb; clear hb) | ((with_reducible refine gate_callee (f := 29) rfl ?_); refine goesLA_ (some 24) rfl rfl Tryd.func29 rfl #[.agg #[.bool t252, .int .u64 t253, .int .u64 t254], .int .u64 (IntKind.u64.wrap (a3))] rfl ?_; (with_reducible refine (big_DivS.calls t252 t253 t254 (IntKind.u64.wrap (a3)) t255 t256 t257 t258 t259 _ A8.out).mono ?_); rintro e w12 ⟨rfl, hb⟩; refine ⟨_, rfl, ?_⟩; replace BK251 := bdZ BK251 hb; replace HB := stA hb; clear hb) | ((with_reducible refine gate_dst (N := 11) rfl ?_); refine box_event ?hg (N := 11) ?hd (cs := #[.bool false, .int .u64 0, .int .u64 0]) (t := 35) ?hr ?_; (case hd => rfl); (case hg => rfl); (case hr => first | (go_simp; done) | (go_simp; rfl)); intro gb260 hg w13 hbox hb; have BK260 := Aside0.mk (hbox); obtain ⟨GW260, nHB⟩ := geA hg hb; have GE260 := GW260; obtain ⟨NB251_260, NB260_251, nBK⟩ := nbA BK251 hg hb; replace BK251 := nBK; clear nBK; replace HB := nHB; clear nHB; clear hb hbox hg; have hnb14 := NB260_251.out; have hnc14 := NB251_260.out; have hcz15_0 := czZ BK260 0 (.bool false); have hcz15_1 := czZ BK260 1 (.int .u64 0); have hcz15_2 := czZ BK260 2 (.int .u64 0); have hfz15_0 := blk_frozen BK260.out 0; have hfz15_1 := blk_frozen BK260.out 1; have hfz15_2 := blk_frozen BK260.out 2))
  (try simp only [Act.put, sA, sB, sC])
  go_cut [36] (fun v36 wc => ∃ (kq : Nat) (x36_8 : Bool), v36 = .bool x36_8 ∧ Aside0 (frac_way_part_frac_Floor.j0 kq t259 x36_8 t255 t256 t257 = some (r1, r2)) ∧ Aside0 (kq ≤ k) ∧ Aside0 (wc.heap[gb251]? = some (.cells #[.func (.func 53) #[] #[]] 71 (0, 0))) ∧ Aside0 (wc.heap[gb260]? = some (.cells #[.bool t255, .int .u64 t256, .int .u64 t257] 35 (0, 0))) ∧ Aside0 (Below w.heap.size w wc))
  case first =>
   have H := HC9.out; clear HC9
   by_cases c16 : t259 = 0
   ·rw [if_pos c16] at H
    have c16b0 : (t259 == 0) = true := beq_iff_eq.mpr c16; have c16b1 : (t259 != 0) = false := bne_eq_false_iff_eq.mpr c16; clear c16
    (first | rw [c16b0] | (simp only [i64_w, i32_w]; rw [c16b0]) | skip)
    replace H := Option.bind_eq_some_iff.mp H; obtain ⟨t261, A170, H⟩ := H; replace H : (frac_way_part_frac_Floor.j0 k t259 t261 t255 t256 t257) = some (r1, r2) := H; have A17 := Aside0.mk A170; clear A170; have H' := Aside0.mk H; clear H; have hnb18 := NB251_260.out; have hnc18 := NB260_251.out; have hcz19_0 := czZ BK251 0 (.func (.func 53) #[] #[]); have hfz19_0 := blk_frozen BK251.out 0
    go_wp2_with (first | (go_at_call 53; (with_reducible refine (frac_Floor_1.calls t258 (IntKind.u64.wrap (a3)) t261 _ A17.out).mono ?_); rintro e w' ⟨rfl, ⟨nd, rfl⟩⟩))
    go_meet
    case rel => exact ⟨_, (t261), (by first | rfl | (simp; done) | (simp [*]; done)), H', ⟨by first | omega | exact Nat.le_refl _⟩, ⟨by (with_reducible repeat first | apply blk_drewN | apply blk_drew | apply blk_alloc); refine blk_far ?_ NB251_260.out _; (with_reducible repeat first | apply blk_drewN | apply blk_drew | apply blk_alloc); refine blk_far ?_ NB251_260.out _; (with_reducible repeat first | apply blk_drewN | apply blk_drew | apply blk_alloc); refine blk_far ?_ NB251_260.out _; (with_reducible repeat first | apply blk_drewN | apply blk_drew | apply blk_alloc); exact BK251.out⟩, ⟨by (with_reducible repeat first | apply blk_drewN | apply blk_drew | apply blk_alloc); refine blk_put (cs := #[.bool t255, .int .u64 t256, .int .u64 0]) ?_ 2 _ rfl; (with_reducible repeat first | apply blk_drewN | apply blk_drew | apply blk_alloc); refine blk_put (cs := #[.bool t255, .int .u64 0, .int .u64 0]) ?_ 1 _ rfl; (with_reducible repeat first | apply blk_drewN | apply blk_drew | apply blk_alloc); refine blk_put (cs := #[.bool false, .int .u64 0, .int .u64 0]) ?_ 0 _ rfl; (with_reducible repeat first | apply blk_drewN | apply blk_drew | apply blk_alloc); exact BK260.out⟩, ⟨by repeat (first | (with_reducible first | exact HB.out | apply below_alloc | apply pw_below_drewN | apply below_drew1 | refine below_set ?_ (Aside0.out (by assumption))) | exact HB.out)⟩⟩
   ·rw [if_neg c16] at H
    have c16b0 : (t259 == 0) = false := beq_eq_false_iff_ne.mpr c16; have c16b1 : (t259 != 0) = true := bne_iff_ne.mpr c16
    (first | rw [c16b0] | (simp only [i64_w, i32_w]; rw [c16b0]) | skip)
    have H' := Aside0.mk H; clear H
    go_wp2
    go_meet
    case rel => exact ⟨_, (false), (by first | rfl | (simp; done) | (simp [*]; done)), H', ⟨by first | omega | exact Nat.le_refl _⟩, ⟨by (with_reducible repeat first | apply blk_drewN | apply blk_drew | apply blk_alloc); refine blk_far ?_ NB251_260.out _; (with_reducible repeat first | apply blk_drewN | apply blk_drew | apply blk_alloc); refine blk_far ?_ NB251_260.out _; (with_reducible repeat first | apply blk_drewN | apply blk_drew | apply blk_alloc); refine blk_far ?_ NB251_260.out _; (with_reducible repeat first | apply blk_drewN | apply blk_drew | apply blk_alloc); exact BK251.out⟩, ⟨by (with_reducible repeat first | apply blk_drewN | apply blk_drew | apply blk_alloc); refine blk_put (cs := #[.bool t255, .int .u64 t256, .int .u64 0]) ?_ 2 _ rfl; (with_reducible repeat first | apply blk_drewN | apply blk_drew | apply blk_alloc); refine blk_put (cs := #[.bool t255, .int .u64 0, .int .u64 0]) ?_ 1 _ rfl; (with_reducible repeat first | apply blk_drewN | apply blk_drew | apply blk_alloc); refine blk_put (cs := #[.bool false, .int .u64 0, .int .u64 0]) ?_ 0 _ rfl; (with_reducible repeat first | apply blk_drewN | apply blk_drew | apply blk_alloc); exact BK260.out⟩, ⟨by repeat (first | (with_reducible first | exact HB.out | apply below_alloc | apply pw_below_drewN | apply below_drew1 | refine below_set ?_ (Aside0.out (by assumption))) | exact HB.out)⟩⟩
  case rest =>
   clear HC9
   try clear c1
   try clear c2
   try clear p2
   try clear c5
   try clear c5b0
   try clear c7
   try clear c14
   try clear c16
   try clear c16b0
   try clear c16b1
   try clear c18
   try clear hcz15_0
   try clear hcz15_1
   try clear hcz15_2
   try clear hcz19_0
   try clear hfz15_0
   try clear hfz15_1
   try clear hfz15_2
   try clear hfz19_0
   obtain ⟨kq, x36_8, rfl, HA, HJ8, BK251, BK260, HB⟩ := hcut
   cases kq with
   | zero => exact absurd HA.out (by simp [frac_way_part_frac_Floor.j0])
   | succ kj8 =>
    have H := HA.out; clear HA; simp only [frac_way_part_frac_Floor.j0] at H; have HC20 := Aside0.mk H; clear H
    go_upto_if 36 with (fail)
    go_cut [13] (fun v13 wc => ∃ (kq : Nat) (x13_19 : Int) (x261000_19 : Bool) (x261001_19 : Int) (x261002_19 : Int), v13 = .int .i64 x13_19 ∧ Aside0 (frac_way_part_frac_Floor.j1 kq x13_19 x261000_19 x261001_19 x261002_19 = some (r1, r2)) ∧ Aside0 (kq ≤ kj8) ∧ Aside0 (wc.heap[gb251]? = some (.cells #[.func (.func 53) #[] #[]] 71 (0, 0))) ∧ Aside0 (wc.heap[gb260]? = some (.cells #[.bool x261000_19, .int .u64 x261001_19, .int .u64 x261002_19] 35 (0, 0))) ∧ Aside0 (Below w.heap.size w wc))
    case first =>
     have H := HC20.out; clear HC20
     by_cases c21 : x36_8 = true
     ·subst c21
      have H1 : ((big_OfS.f 1).bind fun bt262 => ((big_AddS.f t255 t256 t257 bt262.1 bt262.2.1 bt262.2.2).bind fun bt265 => (frac_way_part_frac_Floor.j1 kj8 bt265.2.2.2 bt265.1 bt265.2.1 bt265.2.2.1))) = some (r1, r2) := by rw [if_pos rfl] at H; exact H
      clear H; have H := H1; clear H1; replace H := Option.bind_eq_some_iff.mp H; obtain ⟨⟨t262, t263, t264⟩, A220, H⟩ := H; replace H : ((big_AddS.f t255 t256 t257 t262 t263 t264).bind fun bt265 => (frac_way_part_frac_Floor.j1 kj8 bt265.2.2.2 bt265.1 bt265.2.1 bt265.2.2.1)) = some (r1, r2) := H; have A22 := Aside0.mk A220; clear A220; replace H := Option.bind_eq_some_iff.mp H; obtain ⟨⟨t265, t266, t267, t268⟩, A230, H⟩ := H; replace H : (frac_way_part_frac_Floor.j1 kj8 t268 t265 t266 t267) = some (r1, r2) := H; have A23 := Aside0.mk A230; clear A230; have H' := Aside0.mk H; clear H
      try go_wp2
      replace BK251 := Aside0.mk (blk_drew BK251.out); replace BK260 := Aside0.mk (blk_drew BK260.out); replace HB := Aside0.mk (below_drew1 HB.out); refine start_ (n := 8) (S := fun w' => w'.cell? ⟨gb260, 0, none⟩ = some (.bool t255) ∧ w'.cell? ⟨gb260, 1, none⟩ = some (.int .u64 t256) ∧ w'.cell? ⟨gb260, 2, none⟩ = some (.int .u64 t257)) (ds := [6]) #[N,N,N,N,N,N,N,N] (by kernel_rfl) rfl rfl ⟨(blk_cell BK260.out 0).trans rfl, (blk_cell BK260.out 1).trans rfl, (blk_cell BK260.out 2).trans rfl⟩ (fun hHeld => ?_); refine with_tabW frac_way_part_frac_Floor.tab6 frac_way_part_frac_Floor.bits6 (fun HT_ HW_ => ?_)
      generalize wc.drew = w24 at BK251 BK260 HB hHeld ⊢
      refine take_ (i := 0) (N := some 38) (v := ?_) (a' := ?_) #[Y,N,N,N,N,N,N,N] rfl rfl (take_ofW HT_.out HW_.out (by kernel_rfl)) (fun _ _ _ h => h) (Or.inl ⟨by rfl, ?_⟩) hHeld ?_ ?_; rotate_left
      ·rintro w' ⟨s0, s1, s2⟩; go_simp
       with_reducible rfl
      rotate_left
      ·simp only [Act.put, sA, sB, sC, i64_w, i32_w]
       rfl
      refine one_ (i := 1) (N := some 39) #[Y,Y,N,N,N,N,N,N] rfl rfl (one_of HT_.out (by kernel_rfl)) (by decide) (fun K hK => ?_); refine goesA_ Tryd.func23 rfl #[.int .i64 1] (by rfl) rfl rfl ?_
      with_reducible refine (big_OfS.calls 1 t262 t263 t264 _ A22.out).mono ?_
      rintro e w25 ⟨rfl, hb⟩; refine ⟨_, rfl, ?_⟩; replace BK251 := bbZ BK251 hb; replace BK260 := bbZ BK260 hb; replace HB := Aside0.mk (below_step HB.out hb); clear hb; refine hK.out _ _ ⟨(blk_cell BK260.out 0).trans rfl, (blk_cell BK260.out 1).trans rfl, (blk_cell BK260.out 2).trans rfl⟩ (fun hHeld => ?_); clear hK K; refine normA_ (some 39) ?_
      refine one_ (i := 2) (N := some 40) #[Y,Y,Y,N,N,N,N,N] rfl rfl (one_of HT_.out (by kernel_rfl)) (by decide) (fun K hK => ?_); refine goesA_ Tryd.func45 rfl #[.agg #[.bool t255, .int .u64 t256, .int .u64 t257], .agg #[.bool t262, .int .u64 t263, .int .u64 t264]] (by rfl) rfl rfl ?_
      with_reducible refine (big_AddS.calls t255 t256 t257 t262 t263 t264 t265 t266 t267 t268 _ A23.out).mono ?_
      rintro e w26 ⟨rfl, hb⟩; refine ⟨_, rfl, ?_⟩; replace BK251 := bbZ BK251 hb; replace BK260 := bbZ BK260 hb; replace HB := Aside0.mk (below_step HB.out hb); clear hb; refine hK.out _ _ ⟨(blk_cell BK260.out 0).trans rfl, (blk_cell BK260.out 1).trans rfl, (blk_cell BK260.out 2).trans rfl⟩ (fun hHeld => ?_); clear hK K; refine normA_ (some 40) ?_
      refine pureA_ (i := 3) (N := some 37) #[Y,Y,Y,Y,N,N,N,N] rfl rfl (any_of HT_.out (by kernel_rfl)) ?_
      refine pureA_ (i := 4) (N := some 41) #[Y,Y,Y,Y,Y,N,N,N] rfl rfl (any_of HT_.out (by kernel_rfl)) ?_
      refine pureA_ (i := 5) (N := some 42) #[Y,Y,Y,Y,Y,Y,N,N] rfl rfl (any_of HT_.out (by kernel_rfl)) ?_
      refine last_ (i := 6) (N := none) #[Y,Y,Y,Y,Y,Y,Y,N] rfl rfl (one_of HT_.out (by kernel_rfl)) (by decide) (fun K hK => ?_); have hs27 := czZ BK260 0 (.bool t255); have hfs27 := blk_frozen BK260.out 0; have hns27_0 := NB251_260.out; have hms27_0 := NB260_251.out; have hs28 := czZ BK260 1 (.int .u64 t256); have hfs28 := blk_frozen BK260.out 1; have hns28_0 := NB251_260.out; have hms28_0 := NB260_251.out; have hs29 := czZ BK260 2 (.int .u64 t257); have hfs29 := blk_frozen BK260.out 2; have hns29_0 := NB251_260.out; have hms29_0 := NB260_251.out; refine skip_ (w1 := ?_) (by rfl) rfl ?_ ?_; rotate_left
      ·go_simp
       rfl
      refine hK.out _ _ ?_; clear hK K; refine pureA_ (i := 7) (N := some 13) #[Y,Y,Y,Y,Y,Y,Y,Y] rfl rfl (any_of HT_.out (by kernel_rfl)) ?_
      refine done_ (done_of HT_.out (by kernel_rfl)) ?_
      try go_wp2
      go_meet
      case rel => exact ⟨_, (t268), (t265), (t266), (t267), (by first | rfl | (simp; done) | (simp [*]; done)), H', ⟨by have := HJ8.out; first | omega | exact Nat.le_refl _⟩, ⟨by (with_reducible repeat first | apply blk_drewN | apply blk_drew | apply blk_alloc); refine blk_far ?_ NB251_260.out _; (with_reducible repeat first | apply blk_drewN | apply blk_drew | apply blk_alloc); refine blk_far ?_ NB251_260.out _; (with_reducible repeat first | apply blk_drewN | apply blk_drew | apply blk_alloc); refine blk_far ?_ NB251_260.out _; (with_reducible repeat first | apply blk_drewN | apply blk_drew | apply blk_alloc); exact BK251.out⟩, ⟨by (with_reducible repeat first | apply blk_drewN | apply blk_drew | apply blk_alloc); refine blk_put (cs := #[.bool t265, .int .u64 t266, .int .u64 t257]) ?_ 2 _ rfl; (with_reducible repeat first | apply blk_drewN | apply blk_drew | apply blk_alloc); refine blk_put (cs := #[.bool t265, .int .u64 t256, .int .u64 t257]) ?_ 1 _ rfl; (with_reducible repeat first | apply blk_drewN | apply blk_drew | apply blk_alloc); refine blk_put (cs := #[.bool t255, .int .u64 t256, .int .u64 t257]) ?_ 0 _ rfl; (with_reducible repeat first | apply blk_drewN | apply blk_drew | apply blk_alloc); exact BK260.out⟩, ⟨by repeat (first | (with_reducible first | exact HB.out | apply below_alloc | apply pw_below_drewN | apply below_drew1 | refine below_set ?_ (Aside0.out (by assumption))) | exact HB.out)⟩⟩
     ·replace c21 := Bool.eq_false_iff.mpr c21
      subst c21
      have H1 : (frac_way_part_frac_Floor.j1 kj8 t259 t255 t256 t257) = some (r1, r2) := by rw [if_neg (show ¬ (false = true) by decide)] at H; exact H
      clear H; have H := H1; clear H1; have H' := Aside0.mk H; clear H
      go_wp2
      go_meet
      case rel => exact ⟨_, (t259), (t255), (t256), (t257), (by first | rfl | (simp; done) | (simp [*]; done)), H', ⟨by have := HJ8.out; first | omega | exact Nat.le_refl _⟩, ⟨by (with_reducible repeat first | apply blk_drewN | apply blk_drew | apply blk_alloc); exact BK251.out⟩, ⟨by (with_reducible repeat first | apply blk_drewN | apply blk_drew | apply blk_alloc); exact BK260.out⟩, ⟨by repeat (first | (with_reducible first | exact HB.out | apply below_alloc | apply pw_below_drewN | apply below_drew1 | refine below_set ?_ (Aside0.out (by assumption))) | exact HB.out)⟩⟩
    case rest =>
     clear HC20
     try clear c1
     try clear c2
     try clear p2
     try clear c4
     try clear c5
     try clear c5b0
     try clear c7
     try clear c14
     try clear c16
     try clear c16b0
     try clear c16b1
     try clear c18
     try clear c21
     try clear c23
     try clear c29
     try clear hcz15_0
     try clear hcz15_1
     try clear hcz15_2
     try clear hcz19_0
     try clear hfz15_0
     try clear hfz15_1
     try clear hfz15_2
     try clear hfz19_0
     try clear p2
     obtain ⟨kq, x13_19, x261000_19, x261001_19, x261002_19, rfl, HA, HJ19, BK251, BK260, HB⟩ := hcut
     cases kq with
     | zero => exact absurd HA.out (by simp [frac_way_part_frac_Floor.j1])
     | succ kj19 =>
      have H := HA.out; clear HA; simp only [frac_way_part_frac_Floor.j1] at H; replace H := Option.bind_eq_some_iff.mp H; obtain ⟨t269, A300, H⟩ := H; (try dsimp only at H); have A30 := Aside0.mk A300; clear A300
      by_cases c31 : x13_19 = 0
      ·rw [if_pos c31] at H
       have c31b0 : (x13_19 == 0) = true := beq_iff_eq.mpr c31; have c31b1 : (x13_19 != 0) = false := bne_eq_false_iff_eq.mpr c31; clear c31; replace H := Option.bind_eq_some_iff.mp H; obtain ⟨⟨t270, t271, t272⟩, A320, H⟩ := H; replace H : (if (!(x261000_19 == t270) || (!(x261001_19 == t271) || (!(x261002_19 == t272)))) = true then (some (0, 10)) else (some (t269, 0))) = some (r1, r2) := H; have A32 := Aside0.mk A320; clear A320
       by_cases c33 : (!(x261000_19 == t270) || (!(x261001_19 == t271) || (!(x261002_19 == t272)))) = true
       ·rw [if_pos c33] at H
        have c33b0 : (!(x261000_19 == t270) || (!(x261001_19 == t271) || (!(x261002_19 == t272)))) = true := c33; clear c33; simp only [Option.some.injEq, Prod.mk.injEq] at H; obtain ⟨rfl, rfl⟩ := H; have hnb34 := NB260_251.out; have hnc34 := NB251_260.out; have hcz35_0 : wc.cell? ⟨gb260, 0, none⟩ = some (.bool x261000_19) := (blk_cell BK260.out 0).trans rfl; have hcz35_1 : wc.cell? ⟨gb260, 1, none⟩ = some (.int .u64 x261001_19) := (blk_cell BK260.out 1).trans rfl; have hcz35_2 : wc.cell? ⟨gb260, 2, none⟩ = some (.int .u64 x261002_19) := (blk_cell BK260.out 2).trans rfl; have hfz35_0 := blk_frozen BK260.out 0; have hfz35_1 := blk_frozen BK260.out 1; have hfz35_2 := blk_frozen BK260.out 2
        try go_wp2_with (first | ((with_reducible refine gate_callee (f := 72) rfl ?_); refine goesLA_ (some 44) rfl rfl Tryd.func72 rfl #[.agg #[.bool x261000_19, .int .u64 x261001_19, .int .u64 x261002_19]] rfl ?_; (with_reducible refine (big_IntS.calls x261000_19 x261001_19 x261002_19 t269 _ A30.out).mono ?_); rintro e w36 ⟨rfl, hb⟩; refine ⟨_, rfl, ?_⟩; replace BK251 := bdZ BK251 hb; replace BK260 := bdZ BK260 hb; replace HB := stA hb; clear hb))
        replace BK251 := Aside0.mk (blk_drew BK251.out); replace BK260 := Aside0.mk (blk_drew BK260.out); replace HB := Aside0.mk (below_drew1 HB.out); refine start_ (n := 8) (S := fun w' => w'.cell? ⟨gb260, 0, none⟩ = some (.bool x261000_19) ∧ w'.cell? ⟨gb260, 1, none⟩ = some (.int .u64 x261001_19) ∧ w'.cell? ⟨gb260, 2, none⟩ = some (.int .u64 x261002_19)) (ds := []) #[N,N,N,N,N,N,N,N] (by kernel_rfl) rfl rfl ⟨(blk_cell BK260.out 0).trans rfl, (blk_cell BK260.out 1).trans rfl, (blk_cell BK260.out 2).trans rfl⟩ (fun hHeld => ?_); refine with_tabW frac_way_part_frac_Floor.tab8 frac_way_part_frac_Floor.bits8 (fun HT_ HW_ => ?_)
        generalize w36.drew = w37 at BK251 BK260 HB hHeld ⊢
        refine pureA_ (i := 0) (N := some 45) #[Y,N,N,N,N,N,N,N] rfl rfl (any_of HT_.out (by kernel_rfl)) ?_
        refine pureA_ (i := 1) (N := some 46) #[Y,Y,N,N,N,N,N,N] rfl rfl (any_of HT_.out (by kernel_rfl)) ?_
        refine pureA_ (i := 2) (N := some 47) #[Y,Y,Y,N,N,N,N,N] rfl rfl (any_of HT_.out (by kernel_rfl)) ?_
        refine pureA_ (i := 4) (N := some 49) #[Y,Y,Y,N,Y,N,N,N] rfl rfl (any_of HT_.out (by kernel_rfl)) ?_
        refine take_ (i := 3) (N := some 48) (v := ?_) (a' := ?_) #[Y,Y,Y,Y,Y,N,N,N] rfl rfl (take_ofW HT_.out HW_.out (by kernel_rfl)) (fun _ _ _ h => h) (Or.inl ⟨by rfl, ?_⟩) hHeld ?_ ?_; rotate_left
        ·rintro w' ⟨s0, s1, s2⟩; go_simp
         with_reducible rfl
        rotate_left
        ·simp only [Act.put, sA, sB, sC, i64_w, i32_w]
         rfl
        refine one_ (i := 5) (N := some 50) #[Y,Y,Y,Y,Y,Y,N,N] rfl rfl (one_of HT_.out (by kernel_rfl)) (by decide) (fun K hK => ?_); refine goesA_ Tryd.func23 rfl #[.int .i64 t269] (by rfl) rfl rfl ?_
        with_reducible refine (big_OfS.calls t269 t270 t271 t272 _ A32.out).mono ?_
        rintro e w38 ⟨rfl, hb⟩; refine ⟨_, rfl, ?_⟩; replace BK251 := bbZ BK251 hb; replace BK260 := bbZ BK260 hb; replace HB := Aside0.mk (below_step HB.out hb); clear hb; refine hK.out _ _ ⟨(blk_cell BK260.out 0).trans rfl, (blk_cell BK260.out 1).trans rfl, (blk_cell BK260.out 2).trans rfl⟩ (fun hHeld => ?_); clear hK K; refine normA_ (some 50) ?_
        refine pureA_ (i := 6) (N := some 51) #[Y,Y,Y,Y,Y,Y,Y,N] rfl rfl (any_of HT_.out (by kernel_rfl)) ?_
        refine pureA_ (i := 7) (N := some 52) #[Y,Y,Y,Y,Y,Y,Y,Y] rfl rfl (any_of HT_.out (by kernel_rfl)) ?_
        refine done_ (done_of HT_.out (by kernel_rfl)) ?_
        try go_wp2
        go_ret2
        exact ⟨by first | rfl | (simp [errW_none, errW_some] <;> rfl) | (simp [*, errW_none, errW_some] <;> rfl), by repeat (first | (with_reducible first | exact HB.out | apply below_alloc | apply pw_below_drewN | apply below_drew1 | refine below_set ?_ (Aside0.out (by assumption))) | exact HB.out)⟩
       ·rw [if_neg c33] at H
        have c33b0 : (!(x261000_19 == t270) || (!(x261001_19 == t271) || (!(x261002_19 == t272)))) = false := by simpa using c33
        clear c33; simp only [Option.some.injEq, Prod.mk.injEq] at H; obtain ⟨rfl, rfl⟩ := H; have hnb39 := NB260_251.out; have hnc39 := NB251_260.out; have hcz40_0 : wc.cell? ⟨gb260, 0, none⟩ = some (.bool x261000_19) := (blk_cell BK260.out 0).trans rfl; have hcz40_1 : wc.cell? ⟨gb260, 1, none⟩ = some (.int .u64 x261001_19) := (blk_cell BK260.out 1).trans rfl; have hcz40_2 : wc.cell? ⟨gb260, 2, none⟩ = some (.int .u64 x261002_19) := (blk_cell BK260.out 2).trans rfl; have hfz40_0 := blk_frozen BK260.out 0; have hfz40_1 := blk_frozen BK260.out 1; have hfz40_2 := blk_frozen BK260.out 2
        try go_wp2_with (first | ((with_reducible refine gate_callee (f := 72) rfl ?_); refine goesLA_ (some 44) rfl rfl Tryd.func72 rfl #[.agg #[.bool x261000_19, .int .u64 x261001_19, .int .u64 x261002_19]] rfl ?_; (with_reducible refine (big_IntS.calls x261000_19 x261001_19 x261002_19 t269 _ A30.out).mono ?_); rintro e w41 ⟨rfl, hb⟩; refine ⟨_, rfl, ?_⟩; replace BK251 := bdZ BK251 hb; replace BK260 := bdZ BK260 hb; replace HB := stA hb; clear hb))
        replace BK251 := Aside0.mk (blk_drew BK251.out); replace BK260 := Aside0.mk (blk_drew BK260.out); replace HB := Aside0.mk (below_drew1 HB.out); refine start_ (n := 8) (S := fun w' => w'.cell? ⟨gb260, 0, none⟩ = some (.bool x261000_19) ∧ w'.cell? ⟨gb260, 1, none⟩ = some (.int .u64 x261001_19) ∧ w'.cell? ⟨gb260, 2, none⟩ = some (.int .u64 x261002_19)) (ds := []) #[N,N,N,N,N,N,N,N] (by kernel_rfl) rfl rfl ⟨(blk_cell BK260.out 0).trans rfl, (blk_cell BK260.out 1).trans rfl, (blk_cell BK260.out 2).trans rfl⟩ (fun hHeld => ?_); refine with_tabW frac_way_part_frac_Floor.tab8 frac_way_part_frac_Floor.bits8 (fun HT_ HW_ => ?_)
        generalize w41.drew = w42 at BK251 BK260 HB hHeld ⊢
        refine pureA_ (i := 0) (N := some 45) #[Y,N,N,N,N,N,N,N] rfl rfl (any_of HT_.out (by kernel_rfl)) ?_
        refine pureA_ (i := 1) (N := some 46) #[Y,Y,N,N,N,N,N,N] rfl rfl (any_of HT_.out (by kernel_rfl)) ?_
        refine pureA_ (i := 2) (N := some 47) #[Y,Y,Y,N,N,N,N,N] rfl rfl (any_of HT_.out (by kernel_rfl)) ?_
        refine pureA_ (i := 4) (N := some 49) #[Y,Y,Y,N,Y,N,N,N] rfl rfl (any_of HT_.out (by kernel_rfl)) ?_
        refine take_ (i := 3) (N := some 48) (v := ?_) (a' := ?_) #[Y,Y,Y,Y,Y,N,N,N] rfl rfl (take_ofW HT_.out HW_.out (by kernel_rfl)) (fun _ _ _ h => h) (Or.inl ⟨by rfl, ?_⟩) hHeld ?_ ?_; rotate_left
        ·rintro w' ⟨s0, s1, s2⟩; go_simp
         with_reducible rfl
        rotate_left
        ·simp only [Act.put, sA, sB, sC, i64_w, i32_w]
         rfl
        refine one_ (i := 5) (N := some 50) #[Y,Y,Y,Y,Y,Y,N,N] rfl rfl (one_of HT_.out (by kernel_rfl)) (by decide) (fun K hK => ?_); refine goesA_ Tryd.func23 rfl #[.int .i64 t269] (by rfl) rfl rfl ?_
        with_reducible refine (big_OfS.calls t269 t270 t271 t272 _ A32.out).mono ?_
        rintro e w43 ⟨rfl, hb⟩; refine ⟨_, rfl, ?_⟩; replace BK251 := bbZ BK251 hb; replace BK260 := bbZ BK260 hb; replace HB := Aside0.mk (below_step HB.out hb); clear hb; refine hK.out _ _ ⟨(blk_cell BK260.out 0).trans rfl, (blk_cell BK260.out 1).trans rfl, (blk_cell BK260.out 2).trans rfl⟩ (fun hHeld => ?_); clear hK K; refine normA_ (some 50) ?_
        refine pureA_ (i := 6) (N := some 51) #[Y,Y,Y,Y,Y,Y,Y,N] rfl rfl (any_of HT_.out (by kernel_rfl)) ?_
        refine pureA_ (i := 7) (N := some 52) #[Y,Y,Y,Y,Y,Y,Y,Y] rfl rfl (any_of HT_.out (by kernel_rfl)) ?_
        refine done_ (done_of HT_.out (by kernel_rfl)) ?_
        try go_wp2
        go_ret2
        exact ⟨by first | rfl | (simp [errW_none, errW_some] <;> rfl) | (simp [*, errW_none, errW_some] <;> rfl), by repeat (first | (with_reducible first | exact HB.out | apply below_alloc | apply pw_below_drewN | apply below_drew1 | refine below_set ?_ (Aside0.out (by assumption))) | exact HB.out)⟩
      ·rw [if_neg c31] at H
       have c31b0 : (x13_19 == 0) = false := beq_eq_false_iff_ne.mpr c31; have c31b1 : (x13_19 != 0) = true := bne_iff_ne.mpr c31; simp only [Option.some.injEq, Prod.mk.injEq] at H; obtain ⟨rfl, rfl⟩ := H; have hnb44 := NB260_251.out; have hnc44 := NB251_260.out; have hcz45_0 : wc.cell? ⟨gb260, 0, none⟩ = some (.bool x261000_19) := (blk_cell BK260.out 0).trans rfl; have hcz45_1 : wc.cell? ⟨gb260, 1, none⟩ = some (.int .u64 x261001_19) := (blk_cell BK260.out 1).trans rfl; have hcz45_2 : wc.cell? ⟨gb260, 2, none⟩ = some (.int .u64 x261002_19) := (blk_cell BK260.out 2).trans rfl; have hfz45_0 := blk_frozen BK260.out 0; have hfz45_1 := blk_frozen BK260.out 1; have hfz45_2 := blk_frozen BK260.out 2
       try go_wp2_with (first | ((with_reducible refine gate_callee (f := 72) rfl ?_); refine goesLA_ (some 44) rfl rfl Tryd.func72 rfl #[.agg #[.bool x261000_19, .int .u64 x261001_19, .int .u64 x261002_19]] rfl ?_; (with_reducible refine (big_IntS.calls x261000_19 x261001_19 x261002_19 t269 _ A30.out).mono ?_); rintro e w46 ⟨rfl, hb⟩; refine ⟨_, rfl, ?_⟩; replace BK251 := bdZ BK251 hb; replace BK260 := bdZ BK260 hb; replace HB := stA hb; clear hb))
       replace BK251 := Aside0.mk (blk_drew BK251.out); replace BK260 := Aside0.mk (blk_drew BK260.out); replace HB := Aside0.mk (below_drew1 HB.out); refine start_ (n := 8) (S := fun w' => True) (ds := []) #[N,N,N,N,N,N,N,N] (by kernel_rfl) rfl rfl trivial (fun hHeld => ?_); refine with_tabW frac_way_part_frac_Floor.tab8 frac_way_part_frac_Floor.bits8 (fun HT_ HW_ => ?_)
       generalize w46.drew = w47 at BK251 BK260 HB hHeld ⊢
       refine pureA_ (i := 0) (N := some 45) #[Y,N,N,N,N,N,N,N] rfl rfl (any_of HT_.out (by kernel_rfl)) ?_
       refine pureA_ (i := 1) (N := some 46) #[Y,Y,N,N,N,N,N,N] rfl rfl (any_of HT_.out (by kernel_rfl)) ?_
       refine pureA_ (i := 2) (N := some 47) #[Y,Y,Y,N,N,N,N,N] rfl rfl (any_of HT_.out (by kernel_rfl)) ?_
       refine pure_ (i := 3) (N := some 48) (v := undef) (a' := ?_) #[Y,Y,Y,Y,N,N,N,N] rfl rfl (any_of HT_.out (by kernel_rfl)) (fun _ _ _ h => h) (Or.inr ⟨by rfl, rfl⟩) ?_ ?_; rotate_left
       ·simp only [Act.put, sA, sB, sC, i64_w, i32_w]
        rfl
       refine pure_ (i := 4) (N := some 49) (v := undef) (a' := ?_) #[Y,Y,Y,Y,Y,N,N,N] rfl rfl (any_of HT_.out (by kernel_rfl)) (fun _ _ _ h => h) (Or.inr ⟨by rfl, rfl⟩) ?_ ?_; rotate_left
       ·simp only [Act.put, sA, sB, sC, i64_w, i32_w]
        rfl
       refine pure_ (i := 5) (N := some 50) (v := undef) (a' := ?_) #[Y,Y,Y,Y,Y,Y,N,N] rfl rfl (any_of HT_.out (by kernel_rfl)) (fun _ _ _ h => h) (Or.inr ⟨by rfl, rfl⟩) ?_ ?_; rotate_left
       ·simp only [Act.put, sA, sB, sC, i64_w, i32_w]
        rfl
       refine pure_ (i := 6) (N := some 51) (v := undef) (a' := ?_) #[Y,Y,Y,Y,Y,Y,Y,N] rfl rfl (any_of HT_.out (by kernel_rfl)) (fun _ _ _ h => h) (Or.inr ⟨by rfl, rfl⟩) ?_ ?_; rotate_left
       ·simp only [Act.put, sA, sB, sC, i64_w, i32_w]
        rfl
       refine pureA_ (i := 7) (N := some 52) #[Y,Y,Y,Y,Y,Y,Y,Y] rfl rfl (any_of HT_.out (by kernel_rfl)) ?_
       refine done_ (done_of HT_.out (by kernel_rfl)) ?_
       try go_wp2
       go_ret2
       exact ⟨by first | rfl | (simp [errW_none, errW_some] <;> rfl) | (simp [*, errW_none, errW_some] <;> rfl), by repeat (first | (with_reducible first | exact HB.out | apply below_alloc | apply pw_below_drewN | apply below_drew1 | refine below_set ?_ (Aside0.out (by assumption))) | exact HB.out)⟩

/-! ### frac_Floor: function 33 -/
noncomputable def frac_Floor.f (k : Nat) (a0 : Int) (a1 : Int) (a2 : Int) : Option (Int × Int) := (frac_way_part_frac_Floor.f k () a0 a1 a2).bind fun bt273 => (some (bt273.1, bt273.2))
theorem frac_Floor.mono : ∀ a0 a1 a2 k, LeO (frac_Floor.f k a0 a1 a2) (frac_Floor.f (k + 1) a0 a1 a2) := by
 intro a0 a1 a2 k
 unfold frac_Floor.f
 repeat' first
   | (with_reducible exact frac_way_part_frac_Floor.mono _ _ _ _ _)
   | (with_reducible exact LeO.refl _)
   | (with_reducible exact LeO.none _)
   | (with_reducible refine LeO.ite ?_ ?_)
   | (with_reducible refine LeO.bind ?_ (fun _ => ?_))
   | exact frac_way_part_frac_Floor.mono _ _ _ _ _
   | exact LeO.none _
   | refine LeO.ite ?_ ?_
   | refine LeO.bind ?_ (fun _ => ?_)
set_option maxHeartbeats 8000000 in
set_option maxRecDepth 100000 in
theorem frac_Floor.calls (k : Nat) (a0 : Int) (a1 : Int) (a2 : Int) (r1 : Int) (r2 : Int) (w : World) (h : frac_Floor.f k a0 a1 a2 = some (r1, r2)) :
  Calls Tryd.prog 33 #[.int .i64 a0, .int .i64 a1, .int .i64 a2] w fun e w' => e = .returned (.tuple #[.int .i64 r1, .int .i64 r2]) ∧ Below w.heap.size w w' := by
 have hu71 := Tryd.underlying71; have HB := Aside0.mk (Below.refl w.heap.size w); have H : ((frac_way_part_frac_Floor.f k () a0 a1 a2).bind fun bt273 => (some (bt273.1, bt273.2))) = some (r1, r2) := h; clear h; replace H := Option.bind_eq_some_iff.mp H; obtain ⟨⟨t273, t274⟩, A40, H⟩ := H; replace H : (some (t273, t274)) = some (r1, r2) := H; have A4 := Aside0.mk A40; clear A40; simp only [Option.some.injEq, Prod.mk.injEq] at H; obtain ⟨rfl, rfl⟩ := H
 go_enter Tryd.func33, Tryd.ntmps33
 go_wp2_with (first | ((with_reducible refine gate_callee (f := 54) rfl ?_); refine goesLA_ (some 12) rfl rfl Tryd.func54 rfl #[.agg #[.func (.func 53) #[] #[]], .int .i64 a0, .int .i64 a1, .int .i64 a2] rfl ?_; (with_reducible refine (frac_way_part_frac_Floor.calls k () a0 a1 a2 t273 t274 _ A4.out).mono ?_); rintro e w5 ⟨rfl, hb⟩; refine ⟨_, rfl, ?_⟩; replace HB := stA hb; clear hb))
 go_ret2
 exact ⟨by first | rfl | (simp [errW_none, errW_some] <;> rfl) | (simp [*, errW_none, errW_some] <;> rfl), by repeat (first | (with_reducible first | exact HB.out | apply below_alloc | apply pw_below_drewN | apply below_drew1) | exact HB.out)⟩

/-! ### frac_FloorS: a part of a product, from below: pure, behind function 33 -/
noncomputable def frac_FloorS.f (a b c : Int) : Option (Int × Int) := Sp.need (Sp.I a ∧ Sp.I b ∧ Sp.I c) (Sp.floorQ a b c)
section FracFloor
open Go.Proofs.YtceiakiihkaamaaDoor.Sp
theorem frac_way_part_frac_Floor.j1_eq {q : Int} (h : B q) : frac_way_part_frac_Floor.j1 1 0 (encN q) (encH q) (encL q) = fit q := by
 simp only [frac_way_part_frac_Floor.j1]
 rw [big_IntS.enc h]
 simp only [Option.bind_some, if_true]
 rw [big_OfS.eq (near_I _)]
 simp only [Option.bind_some]
 rw [enc_bne]
 unfold fit
 by_cases hi : I q
 ·rw [near_in hi, if_pos hi]; simp
 ·rw [if_neg hi, if_pos]
  have : ¬ q = near q := fun e => hi (e ▸ near_I q)
  simp [this]
theorem frac_way_part_frac_Floor.j0_eq {q : Int} (h : -85070591730234615865843651857942052864 ≤ q ∧ q ≤ 85070591730234615865843651857942052864) (up : Bool) : frac_way_part_frac_Floor.j0 2 0 up (encN q) (encH q) (encL q) = fit (if up = true then q + 1 else q) := by
 simp only [frac_way_part_frac_Floor.j0]
 cases up with
 | false =>
  simp only [Bool.false_eq_true, if_false]; exact frac_way_part_frac_Floor.j1_eq (by omega)
 | true =>
  simp only [if_true]
  rw [big_OfS.eq (by omega)]
  simp only [Option.bind_some]
  rw [big_AddS.enc (by omega) (by omega), held_in (by omega)]
  simp only [Option.bind_some]; exact frac_way_part_frac_Floor.j1_eq (by omega)
theorem frac_Floor.main {a b c : Int} (h1 : I a) (h2 : I b) (h3 : I c) : frac_Floor.f 2 a b c = floorQ a b c := by
 unfold frac_Floor.f frac_way_part_frac_Floor.f
 by_cases hc : c < 1
 ·rw [if_pos hc]; unfold floorQ; rw [if_pos hc]; rfl
 ·have hp : 0 < c := by omega
  have hm := mulI h1 h2; have r0 := Int.emod_nonneg (a * b) (show c ≠ 0 by omega); have r1 := Int.emod_lt_of_pos (a * b) hp; have hq := quoI hm hp
  rw [if_neg hc, big_MulS.eq h1 h2, u64w_in (x := c) (by omega)]
  simp only [Option.bind_some]
  rw [big_DivS.enc (by omega) (by omega), quo_pos (by omega)]
  simp only [Option.bind_some, if_true, frac_Floor_1.f]
  rw [show ∀ x : Option (Int × Int), (x.bind fun bt => some (bt.1, bt.2)) = x from fun x => by cases x <;> rfl]
  rw [frac_way_part_frac_Floor.j0_eq hq false]
  simp only [Bool.false_eq_true, if_false]
  unfold floorQ; rw [if_neg hc]
theorem frac_FloorS.eq {a b c : Int} (h1 : I a) (h2 : I b) (h3 : I c) : frac_FloorS.f a b c = floorQ a b c := need_pos ⟨h1, h2, h3⟩
end FracFloor
theorem frac_FloorS.calls (a0 a1 a2 r1 r2 : Int) (w : World) (h : frac_FloorS.f a0 a1 a2 = some (r1, r2)) :
  Calls Tryd.prog 33 #[.int .i64 a0, .int .i64 a1, .int .i64 a2] w fun e w' => e = .returned (.tuple #[.int .i64 r1, .int .i64 r2]) ∧ Below w.heap.size w w' := by
 obtain ⟨hc, h⟩ := Sp.need_some h; obtain ⟨h1, h2, h3⟩ := hc; exact frac_Floor.calls 2 a0 a1 a2 r1 r2 w (by rw [frac_Floor.main h1 h2 h3]; exact h)

/-! ### epoch_Fast: function 15 -/
noncomputable def epoch_Fast.f (a0 : Int) (a1 : Int) : Option (Int) := if a1 ≥ a0 then (some a1) else ((frac_FloorS.f (mx a1 0) 17 20).bind fun bt275 => (some bt275.1))
set_option maxHeartbeats 8000000 in
set_option maxRecDepth 100000 in
theorem epoch_Fast.calls (a0 : Int) (a1 : Int) (r : Int) (w : World) (h : epoch_Fast.f a0 a1 = some r) :
  Calls Tryd.prog 15 #[.int .i64 a0, .int .i64 a1] w fun e w' => e = .returned (.int .i64 r) ∧ Below w.heap.size w w' := by
 have HB := Aside0.mk (Below.refl w.heap.size w); have H : (if a1 ≥ a0 then (some a1) else ((frac_FloorS.f (mx a1 0) 17 20).bind fun bt275 => (some bt275.1))) = some r := h; clear h
 by_cases c3 : a1 ≥ a0
 ·rw [if_pos c3] at H
  have c3b0 : decide (a0 ≤ a1) = true := decide_eq_true c3; clear c3; obtain rfl := Option.some.inj H
  go_enter Tryd.func15, Tryd.ntmps15
  go_wp2
  go_ret
  exact ⟨by first | rfl | (simp [errW_none, errW_some] <;> rfl) | (simp [*, errW_none, errW_some] <;> rfl), by repeat (first | (with_reducible first | exact HB.out | apply below_alloc | apply pw_below_drewN | apply below_drew1) | exact HB.out)⟩
 ·rw [if_neg c3] at H
  have c3b0 : decide (a0 ≤ a1) = false := decide_eq_false c3; clear c3
  obtain ⟨ji4, hji4⟩ : ∃ j_ : Int, (mx a1 0) = j_ := ⟨_, rfl⟩
  replace H : ((frac_FloorS.f (ji4) 17 20).bind fun bt275 => (some bt275.1)) = some r := by first | (rw [hji4] at H; exact H) | (simp only [hji4] at H ⊢; exact H)
  (try (have hji4l : 0 ≤ ji4 := by (rw [← hji4]; unfold mx; (repeat' split) <;> omega)))
  (try (have hji4m : 0 ≤ ji4 := by omega))
  have hji4_ : (if a1 < 0 then 0 else a1) = ji4 := hji4; replace H := Option.bind_eq_some_iff.mp H; obtain ⟨⟨t275, t276⟩, A50, H⟩ := H; replace H : (some t275) = some r := H; have A5 := Aside0.mk A50; clear A50; obtain rfl := Option.some.inj H
  go_enter Tryd.func15, Tryd.ntmps15
  go_wp2_with (first | ((with_reducible refine gate_callee (f := 33) rfl ?_); refine goesL_ (some 14) rfl rfl Tryd.func33 (by kernel_rfl) rfl #[.int .i64 ji4, .int .i64 17, .int .i64 20] rfl (by (try simp only [List.map_toArray, List.map_cons, List.map_nil]); first | done | (simp only [hji4]; rfl) | rfl | (simp only [List.length_drop, List.length_take]; rfl)) ?_; (with_reducible refine (frac_FloorS.calls ji4 17 20 t275 t276 _ A5.out).mono ?_); rintro e w6 ⟨rfl, hb⟩; refine ⟨_, rfl, ?_⟩; replace HB := stA hb; clear hb))
  go_ret
  exact ⟨by first | rfl | (simp [errW_none, errW_some] <;> rfl) | (simp only [← hji4]; first | rfl | (simp [errW_none, errW_some] <;> rfl)) | (simp [*, errW_none, errW_some] <;> rfl), by repeat (first | (with_reducible first | exact HB.out | apply below_alloc | apply pw_below_drewN | apply below_drew1) | exact HB.out)⟩

/-! ### epoch_FastS: pure, behind function 15 -/
noncomputable def epoch_FastS.f (a b : Int) : Option Int := Sp.need (Sp.I a ∧ Sp.I b) (some (Sp.fastQ a b))
theorem epoch_FastS.eq {a b : Int} (h1 : Sp.I a) (h2 : Sp.I b) : epoch_FastS.f a b = some (Sp.fastQ a b) := Sp.need_pos ⟨h1, h2⟩
section
open Go.Proofs.YtceiakiihkaamaaDoor.Sp
theorem epoch_Fast.main {a b : Int} (h1 : Sp.I a) (h2 : Sp.I b) : epoch_Fast.f a b = some (Sp.fastQ a b) := by
 unfold epoch_Fast.f fastQ
 by_cases c : b ≥ a
 ·rw [if_pos c, if_pos c]
 ·rw [if_neg c, if_neg c]
  have e : mx b 0 = if b < 0 then 0 else b := rfl
  rw [e]
  have hm : 0 ≤ (if b < 0 then 0 else b) ∧ (if b < 0 then 0 else b) ≤ 9223372036854775807 := by split <;> omega
  generalize (if b < 0 then 0 else b) = m at hm ⊢
  rw [frac_FloorS.eq (by omega) (by omega) (by omega), floorQ_in (by omega) (by omega)]
  rfl
end
theorem epoch_FastS.calls (a b r : Int) (w : World) (h : epoch_FastS.f a b = some r) :
  Calls Tryd.prog 15 #[.int .i64 a, .int .i64 b] w fun e w' => e = .returned (.int .i64 r) ∧ Below w.heap.size w w' := by
 obtain ⟨hc, h⟩ := Sp.need_some h; obtain ⟨h1, h2⟩ := hc; exact epoch_Fast.calls a b r w (by rw [epoch_Fast.main h1 h2]; exact h)

/-! ### epoch_Check: function 17 -/
noncomputable def epoch_Check.f (a0_0 : Bool) (a0_1 : Int) (a0_2 : Int) (a0_3 : Int) (a0_4 : Int) (a0_5 : Int) : Option (Bool) := if a0_0 = true then ((epoch_BeginS.f a0_1 a0_2 a0_3).bind fun bt278 => (if bt278.2.2.2.2.2.2 = 0 then ((epoch_windowS.f a0_5).bind fun t286 => (if t286 = true then (some (a0_0 == bt278.1 && (a0_1 == bt278.2.1 && (a0_2 == bt278.2.2.1 && (a0_3 == bt278.2.2.2.1 && (a0_4 == bt278.2.2.2.2.1)))))) else (some false))) else (some false))) else (some (!a0_0 && (a0_1 == 0 && (a0_2 == 0 && (a0_3 == 0 && (a0_4 == 0 && (a0_5 == 0)))))))
set_option maxHeartbeats 8000000 in
set_option maxRecDepth 100000 in
theorem epoch_Check.calls (a0_0 : Bool) (a0_1 : Int) (a0_2 : Int) (a0_3 : Int) (a0_4 : Int) (a0_5 : Int) (r : Bool) (w : World) (h : epoch_Check.f a0_0 a0_1 a0_2 a0_3 a0_4 a0_5 = some r) (hL : Tens w) :
  Calls Tryd.prog 17 #[.agg #[.bool a0_0, .int .i64 a0_1, .int .i64 a0_2, .int .i64 a0_3, .int .i64 a0_4, .int .i64 a0_5]] w fun e w' => e = .returned (.bool r) ∧ Below w.heap.size w w' := by
 have hu23 := Tryd.underlying23; have HB := Aside0.mk (Below.refl w.heap.size w); have H : (if a0_0 = true then ((epoch_BeginS.f a0_1 a0_2 a0_3).bind fun bt278 => (if bt278.2.2.2.2.2.2 = 0 then ((epoch_windowS.f a0_5).bind fun t286 => (if t286 = true then (some (a0_0 == bt278.1 && (a0_1 == bt278.2.1 && (a0_2 == bt278.2.2.1 && (a0_3 == bt278.2.2.2.1 && (a0_4 == bt278.2.2.2.2.1)))))) else (some false))) else (some false))) else (some (!a0_0 && (a0_1 == 0 && (a0_2 == 0 && (a0_3 == 0 && (a0_4 == 0 && (a0_5 == 0)))))))) = some r := h; clear h
 by_cases c2 : a0_0 = true
 ·subst c2
  have H1 : ((epoch_BeginS.f a0_1 a0_2 a0_3).bind fun bt278 => (if bt278.2.2.2.2.2.2 = 0 then ((epoch_windowS.f a0_5).bind fun t286 => (if t286 = true then (some (true == bt278.1 && (a0_1 == bt278.2.1 && (a0_2 == bt278.2.2.1 && (a0_3 == bt278.2.2.2.1 && (a0_4 == bt278.2.2.2.2.1)))))) else (some false))) else (some false))) = some r := by rw [if_pos rfl] at H; exact H
  clear H; have H := H1; clear H1; replace H := Option.bind_eq_some_iff.mp H; obtain ⟨⟨t278, t279, t280, t281, t282, t283, t284⟩, A30, H⟩ := H; (try dsimp only at H); have A3 := Aside0.mk A30; clear A30
  by_cases c4 : t284 = 0
  ·rw [if_pos c4] at H
   have c4b0 : (t284 == 0) = true := beq_iff_eq.mpr c4; have c4b1 : (t284 != 0) = false := bne_eq_false_iff_eq.mpr c4; clear c4; replace H := Option.bind_eq_some_iff.mp H; obtain ⟨t286, A50, H⟩ := H; replace H : (if t286 = true then (some (true == t278 && (a0_1 == t279 && (a0_2 == t280 && (a0_3 == t281 && (a0_4 == t282)))))) else (some false)) = some r := H; have A5 := Aside0.mk A50; clear A50
   by_cases c6 : t286 = true
   ·subst c6
    have H1 : (some (true == t278 && (a0_1 == t279 && (a0_2 == t280 && (a0_3 == t281 && (a0_4 == t282)))))) = some r := by rw [if_pos rfl] at H; exact H
    clear H; have H := H1; clear H1; obtain rfl := Option.some.inj H
    go_enter Tryd.func17, Tryd.ntmps17
    go_wp2_with (first | ((with_reducible refine gate_dst (N := 1) rfl ?_); refine box_event ?hg (N := 1) ?hd (cs := #[.bool true, .int .i64 a0_1, .int .i64 a0_2, .int .i64 a0_3, .int .i64 a0_4, .int .i64 a0_5]) (t := 23) ?hr ?_; (case hd => rfl); (case hg => rfl); (case hr => first | (go_simp; done) | (go_simp; rfl)); intro gb277 hg w7 hbox hb; have BK277 := Aside0.mk (hbox); obtain ⟨GW277, nHB⟩ := geA hg hb; have GE277 := GW277; replace HB := nHB; clear nHB; clear hb hbox hg; have hcz8_0 := czZ BK277 0 (.bool true); have hcz8_1 := czZ BK277 1 (.int .i64 a0_1); have hcz8_2 := czZ BK277 2 (.int .i64 a0_2); have hcz8_3 := czZ BK277 3 (.int .i64 a0_3); have hcz8_4 := czZ BK277 4 (.int .i64 a0_4); have hcz8_5 := czZ BK277 5 (.int .i64 a0_5); have hfz8_0 := blk_frozen BK277.out 0; have hfz8_1 := blk_frozen BK277.out 1; have hfz8_2 := blk_frozen BK277.out 2; have hfz8_3 := blk_frozen BK277.out 3; have hfz8_4 := blk_frozen BK277.out 4; have hfz8_5 := blk_frozen BK277.out 5) | ((with_reducible refine gate_callee (f := 11) rfl ?_); refine goesLA_ (some 18) rfl rfl Tryd.func11 rfl #[.int .i64 a0_1, .int .i64 a0_2, .int .i64 a0_3] rfl ?_; (with_reducible refine (epoch_BeginS.calls a0_1 a0_2 a0_3 t278 t279 t280 t281 t282 t283 t284 _ A3.out ?hT_).mono ?_); (case hT_ => exact tensB hL (by repeat (first | (with_reducible first | exact HB.out | apply below_alloc | apply pw_below_drewN | apply below_drew1 | refine below_set ?_ (Aside0.out (by assumption))) | exact HB.out))); rintro e w9 ⟨rfl, hb⟩; refine ⟨_, rfl, ?_⟩; replace BK277 := bdZ BK277 hb; replace HB := stA hb; clear hb) | ((with_reducible refine gate_dst (N := 3) rfl ?_); refine box_event ?hg (N := 3) ?hd (cs := #[.bool false, .int .i64 0, .int .i64 0, .int .i64 0, .int .i64 0, .int .i64 0]) (t := 23) ?hr ?_; (case hd => rfl); (case hg => rfl); (case hr => first | (go_simp; done) | (go_simp; rfl)); intro gb285 hg w10 hbox hb; have BK285 := Aside0.mk (hbox); obtain ⟨GW285, nHB⟩ := geA hg hb; have GE285 := GW285; obtain ⟨NB277_285, NB285_277, nBK⟩ := nbA BK277 hg hb; replace BK277 := nBK; clear nBK; replace HB := nHB; clear nHB; clear hb hbox hg; have hnb11 := NB285_277.out; have hnc11 := NB277_285.out; have hcz12_0 := czZ BK285 0 (.bool false); have hcz12_1 := czZ BK285 1 (.int .i64 0); have hcz12_2 := czZ BK285 2 (.int .i64 0); have hcz12_3 := czZ BK285 3 (.int .i64 0); have hcz12_4 := czZ BK285 4 (.int .i64 0); have hcz12_5 := czZ BK285 5 (.int .i64 0); have hfz12_0 := blk_frozen BK285.out 0; have hfz12_1 := blk_frozen BK285.out 1; have hfz12_2 := blk_frozen BK285.out 2; have hfz12_3 := blk_frozen BK285.out 3; have hfz12_4 := blk_frozen BK285.out 4; have hfz12_5 := blk_frozen BK285.out 5; have hcz13_0 := czZ BK277 0 (.bool true); have hcz13_1 := czZ BK277 1 (.int .i64 a0_1); have hcz13_2 := czZ BK277 2 (.int .i64 a0_2); have hcz13_3 := czZ BK277 3 (.int .i64 a0_3); have hcz13_4 := czZ BK277 4 (.int .i64 a0_4); have hcz13_5 := czZ BK277 5 (.int .i64 a0_5); have hfz13_0 := blk_frozen BK277.out 0; have hfz13_1 := blk_frozen BK277.out 1; have hfz13_2 := blk_frozen BK277.out 2; have hfz13_3 := blk_frozen BK277.out 3; have hfz13_4 := blk_frozen BK277.out 4; have hfz13_5 := blk_frozen BK277.out 5) | (go_at_call 26; (with_reducible refine (epoch_windowS.calls a0_5 true _ A5.out).mono ?_); rintro e w14 ⟨rfl, hb⟩; replace BK277 := bfZ BK277 (fun h_ => by (with_reducible repeat first | apply blk_drewN | apply blk_drew | apply blk_alloc | refine farZ ?_ NB277_285 _); exact h_) hb; replace BK285 := Aside0.mk (blk_below (g := gb285) (o := .cells #[.bool t278, .int .i64 t279, .int .i64 t280, .int .i64 t281, .int .i64 t282, .int .i64 a0_5] 23 (0, 0)) (by (with_reducible repeat first | apply blk_drewN | apply blk_drew | apply blk_alloc); refine blk_put (cs := #[.bool t278, .int .i64 t279, .int .i64 t280, .int .i64 t281, .int .i64 t282, .int .i64 t283]) ?_ 5 _ rfl; (with_reducible repeat first | apply blk_drewN | apply blk_drew | apply blk_alloc); refine blk_put (cs := #[.bool t278, .int .i64 t279, .int .i64 t280, .int .i64 t281, .int .i64 t282, .int .i64 0]) ?_ 5 _ rfl; (with_reducible repeat first | apply blk_drewN | apply blk_drew | apply blk_alloc); refine blk_put (cs := #[.bool t278, .int .i64 t279, .int .i64 t280, .int .i64 t281, .int .i64 0, .int .i64 0]) ?_ 4 _ rfl; (with_reducible repeat first | apply blk_drewN | apply blk_drew | apply blk_alloc); refine blk_put (cs := #[.bool t278, .int .i64 t279, .int .i64 t280, .int .i64 0, .int .i64 0, .int .i64 0]) ?_ 3 _ rfl; (with_reducible repeat first | apply blk_drewN | apply blk_drew | apply blk_alloc); refine blk_put (cs := #[.bool t278, .int .i64 t279, .int .i64 0, .int .i64 0, .int .i64 0, .int .i64 0]) ?_ 2 _ rfl; (with_reducible repeat first | apply blk_drewN | apply blk_drew | apply blk_alloc); refine blk_put (cs := #[.bool t278, .int .i64 0, .int .i64 0, .int .i64 0, .int .i64 0, .int .i64 0]) ?_ 1 _ rfl; (with_reducible repeat first | apply blk_drewN | apply blk_drew | apply blk_alloc); refine blk_put (cs := #[.bool false, .int .i64 0, .int .i64 0, .int .i64 0, .int .i64 0, .int .i64 0]) ?_ 0 _ rfl; (with_reducible repeat first | apply blk_drewN | apply blk_drew | apply blk_alloc); exact BK285.out) hb); replace HB := stA hb; clear hb; have hcz15_0 := czZ BK277 0 (.bool true); have hcz15_1 := czZ BK277 1 (.int .i64 a0_1); have hcz15_2 := czZ BK277 2 (.int .i64 a0_2); have hcz15_3 := czZ BK277 3 (.int .i64 a0_3); have hcz15_4 := czZ BK277 4 (.int .i64 a0_4); have hcz15_5 := czZ BK277 5 (.int .i64 a0_5); have hfz15_0 := blk_frozen BK277.out 0; have hfz15_1 := blk_frozen BK277.out 1; have hfz15_2 := blk_frozen BK277.out 2; have hfz15_3 := blk_frozen BK277.out 3; have hfz15_4 := blk_frozen BK277.out 4; have hfz15_5 := blk_frozen BK277.out 5; have hcz16_0 := czZ BK285 0 (.bool t278); have hcz16_1 := czZ BK285 1 (.int .i64 t279); have hcz16_2 := czZ BK285 2 (.int .i64 t280); have hcz16_3 := czZ BK285 3 (.int .i64 t281); have hcz16_4 := czZ BK285 4 (.int .i64 t282); have hcz16_5 := czZ BK285 5 (.int .i64 a0_5); have hfz16_0 := blk_frozen BK285.out 0; have hfz16_1 := blk_frozen BK285.out 1; have hfz16_2 := blk_frozen BK285.out 2; have hfz16_3 := blk_frozen BK285.out 3; have hfz16_4 := blk_frozen BK285.out 4; have hfz16_5 := blk_frozen BK285.out 5))
    go_ret
    exact ⟨by first | rfl | (simp [errW_none, errW_some] <;> rfl) | (simp [*, errW_none, errW_some] <;> rfl), by repeat (first | (with_reducible first | exact HB.out | apply below_alloc | apply pw_below_drewN | apply below_drew1 | refine below_set ?_ (Aside0.out (by assumption))) | exact HB.out)⟩
   ·replace c6 := Bool.eq_false_iff.mpr c6
    subst c6
    have H1 : (some false) = some r := by rw [if_neg (show ¬ (false = true) by decide)] at H; exact H
    clear H; have H := H1; clear H1; obtain rfl := Option.some.inj H
    go_enter Tryd.func17, Tryd.ntmps17
    go_wp2_with (first | ((with_reducible refine gate_dst (N := 1) rfl ?_); refine box_event ?hg (N := 1) ?hd (cs := #[.bool true, .int .i64 a0_1, .int .i64 a0_2, .int .i64 a0_3, .int .i64 a0_4, .int .i64 a0_5]) (t := 23) ?hr ?_; (case hd => rfl); (case hg => rfl); (case hr => first | (go_simp; done) | (go_simp; rfl)); intro gb277 hg w17 hbox hb; have BK277 := Aside0.mk (hbox); obtain ⟨GW277, nHB⟩ := geA hg hb; have GE277 := GW277; replace HB := nHB; clear nHB; clear hb hbox hg; have hcz18_0 := czZ BK277 0 (.bool true); have hcz18_1 := czZ BK277 1 (.int .i64 a0_1); have hcz18_2 := czZ BK277 2 (.int .i64 a0_2); have hcz18_3 := czZ BK277 3 (.int .i64 a0_3); have hcz18_4 := czZ BK277 4 (.int .i64 a0_4); have hcz18_5 := czZ BK277 5 (.int .i64 a0_5); have hfz18_0 := blk_frozen BK277.out 0; have hfz18_1 := blk_frozen BK277.out 1; have hfz18_2 := blk_frozen BK277.out 2; have hfz18_3 := blk_frozen BK277.out 3; have hfz18_4 := blk_frozen BK277.out 4; have hfz18_5 := blk_frozen BK277.out 5) | ((with_reducible refine gate_callee (f := 11) rfl ?_); refine goesLA_ (some 18) rfl rfl Tryd.func11 rfl #[.int .i64 a0_1, .int .i64 a0_2, .int .i64 a0_3] rfl ?_; (with_reducible refine (epoch_BeginS.calls a0_1 a0_2 a0_3 t278 t279 t280 t281 t282 t283 t284 _ A3.out ?hT_).mono ?_); (case hT_ => exact tensB hL (by repeat (first | (with_reducible first | exact HB.out | apply below_alloc | apply pw_below_drewN | apply below_drew1 | refine below_set ?_ (Aside0.out (by assumption))) | exact HB.out))); rintro e w19 ⟨rfl, hb⟩; refine ⟨_, rfl, ?_⟩; replace BK277 := bdZ BK277 hb; replace HB := stA hb; clear hb) | ((with_reducible refine gate_dst (N := 3) rfl ?_); refine box_event ?hg (N := 3) ?hd (cs := #[.bool false, .int .i64 0, .int .i64 0, .int .i64 0, .int .i64 0, .int .i64 0]) (t := 23) ?hr ?_; (case hd => rfl); (case hg => rfl); (case hr => first | (go_simp; done) | (go_simp; rfl)); intro gb285 hg w20 hbox hb; have BK285 := Aside0.mk (hbox); obtain ⟨GW285, nHB⟩ := geA hg hb; have GE285 := GW285; obtain ⟨NB277_285, NB285_277, nBK⟩ := nbA BK277 hg hb; replace BK277 := nBK; clear nBK; replace HB := nHB; clear nHB; clear hb hbox hg; have hnb21 := NB285_277.out; have hnc21 := NB277_285.out; have hcz22_0 := czZ BK285 0 (.bool false); have hcz22_1 := czZ BK285 1 (.int .i64 0); have hcz22_2 := czZ BK285 2 (.int .i64 0); have hcz22_3 := czZ BK285 3 (.int .i64 0); have hcz22_4 := czZ BK285 4 (.int .i64 0); have hcz22_5 := czZ BK285 5 (.int .i64 0); have hfz22_0 := blk_frozen BK285.out 0; have hfz22_1 := blk_frozen BK285.out 1; have hfz22_2 := blk_frozen BK285.out 2; have hfz22_3 := blk_frozen BK285.out 3; have hfz22_4 := blk_frozen BK285.out 4; have hfz22_5 := blk_frozen BK285.out 5; have hcz23_0 := czZ BK277 0 (.bool true); have hcz23_1 := czZ BK277 1 (.int .i64 a0_1); have hcz23_2 := czZ BK277 2 (.int .i64 a0_2); have hcz23_3 := czZ BK277 3 (.int .i64 a0_3); have hcz23_4 := czZ BK277 4 (.int .i64 a0_4); have hcz23_5 := czZ BK277 5 (.int .i64 a0_5); have hfz23_0 := blk_frozen BK277.out 0; have hfz23_1 := blk_frozen BK277.out 1; have hfz23_2 := blk_frozen BK277.out 2; have hfz23_3 := blk_frozen BK277.out 3; have hfz23_4 := blk_frozen BK277.out 4; have hfz23_5 := blk_frozen BK277.out 5) | (go_at_call 26; (with_reducible refine (epoch_windowS.calls a0_5 false _ A5.out).mono ?_); rintro e w24 ⟨rfl, hb⟩; replace BK277 := bfZ BK277 (fun h_ => by (with_reducible repeat first | apply blk_drewN | apply blk_drew | apply blk_alloc | refine farZ ?_ NB277_285 _); exact h_) hb; replace BK285 := Aside0.mk (blk_below (g := gb285) (o := .cells #[.bool t278, .int .i64 t279, .int .i64 t280, .int .i64 t281, .int .i64 t282, .int .i64 a0_5] 23 (0, 0)) (by (with_reducible repeat first | apply blk_drewN | apply blk_drew | apply blk_alloc); refine blk_put (cs := #[.bool t278, .int .i64 t279, .int .i64 t280, .int .i64 t281, .int .i64 t282, .int .i64 t283]) ?_ 5 _ rfl; (with_reducible repeat first | apply blk_drewN | apply blk_drew | apply blk_alloc); refine blk_put (cs := #[.bool t278, .int .i64 t279, .int .i64 t280, .int .i64 t281, .int .i64 t282, .int .i64 0]) ?_ 5 _ rfl; (with_reducible repeat first | apply blk_drewN | apply blk_drew | apply blk_alloc); refine blk_put (cs := #[.bool t278, .int .i64 t279, .int .i64 t280, .int .i64 t281, .int .i64 0, .int .i64 0]) ?_ 4 _ rfl; (with_reducible repeat first | apply blk_drewN | apply blk_drew | apply blk_alloc); refine blk_put (cs := #[.bool t278, .int .i64 t279, .int .i64 t280, .int .i64 0, .int .i64 0, .int .i64 0]) ?_ 3 _ rfl; (with_reducible repeat first | apply blk_drewN | apply blk_drew | apply blk_alloc); refine blk_put (cs := #[.bool t278, .int .i64 t279, .int .i64 0, .int .i64 0, .int .i64 0, .int .i64 0]) ?_ 2 _ rfl; (with_reducible repeat first | apply blk_drewN | apply blk_drew | apply blk_alloc); refine blk_put (cs := #[.bool t278, .int .i64 0, .int .i64 0, .int .i64 0, .int .i64 0, .int .i64 0]) ?_ 1 _ rfl; (with_reducible repeat first | apply blk_drewN | apply blk_drew | apply blk_alloc); refine blk_put (cs := #[.bool false, .int .i64 0, .int .i64 0, .int .i64 0, .int .i64 0, .int .i64 0]) ?_ 0 _ rfl; (with_reducible repeat first | apply blk_drewN | apply blk_drew | apply blk_alloc); exact BK285.out) hb); replace HB := stA hb; clear hb))
    go_ret
    exact ⟨by first | rfl | (simp [errW_none, errW_some] <;> rfl) | (simp [*, errW_none, errW_some] <;> rfl), by repeat (first | (with_reducible first | exact HB.out | apply below_alloc | apply pw_below_drewN | apply below_drew1 | refine below_set ?_ (Aside0.out (by assumption))) | exact HB.out)⟩
  ·rw [if_neg c4] at H
   have c4b0 : (t284 == 0) = false := beq_eq_false_iff_ne.mpr c4; have c4b1 : (t284 != 0) = true := bne_iff_ne.mpr c4; obtain rfl := Option.some.inj H
   go_enter Tryd.func17, Tryd.ntmps17
   go_wp2_with (first | ((with_reducible refine gate_dst (N := 1) rfl ?_); refine box_event ?hg (N := 1) ?hd (cs := #[.bool true, .int .i64 a0_1, .int .i64 a0_2, .int .i64 a0_3, .int .i64 a0_4, .int .i64 a0_5]) (t := 23) ?hr ?_; (case hd => rfl); (case hg => rfl); (case hr => first | (go_simp; done) | (go_simp; rfl)); intro gb277 hg w25 hbox hb; have BK277 := Aside0.mk (hbox); obtain ⟨GW277, nHB⟩ := geA hg hb; have GE277 := GW277; replace HB := nHB; clear nHB; clear hb hbox hg; have hcz26_0 := czZ BK277 0 (.bool true); have hcz26_1 := czZ BK277 1 (.int .i64 a0_1); have hcz26_2 := czZ BK277 2 (.int .i64 a0_2); have hcz26_3 := czZ BK277 3 (.int .i64 a0_3); have hcz26_4 := czZ BK277 4 (.int .i64 a0_4); have hcz26_5 := czZ BK277 5 (.int .i64 a0_5); have hfz26_0 := blk_frozen BK277.out 0; have hfz26_1 := blk_frozen BK277.out 1; have hfz26_2 := blk_frozen BK277.out 2; have hfz26_3 := blk_frozen BK277.out 3; have hfz26_4 := blk_frozen BK277.out 4; have hfz26_5 := blk_frozen BK277.out 5) | ((with_reducible refine gate_callee (f := 11) rfl ?_); refine goesLA_ (some 18) rfl rfl Tryd.func11 rfl #[.int .i64 a0_1, .int .i64 a0_2, .int .i64 a0_3] rfl ?_; (with_reducible refine (epoch_BeginS.calls a0_1 a0_2 a0_3 t278 t279 t280 t281 t282 t283 t284 _ A3.out ?hT_).mono ?_); (case hT_ => exact tensB hL (by repeat (first | (with_reducible first | exact HB.out | apply below_alloc | apply pw_below_drewN | apply below_drew1 | refine below_set ?_ (Aside0.out (by assumption))) | exact HB.out))); rintro e w27 ⟨rfl, hb⟩; refine ⟨_, rfl, ?_⟩; replace BK277 := bdZ BK277 hb; replace HB := stA hb; clear hb) | ((with_reducible refine gate_dst (N := 3) rfl ?_); refine box_event ?hg (N := 3) ?hd (cs := #[.bool false, .int .i64 0, .int .i64 0, .int .i64 0, .int .i64 0, .int .i64 0]) (t := 23) ?hr ?_; (case hd => rfl); (case hg => rfl); (case hr => first | (go_simp; done) | (go_simp; rfl)); intro gb285 hg w28 hbox hb; have BK285 := Aside0.mk (hbox); obtain ⟨GW285, nHB⟩ := geA hg hb; have GE285 := GW285; obtain ⟨NB277_285, NB285_277, nBK⟩ := nbA BK277 hg hb; replace BK277 := nBK; clear nBK; replace HB := nHB; clear nHB; clear hb hbox hg; have hnb29 := NB285_277.out; have hnc29 := NB277_285.out; have hcz30_0 := czZ BK285 0 (.bool false); have hcz30_1 := czZ BK285 1 (.int .i64 0); have hcz30_2 := czZ BK285 2 (.int .i64 0); have hcz30_3 := czZ BK285 3 (.int .i64 0); have hcz30_4 := czZ BK285 4 (.int .i64 0); have hcz30_5 := czZ BK285 5 (.int .i64 0); have hfz30_0 := blk_frozen BK285.out 0; have hfz30_1 := blk_frozen BK285.out 1; have hfz30_2 := blk_frozen BK285.out 2; have hfz30_3 := blk_frozen BK285.out 3; have hfz30_4 := blk_frozen BK285.out 4; have hfz30_5 := blk_frozen BK285.out 5; have hcz31_0 := czZ BK277 0 (.bool true); have hcz31_1 := czZ BK277 1 (.int .i64 a0_1); have hcz31_2 := czZ BK277 2 (.int .i64 a0_2); have hcz31_3 := czZ BK277 3 (.int .i64 a0_3); have hcz31_4 := czZ BK277 4 (.int .i64 a0_4); have hcz31_5 := czZ BK277 5 (.int .i64 a0_5); have hfz31_0 := blk_frozen BK277.out 0; have hfz31_1 := blk_frozen BK277.out 1; have hfz31_2 := blk_frozen BK277.out 2; have hfz31_3 := blk_frozen BK277.out 3; have hfz31_4 := blk_frozen BK277.out 4; have hfz31_5 := blk_frozen BK277.out 5))
   go_ret
   exact ⟨by first | rfl | (simp [errW_none, errW_some] <;> rfl) | (simp [*, errW_none, errW_some] <;> rfl), by repeat (first | (with_reducible first | exact HB.out | apply below_alloc | apply pw_below_drewN | apply below_drew1 | refine below_set ?_ (Aside0.out (by assumption))) | exact HB.out)⟩
 ·replace c2 := Bool.eq_false_iff.mpr c2
  subst c2
  have H1 : (some (!false && (a0_1 == 0 && (a0_2 == 0 && (a0_3 == 0 && (a0_4 == 0 && (a0_5 == 0))))))) = some r := by rw [if_neg (show ¬ (false = true) by decide)] at H; exact H
  clear H; have H := H1; clear H1; obtain rfl := Option.some.inj H
  go_enter Tryd.func17, Tryd.ntmps17
  go_wp2_with (first | ((with_reducible refine gate_dst (N := 1) rfl ?_); refine box_event ?hg (N := 1) ?hd (cs := #[.bool false, .int .i64 a0_1, .int .i64 a0_2, .int .i64 a0_3, .int .i64 a0_4, .int .i64 a0_5]) (t := 23) ?hr ?_; (case hd => rfl); (case hg => rfl); (case hr => first | (go_simp; done) | (go_simp; rfl)); intro gb277 hg w32 hbox hb; have BK277 := Aside0.mk (hbox); obtain ⟨GW277, nHB⟩ := geA hg hb; have GE277 := GW277; replace HB := nHB; clear nHB; clear hb hbox hg; have hcz33_0 := czZ BK277 0 (.bool false); have hcz33_1 := czZ BK277 1 (.int .i64 a0_1); have hcz33_2 := czZ BK277 2 (.int .i64 a0_2); have hcz33_3 := czZ BK277 3 (.int .i64 a0_3); have hcz33_4 := czZ BK277 4 (.int .i64 a0_4); have hcz33_5 := czZ BK277 5 (.int .i64 a0_5); have hfz33_0 := blk_frozen BK277.out 0; have hfz33_1 := blk_frozen BK277.out 1; have hfz33_2 := blk_frozen BK277.out 2; have hfz33_3 := blk_frozen BK277.out 3; have hfz33_4 := blk_frozen BK277.out 4; have hfz33_5 := blk_frozen BK277.out 5))
  go_ret
  exact ⟨by first | rfl | (simp [errW_none, errW_some] <;> rfl) | (simp [*, errW_none, errW_some] <;> rfl), by repeat (first | (with_reducible first | exact HB.out | apply below_alloc | apply pw_below_drewN | apply below_drew1 | refine below_set ?_ GE277.out) | exact HB.out)⟩

end Go.Proofs.YtceiakiihkaamaaDoor.Px
