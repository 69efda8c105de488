/- Printed by a program of this session (wip/tool/px.py), over the kit's print: for each Go function a Lean function, and the proof that the machine's call answers as that function says. Conditions: none beside what the theorems state. -/
import Derived.Test.YtkoeehacildioaaPx0
import Derived.Test.YtkoeehacildioaaPx1
import Derived.Test.YtkoeehacildioaaPx9
import Derived.Test.YtkoeehacildioaaPx11
import Derived.Test.YtkoeehacildioaaPx15
import Derived.Test.YtkoeehacildioaaPx17
import Derived.Test.YtkoeehacildioaaPx21
import Derived.Test.YtkoeehacildioaaPx22
import Derived.Test.YtkoeehacildioaaPx23
import Derived.Test.YtkoeehacildioaaSpec
namespace Go.Proofs.Ytkoeehacildioaa.Px
open Go.RowKit Go.Proofs.YtkoeehacildioaaW.PrintWords Go.Proofs.YtkoeehacildioaaW.PrintLast Go.Proofs.YtkoeehacildioaaW.PrintMore
attribute [local go_sem] max2_int min2_int max_two min_two max_three min_three max_four min_four   -- for this text's walks alone
set_option linter.unusedVariables false
set_option linter.unusedSimpArgs false

attribute [local go_sem high] eqA24
/-! ### frac_way_part_frac_Near: function 61 -/
mutual
noncomputable def frac_way_part_frac_Near.j0 : Nat → Int → Bool → Bool → Int → Int → Option (Int × Int)
 | 0, _, _, _, _, _ => none
 | k + 1, x13, x36, x271000, x271001, x271002 => if x36 = true then ((big_OfS.f 1).bind fun bt272 => ((big_AddS.f x271000 x271001 x271002 bt272.1 bt272.2.1 bt272.2.2).bind fun bt275 => (frac_way_part_frac_Near.j1 k bt275.2.2.2 bt275.1 bt275.2.1 bt275.2.2.1))) else (frac_way_part_frac_Near.j1 k x13 x271000 x271001 x271002)
noncomputable def frac_way_part_frac_Near.j1 : Nat → Int → Bool → Int → Int → Option (Int × Int)
 | 0, _, _, _, _ => none
 | k + 1, x13, x271000, x271001, x271002 => (big_IntS.f x271000 x271001 x271002).bind fun t279 => (if x13 = 0 then ((big_OfS.f t279).bind fun bt280 => (if (!(x271000 == bt280.1) || (!(x271001 == bt280.2.1) || (!(x271002 == bt280.2.2)))) = true then (some (0, 10)) else (some (t279, 0)))) else (some (0, 10)))
end
noncomputable def frac_way_part_frac_Near.f (k : Nat) (a0_0 : Unit) (a1 : Int) (a2 : Int) (a3 : Int) : Option (Int × Int) := if a3 < 1 then (some (0, 20)) else ((big_MulS.f a1 a2).bind fun bt262 => ((big_DivS.f bt262.1 bt262.2.1 bt262.2.2 (IntKind.u64.wrap (a3))).bind fun bt265 => (if bt265.2.2.2.2 = 0 then ((frac_Near_1.f bt265.2.2.2.1 (IntKind.u64.wrap (a3))).bind fun t271 => (frac_way_part_frac_Near.j0 k bt265.2.2.2.2 t271 bt265.1 bt265.2.1 bt265.2.2.1)) else (frac_way_part_frac_Near.j0 k bt265.2.2.2.2 false bt265.1 bt265.2.1 bt265.2.2.1))))
theorem frac_way_part_frac_Near.mono_l : ∀ k, (∀ y0 y1 y2 y3 y4, LeO (frac_way_part_frac_Near.j0 k y0 y1 y2 y3 y4) (frac_way_part_frac_Near.j0 (k + 1) y0 y1 y2 y3 y4)) ∧ (∀ y0 y1 y2 y3, LeO (frac_way_part_frac_Near.j1 k y0 y1 y2 y3) (frac_way_part_frac_Near.j1 (k + 1) y0 y1 y2 y3))
 | 0 => ⟨fun _ _ _ _ _ r h => by simp [frac_way_part_frac_Near.j0] at h, fun _ _ _ _ r h => by simp [frac_way_part_frac_Near.j1] at h⟩
 | k + 1 => by
  obtain ⟨ih0, ih1⟩ := frac_way_part_frac_Near.mono_l k; refine ⟨?_, ?_⟩
  ·intro y0 y1 y2 y3 y4
   unfold frac_way_part_frac_Near.j0
   repeat' first
   | (with_reducible exact ih0 _ _ _ _ _)
   | (with_reducible exact ih1 _ _ _ _)
   | (with_reducible exact LeO.refl _)
   | (with_reducible exact LeO.none _)
   | (with_reducible refine LeO.ite ?_ ?_)
   | (with_reducible refine LeO.bind ?_ (fun _ => ?_))
   | exact ih0 _ _ _ _ _
   | exact ih1 _ _ _ _
   | exact LeO.none _
   | refine LeO.ite ?_ ?_
   | refine LeO.bind ?_ (fun _ => ?_)
  ·intro y0 y1 y2 y3
   unfold frac_way_part_frac_Near.j1
   repeat' first
   | (with_reducible exact ih0 _ _ _ _ _)
   | (with_reducible exact ih1 _ _ _ _)
   | (with_reducible exact LeO.refl _)
   | (with_reducible exact LeO.none _)
   | (with_reducible refine LeO.ite ?_ ?_)
   | (with_reducible refine LeO.bind ?_ (fun _ => ?_))
   | exact ih0 _ _ _ _ _
   | exact ih1 _ _ _ _
   | exact LeO.none _
   | refine LeO.ite ?_ ?_
   | refine LeO.bind ?_ (fun _ => ?_)
theorem frac_way_part_frac_Near.mono : ∀ a0 a1 a2 a3 k, LeO (frac_way_part_frac_Near.f k a0 a1 a2 a3) (frac_way_part_frac_Near.f (k + 1) a0 a1 a2 a3) := by
 intro a0 a1 a2 a3 k; obtain ⟨ih0, ih1⟩ := frac_way_part_frac_Near.mono_l k
 unfold frac_way_part_frac_Near.f
 repeat' first
   | (with_reducible exact ih0 _ _ _ _ _)
   | (with_reducible exact ih1 _ _ _ _)
   | (with_reducible exact LeO.refl _)
   | (with_reducible exact LeO.none _)
   | (with_reducible refine LeO.ite ?_ ?_)
   | (with_reducible refine LeO.bind ?_ (fun _ => ?_))
   | exact ih0 _ _ _ _ _
   | exact ih1 _ _ _ _
   | exact LeO.none _
   | refine LeO.ite ?_ ?_
   | refine LeO.bind ?_ (fun _ => ?_)
def frac_way_part_frac_Near.T6 : Bool × List (List Nat × List Nat) := (true, [([], []), ([], []), ([0, 1, 1], [0, 1]), ([2], [2]), ([3], [3]), ([3], [3]), ([4, 2, 0, 1, 2, 3, 4], [4]), ([5, 6, 0, 1, 2, 3, 4, 5, 6], [5])])
def frac_way_part_frac_Near.B6 : List Nat := [0, 0, 3, 7, 15, 15, 31, 127]
theorem frac_way_part_frac_Near.tab6 : rtab .any (opsOf Try.f61 6) = frac_way_part_frac_Near.T6 := by kernel_rfl
theorem frac_way_part_frac_Near.bits6 : waitsOk frac_way_part_frac_Near.T6.2 frac_way_part_frac_Near.B6 = true := by kernel_rfl
def frac_way_part_frac_Near.T8 : Bool × List (List Nat × List Nat) := (true, [([], []), ([0], [0]), ([1], [1]), ([2], [2]), ([2], [2]), ([4, 2, 2], [2, 4]), ([3, 5, 2], [2, 3, 5]), ([2, 6], [2, 6])])
def frac_way_part_frac_Near.B8 : List Nat := [0, 1, 3, 7, 7, 23, 63, 127]
theorem frac_way_part_frac_Near.tab8 : rtab .any (opsOf Try.f61 8) = frac_way_part_frac_Near.T8 := by kernel_rfl
theorem frac_way_part_frac_Near.bits8 : waitsOk frac_way_part_frac_Near.T8.2 frac_way_part_frac_Near.B8 = true := by kernel_rfl
set_option maxHeartbeats 8000000 in
set_option maxRecDepth 100000 in
theorem frac_way_part_frac_Near.calls (k : Nat) (a0_0 : Unit) (a1 : Int) (a2 : Int) (a3 : Int) (r1 : Int) (r2 : Int) (w : World) (h : frac_way_part_frac_Near.f k a0_0 a1 a2 a3 = some (r1, r2)) :
  Calls Try.prog 61 #[.agg #[.func (.func 64) #[] #[]], .int .i64 a1, .int .i64 a2, .int .i64 a3] w fun e w' => e = .returned (.tuple #[.int .i64 r1, .int .i64 r2]) ∧ Below w.heap.size w w' := by
 have hu75 := Try.underlying75; have hu24 := Try.underlying24; have HB := Aside0.mk (Below.refl w.heap.size w); have H : (if a3 < 1 then (some (0, 20)) else ((big_MulS.f a1 a2).bind fun bt262 => ((big_DivS.f bt262.1 bt262.2.1 bt262.2.2 (IntKind.u64.wrap (a3))).bind fun bt265 => (if bt265.2.2.2.2 = 0 then ((frac_Near_1.f bt265.2.2.2.1 (IntKind.u64.wrap (a3))).bind fun t271 => (frac_way_part_frac_Near.j0 k bt265.2.2.2.2 t271 bt265.1 bt265.2.1 bt265.2.2.1)) else (frac_way_part_frac_Near.j0 k bt265.2.2.2.2 false bt265.1 bt265.2.1 bt265.2.2.1))))) = some (r1, r2) := h; clear h
 by_cases c5 : a3 < 1
 ·rw [if_pos c5] at H
  have c5b0 : decide (a3 < 1) = true := decide_eq_true c5; clear c5; simp only [Option.some.injEq, Prod.mk.injEq] at H; obtain ⟨rfl, rfl⟩ := H
  go_enter Try.func61, Try.ntmps61
  go_wp2_with (first | ((with_reducible refine gate_dst (N := 4) rfl ?_); refine box_event ?hg (N := 4) ?hd (cs := #[.func (.func 64) #[] #[]]) (t := 75) ?hr ?_; (case hd => rfl); (case hg => rfl); (case hr => first | (go_simp; done) | (go_simp; rfl)); intro gb261 hg w6 hbox hb; have BK261 := Aside0.mk (hbox); obtain ⟨GW261, nHB⟩ := geA hg hb; have GE261 := GW261; replace HB := nHB; clear nHB; clear hb hbox hg))
  go_ret2
  exact ⟨by first | rfl | (simp [errW_none, errW_some] <;> rfl) | (simp [*, errW_none, errW_some] <;> rfl), by repeat (first | (with_reducible first | exact HB.out | apply below_alloc | apply pw_below_drewN | apply below_drew1 | refine below_set ?_ GE261.out) | exact HB.out)⟩
 ·rw [if_neg c5] at H
  have c5b0 : decide (a3 < 1) = false := decide_eq_false c5; clear c5; replace H := Option.bind_eq_some_iff.mp H; obtain ⟨⟨t262, t263, t264⟩, A70, H⟩ := H; (try dsimp only at H); have A7 := Aside0.mk A70; clear A70; replace H := Option.bind_eq_some_iff.mp H; obtain ⟨⟨t265, t266, t267, t268, t269⟩, A80, H⟩ := H; (try dsimp only at H); have A8 := Aside0.mk A80; clear A80; have HC9 := Aside0.mk H; clear H
  go_enter Try.func61, Try.ntmps61
  go_upto_region 5 with (first | ((with_reducible refine gate_dst (N := 4) rfl ?_); refine box_event ?hg (N := 4) ?hd (cs := #[.func (.func 64) #[] #[]]) (t := 75) ?hr ?_; (case hd => rfl); (case hg => rfl); (case hr => first | (go_simp; done) | (go_simp; rfl)); intro gb261 hg w10 hbox hb; have BK261 := Aside0.mk (hbox); obtain ⟨GW261, nHB⟩ := geA hg hb; have GE261 := GW261; replace HB := nHB; clear nHB; clear hb hbox hg) | ((with_reducible refine gate_callee (f := 24) rfl ?_); refine goesLA_ (some 22) rfl rfl Try.func24 rfl #[.int .i64 a1, .int .i64 a2] rfl ?_; (with_reducible refine (big_MulS.calls a1 a2 t262 t263 t264 _ A7.out).mono ?_); rintro e w11 ⟨rfl, hb⟩; refine ⟨_, rfl, ?_⟩; replace BK261 := bdZ BK261 hb; replace HB := stA hb; clear hb) | ((with_reducible refine gate_callee (f := 20) rfl ?_); refine goesLA_ (some 24) rfl rfl Try.func20 rfl #[.agg #[.bool t262, .int .u64 t263, .int .u64 t264], .int .u64 (IntKind.u64.wrap (a3))] rfl ?_; (with_reducible refine (big_DivS.calls t262 t263 t264 (IntKind.u64.wrap (a3)) t265 t266 t267 t268 t269 _ A8.out).mono ?_); rintro e w12 ⟨rfl, hb⟩; refine ⟨_, rfl, ?_⟩; replace BK261 := bdZ BK261 hb; replace HB := stA hb; clear hb) | ((with_reducible refine gate_dst (N := 11) rfl ?_); refine box_event ?hg (N := 11) ?hd (cs := #[.bool false, .int .u64 0, .int .u64 0]) (t := 24) ?hr ?_; (case hd => rfl); (case hg => rfl); (case hr => first | (go_simp; done) | (go_simp; rfl)); intro gb270 hg w13 hbox hb; have BK270 := Aside0.mk (hbox); obtain ⟨GW270, nHB⟩ := geA hg hb; have GE270 := GW270; obtain ⟨NB261_270, NB270_261, nBK⟩ := nbA BK261 hg hb; replace BK261 := nBK; clear nBK; replace HB := nHB; clear nHB; clear hb hbox hg; have hnb14 := NB270_261.out; have hnc14 := NB261_270.out; have hcz15_0 := czZ BK270 0 (.bool false); have hcz15_1 := czZ BK270 1 (.int .u64 0); have hcz15_2 := czZ BK270 2 (.int .u64 0); have hfz15_0 := blk_frozen BK270.out 0; have hfz15_1 := blk_frozen BK270.out 1; have hfz15_2 := blk_frozen BK270.out 2))
  (try simp only [Act.put, sA, sB, sC])
  go_cut [36] (fun v36 wc => ∃ (kq : Nat) (x36_8 : Bool), v36 = .bool x36_8 ∧ Aside0 (frac_way_part_frac_Near.j0 kq t269 x36_8 t265 t266 t267 = some (r1, r2)) ∧ Aside0 (kq ≤ k) ∧ Aside0 (wc.heap[gb261]? = some (.cells #[.func (.func 64) #[] #[]] 75 (0, 0))) ∧ Aside0 (wc.heap[gb270]? = some (.cells #[.bool t265, .int .u64 t266, .int .u64 t267] 24 (0, 0))) ∧ Aside0 (Below w.heap.size w wc))
  case first =>
   have H := HC9.out; clear HC9
   by_cases c16 : t269 = 0
   ·rw [if_pos c16] at H
    have c16b0 : (t269 == 0) = true := beq_iff_eq.mpr c16; have c16b1 : (t269 != 0) = false := bne_eq_false_iff_eq.mpr c16; clear c16
    (first | rw [c16b0] | (simp only [i64_w, i32_w]; rw [c16b0]) | skip)
    replace H := Option.bind_eq_some_iff.mp H; obtain ⟨t271, A170, H⟩ := H; replace H : (frac_way_part_frac_Near.j0 k t269 t271 t265 t266 t267) = some (r1, r2) := H; have A17 := Aside0.mk A170; clear A170; have H' := Aside0.mk H; clear H; have hnb18 := NB261_270.out; have hnc18 := NB270_261.out; have hcz19_0 := czZ BK261 0 (.func (.func 64) #[] #[]); have hfz19_0 := blk_frozen BK261.out 0
    go_wp2_with (first | (go_at_call 64; (with_reducible refine (frac_Near_1.calls t268 (IntKind.u64.wrap (a3)) t271 _ A17.out).mono ?_); rintro e w' ⟨rfl, ⟨nd, rfl⟩⟩))
    go_meet
    case rel => exact ⟨_, (t271), (by first | rfl | (simp; done) | (simp [*]; done)), H', ⟨by first | omega | exact Nat.le_refl _⟩, ⟨by (with_reducible repeat first | apply blk_drewN | apply blk_drew | apply blk_alloc); refine blk_far ?_ NB261_270.out _; (with_reducible repeat first | apply blk_drewN | apply blk_drew | apply blk_alloc); refine blk_far ?_ NB261_270.out _; (with_reducible repeat first | apply blk_drewN | apply blk_drew | apply blk_alloc); refine blk_far ?_ NB261_270.out _; (with_reducible repeat first | apply blk_drewN | apply blk_drew | apply blk_alloc); exact BK261.out⟩, ⟨by (with_reducible repeat first | apply blk_drewN | apply blk_drew | apply blk_alloc); refine blk_put (cs := #[.bool t265, .int .u64 t266, .int .u64 0]) ?_ 2 _ rfl; (with_reducible repeat first | apply blk_drewN | apply blk_drew | apply blk_alloc); refine blk_put (cs := #[.bool t265, .int .u64 0, .int .u64 0]) ?_ 1 _ rfl; (with_reducible repeat first | apply blk_drewN | apply blk_drew | apply blk_alloc); refine blk_put (cs := #[.bool false, .int .u64 0, .int .u64 0]) ?_ 0 _ rfl; (with_reducible repeat first | apply blk_drewN | apply blk_drew | apply blk_alloc); exact BK270.out⟩, ⟨by repeat (first | (with_reducible first | exact HB.out | apply below_alloc | apply pw_below_drewN | apply below_drew1 | refine below_set ?_ (Aside0.out (by assumption))) | exact HB.out)⟩⟩
   ·rw [if_neg c16] at H
    have c16b0 : (t269 == 0) = false := beq_eq_false_iff_ne.mpr c16; have c16b1 : (t269 != 0) = true := bne_iff_ne.mpr c16
    (first | rw [c16b0] | (simp only [i64_w, i32_w]; rw [c16b0]) | skip)
    have H' := Aside0.mk H; clear H
    go_wp2
    go_meet
    case rel => exact ⟨_, (false), (by first | rfl | (simp; done) | (simp [*]; done)), H', ⟨by first | omega | exact Nat.le_refl _⟩, ⟨by (with_reducible repeat first | apply blk_drewN | apply blk_drew | apply blk_alloc); refine blk_far ?_ NB261_270.out _; (with_reducible repeat first | apply blk_drewN | apply blk_drew | apply blk_alloc); refine blk_far ?_ NB261_270.out _; (with_reducible repeat first | apply blk_drewN | apply blk_drew | apply blk_alloc); refine blk_far ?_ NB261_270.out _; (with_reducible repeat first | apply blk_drewN | apply blk_drew | apply blk_alloc); exact BK261.out⟩, ⟨by (with_reducible repeat first | apply blk_drewN | apply blk_drew | apply blk_alloc); refine blk_put (cs := #[.bool t265, .int .u64 t266, .int .u64 0]) ?_ 2 _ rfl; (with_reducible repeat first | apply blk_drewN | apply blk_drew | apply blk_alloc); refine blk_put (cs := #[.bool t265, .int .u64 0, .int .u64 0]) ?_ 1 _ rfl; (with_reducible repeat first | apply blk_drewN | apply blk_drew | apply blk_alloc); refine blk_put (cs := #[.bool false, .int .u64 0, .int .u64 0]) ?_ 0 _ rfl; (with_reducible repeat first | apply blk_drewN | apply blk_drew | apply blk_alloc); exact BK270.out⟩, ⟨by repeat (first | (with_reducible first | exact HB.out | apply below_alloc | apply pw_below_drewN | apply below_drew1 | refine below_set ?_ (Aside0.out (by assumption))) | exact HB.out)⟩⟩
  case rest =>
   clear HC9
   try clear c1
   try clear c2
   try clear p2
   try clear c5
   try clear c5b0
   try clear c6
   try clear c14
   try clear c16
   try clear c16b0
   try clear c16b1
   try clear c18
   try clear hcz15_0
   try clear hcz15_1
   try clear hcz15_2
   try clear hcz19_0
   try clear hfz15_0
   try clear hfz15_1
   try clear hfz15_2
   try clear hfz19_0
   obtain ⟨kq, x36_8, rfl, HA, HJ8, BK261, BK270, HB⟩ := hcut
   cases kq with
   | zero => exact absurd HA.out (by simp [frac_way_part_frac_Near.j0])
   | succ kj8 =>
    have H := HA.out; clear HA; simp only [frac_way_part_frac_Near.j0] at H; have HC20 := Aside0.mk H; clear H
    go_upto_if 36 with (fail)
    go_cut [13] (fun v13 wc => ∃ (kq : Nat) (x13_19 : Int) (x271000_19 : Bool) (x271001_19 : Int) (x271002_19 : Int), v13 = .int .i64 x13_19 ∧ Aside0 (frac_way_part_frac_Near.j1 kq x13_19 x271000_19 x271001_19 x271002_19 = some (r1, r2)) ∧ Aside0 (kq ≤ kj8) ∧ Aside0 (wc.heap[gb261]? = some (.cells #[.func (.func 64) #[] #[]] 75 (0, 0))) ∧ Aside0 (wc.heap[gb270]? = some (.cells #[.bool x271000_19, .int .u64 x271001_19, .int .u64 x271002_19] 24 (0, 0))) ∧ Aside0 (Below w.heap.size w wc))
    case first =>
     have H := HC20.out; clear HC20
     by_cases c21 : x36_8 = true
     ·subst c21
      have H1 : ((big_OfS.f 1).bind fun bt272 => ((big_AddS.f t265 t266 t267 bt272.1 bt272.2.1 bt272.2.2).bind fun bt275 => (frac_way_part_frac_Near.j1 kj8 bt275.2.2.2 bt275.1 bt275.2.1 bt275.2.2.1))) = some (r1, r2) := by rw [if_pos rfl] at H; exact H
      clear H; have H := H1; clear H1; replace H := Option.bind_eq_some_iff.mp H; obtain ⟨⟨t272, t273, t274⟩, A220, H⟩ := H; replace H : ((big_AddS.f t265 t266 t267 t272 t273 t274).bind fun bt275 => (frac_way_part_frac_Near.j1 kj8 bt275.2.2.2 bt275.1 bt275.2.1 bt275.2.2.1)) = some (r1, r2) := H; have A22 := Aside0.mk A220; clear A220; replace H := Option.bind_eq_some_iff.mp H; obtain ⟨⟨t275, t276, t277, t278⟩, A230, H⟩ := H; replace H : (frac_way_part_frac_Near.j1 kj8 t278 t275 t276 t277) = some (r1, r2) := H; have A23 := Aside0.mk A230; clear A230; have H' := Aside0.mk H; clear H
      try go_wp2
      replace BK261 := Aside0.mk (blk_drew BK261.out); replace BK270 := Aside0.mk (blk_drew BK270.out); replace HB := Aside0.mk (below_drew1 HB.out); refine start_ (n := 8) (S := fun w' => w'.cell? ⟨gb270, 0, none⟩ = some (.bool t265) ∧ w'.cell? ⟨gb270, 1, none⟩ = some (.int .u64 t266) ∧ w'.cell? ⟨gb270, 2, none⟩ = some (.int .u64 t267)) (ds := [6]) #[N,N,N,N,N,N,N,N] (by kernel_rfl) rfl rfl ⟨(blk_cell BK270.out 0).trans rfl, (blk_cell BK270.out 1).trans rfl, (blk_cell BK270.out 2).trans rfl⟩ (fun hHeld => ?_); refine with_tabW frac_way_part_frac_Near.tab6 frac_way_part_frac_Near.bits6 (fun HT_ HW_ => ?_)
      generalize wc.drew = w24 at BK261 BK270 HB hHeld ⊢
      refine take_ (i := 0) (N := some 38) (v := ?_) (a' := ?_) #[Y,N,N,N,N,N,N,N] rfl rfl (take_ofW HT_.out HW_.out (by kernel_rfl)) (fun _ _ _ h => h) (Or.inl ⟨by rfl, ?_⟩) hHeld ?_ ?_; rotate_left
      ·rintro w' ⟨s0, s1, s2⟩; go_simp
       with_reducible rfl
      rotate_left
      ·simp only [Act.put, sA, sB, sC, i64_w, i32_w]
       rfl
      refine one_ (i := 1) (N := some 39) #[Y,Y,N,N,N,N,N,N] rfl rfl (one_of HT_.out (by kernel_rfl)) (by decide) (fun K hK => ?_); refine goesA_ Try.func22 rfl #[.int .i64 1] (by rfl) rfl rfl ?_
      with_reducible refine (big_OfS.calls 1 t272 t273 t274 _ A22.out).mono ?_
      rintro e w25 ⟨rfl, hb⟩; refine ⟨_, rfl, ?_⟩; replace BK261 := bbZ BK261 hb; replace BK270 := bbZ BK270 hb; replace HB := Aside0.mk (below_step HB.out hb); clear hb; refine hK.out _ _ ⟨(blk_cell BK270.out 0).trans rfl, (blk_cell BK270.out 1).trans rfl, (blk_cell BK270.out 2).trans rfl⟩ (fun hHeld => ?_); clear hK K; refine normA_ (some 39) ?_
      refine one_ (i := 2) (N := some 40) #[Y,Y,Y,N,N,N,N,N] rfl rfl (one_of HT_.out (by kernel_rfl)) (by decide) (fun K hK => ?_); refine goesA_ Try.func16 rfl #[.agg #[.bool t265, .int .u64 t266, .int .u64 t267], .agg #[.bool t272, .int .u64 t273, .int .u64 t274]] (by rfl) rfl rfl ?_
      with_reducible refine (big_AddS.calls t265 t266 t267 t272 t273 t274 t275 t276 t277 t278 _ A23.out).mono ?_
      rintro e w26 ⟨rfl, hb⟩; refine ⟨_, rfl, ?_⟩; replace BK261 := bbZ BK261 hb; replace BK270 := bbZ BK270 hb; replace HB := Aside0.mk (below_step HB.out hb); clear hb; refine hK.out _ _ ⟨(blk_cell BK270.out 0).trans rfl, (blk_cell BK270.out 1).trans rfl, (blk_cell BK270.out 2).trans rfl⟩ (fun hHeld => ?_); clear hK K; refine normA_ (some 40) ?_
      refine pureA_ (i := 3) (N := some 37) #[Y,Y,Y,Y,N,N,N,N] rfl rfl (any_of HT_.out (by kernel_rfl)) ?_
      refine pureA_ (i := 4) (N := some 41) #[Y,Y,Y,Y,Y,N,N,N] rfl rfl (any_of HT_.out (by kernel_rfl)) ?_
      refine pureA_ (i := 5) (N := some 42) #[Y,Y,Y,Y,Y,Y,N,N] rfl rfl (any_of HT_.out (by kernel_rfl)) ?_
      refine last_ (i := 6) (N := none) #[Y,Y,Y,Y,Y,Y,Y,N] rfl rfl (one_of HT_.out (by kernel_rfl)) (by decide) (fun K hK => ?_); have hs27 := czZ BK270 0 (.bool t265); have hfs27 := blk_frozen BK270.out 0; have hns27_0 := NB261_270.out; have hms27_0 := NB270_261.out; have hs28 := czZ BK270 1 (.int .u64 t266); have hfs28 := blk_frozen BK270.out 1; have hns28_0 := NB261_270.out; have hms28_0 := NB270_261.out; have hs29 := czZ BK270 2 (.int .u64 t267); have hfs29 := blk_frozen BK270.out 2; have hns29_0 := NB261_270.out; have hms29_0 := NB270_261.out; refine skip_ (w1 := ?_) (by rfl) rfl ?_ ?_; rotate_left
      ·go_simp
       rfl
      refine hK.out _ _ ?_; clear hK K; refine pureA_ (i := 7) (N := some 13) #[Y,Y,Y,Y,Y,Y,Y,Y] rfl rfl (any_of HT_.out (by kernel_rfl)) ?_
      refine done_ (done_of HT_.out (by kernel_rfl)) ?_
      try go_wp2
      go_meet
      case rel => exact ⟨_, (t278), (t275), (t276), (t277), (by first | rfl | (simp; done) | (simp [*]; done)), H', ⟨by have := HJ8.out; first | omega | exact Nat.le_refl _⟩, ⟨by (with_reducible repeat first | apply blk_drewN | apply blk_drew | apply blk_alloc); refine blk_far ?_ NB261_270.out _; (with_reducible repeat first | apply blk_drewN | apply blk_drew | apply blk_alloc); refine blk_far ?_ NB261_270.out _; (with_reducible repeat first | apply blk_drewN | apply blk_drew | apply blk_alloc); refine blk_far ?_ NB261_270.out _; (with_reducible repeat first | apply blk_drewN | apply blk_drew | apply blk_alloc); exact BK261.out⟩, ⟨by (with_reducible repeat first | apply blk_drewN | apply blk_drew | apply blk_alloc); refine blk_put (cs := #[.bool t275, .int .u64 t276, .int .u64 t267]) ?_ 2 _ rfl; (with_reducible repeat first | apply blk_drewN | apply blk_drew | apply blk_alloc); refine blk_put (cs := #[.bool t275, .int .u64 t266, .int .u64 t267]) ?_ 1 _ rfl; (with_reducible repeat first | apply blk_drewN | apply blk_drew | apply blk_alloc); refine blk_put (cs := #[.bool t265, .int .u64 t266, .int .u64 t267]) ?_ 0 _ rfl; (with_reducible repeat first | apply blk_drewN | apply blk_drew | apply blk_alloc); exact BK270.out⟩, ⟨by repeat (first | (with_reducible first | exact HB.out | apply below_alloc | apply pw_below_drewN | apply below_drew1 | refine below_set ?_ (Aside0.out (by assumption))) | exact HB.out)⟩⟩
     ·replace c21 := Bool.eq_false_iff.mpr c21
      subst c21
      have H1 : (frac_way_part_frac_Near.j1 kj8 t269 t265 t266 t267) = some (r1, r2) := by rw [if_neg (show ¬ (false = true) by decide)] at H; exact H
      clear H; have H := H1; clear H1; have H' := Aside0.mk H; clear H
      go_wp2
      go_meet
      case rel => exact ⟨_, (t269), (t265), (t266), (t267), (by first | rfl | (simp; done) | (simp [*]; done)), H', ⟨by have := HJ8.out; first | omega | exact Nat.le_refl _⟩, ⟨by (with_reducible repeat first | apply blk_drewN | apply blk_drew | apply blk_alloc); exact BK261.out⟩, ⟨by (with_reducible repeat first | apply blk_drewN | apply blk_drew | apply blk_alloc); exact BK270.out⟩, ⟨by repeat (first | (with_reducible first | exact HB.out | apply below_alloc | apply pw_below_drewN | apply below_drew1 | refine below_set ?_ (Aside0.out (by assumption))) | exact HB.out)⟩⟩
    case rest =>
     clear HC20
     try clear c1
     try clear c2
     try clear p2
     try clear c5
     try clear c5b0
     try clear c6
     try clear c14
     try clear c16
     try clear c16b0
     try clear c16b1
     try clear c18
     try clear c20
     try clear c21
     try clear c22
     try clear c24
     try clear hcz15_0
     try clear hcz15_1
     try clear hcz15_2
     try clear hcz19_0
     try clear hfz15_0
     try clear hfz15_1
     try clear hfz15_2
     try clear hfz19_0
     try clear p2
     obtain ⟨kq, x13_19, x271000_19, x271001_19, x271002_19, rfl, HA, HJ19, BK261, BK270, HB⟩ := hcut
     cases kq with
     | zero => exact absurd HA.out (by simp [frac_way_part_frac_Near.j1])
     | succ kj19 =>
      have H := HA.out; clear HA; simp only [frac_way_part_frac_Near.j1] at H; replace H := Option.bind_eq_some_iff.mp H; obtain ⟨t279, A300, H⟩ := H; (try dsimp only at H); have A30 := Aside0.mk A300; clear A300
      by_cases c31 : x13_19 = 0
      ·rw [if_pos c31] at H
       have c31b0 : (x13_19 == 0) = true := beq_iff_eq.mpr c31; have c31b1 : (x13_19 != 0) = false := bne_eq_false_iff_eq.mpr c31; clear c31; replace H := Option.bind_eq_some_iff.mp H; obtain ⟨⟨t280, t281, t282⟩, A320, H⟩ := H; replace H : (if (!(x271000_19 == t280) || (!(x271001_19 == t281) || (!(x271002_19 == t282)))) = true then (some (0, 10)) else (some (t279, 0))) = some (r1, r2) := H; have A32 := Aside0.mk A320; clear A320
       by_cases c33 : (!(x271000_19 == t280) || (!(x271001_19 == t281) || (!(x271002_19 == t282)))) = true
       ·rw [if_pos c33] at H
        have c33b0 : (!(x271000_19 == t280) || (!(x271001_19 == t281) || (!(x271002_19 == t282)))) = true := c33; clear c33; simp only [Option.some.injEq, Prod.mk.injEq] at H; obtain ⟨rfl, rfl⟩ := H; have hnb34 := NB270_261.out; have hnc34 := NB261_270.out; have hcz35_0 : wc.cell? ⟨gb270, 0, none⟩ = some (.bool x271000_19) := (blk_cell BK270.out 0).trans rfl; have hcz35_1 : wc.cell? ⟨gb270, 1, none⟩ = some (.int .u64 x271001_19) := (blk_cell BK270.out 1).trans rfl; have hcz35_2 : wc.cell? ⟨gb270, 2, none⟩ = some (.int .u64 x271002_19) := (blk_cell BK270.out 2).trans rfl; have hfz35_0 := blk_frozen BK270.out 0; have hfz35_1 := blk_frozen BK270.out 1; have hfz35_2 := blk_frozen BK270.out 2
        try go_wp2_with (first | ((with_reducible refine gate_callee (f := 30) rfl ?_); refine goesLA_ (some 44) rfl rfl Try.func30 rfl #[.agg #[.bool x271000_19, .int .u64 x271001_19, .int .u64 x271002_19]] rfl ?_; (with_reducible refine (big_IntS.calls x271000_19 x271001_19 x271002_19 t279 _ A30.out).mono ?_); rintro e w36 ⟨rfl, hb⟩; refine ⟨_, rfl, ?_⟩; replace BK261 := bdZ BK261 hb; replace BK270 := bdZ BK270 hb; replace HB := stA hb; clear hb))
        replace BK261 := Aside0.mk (blk_drew BK261.out); replace BK270 := Aside0.mk (blk_drew BK270.out); replace HB := Aside0.mk (below_drew1 HB.out); refine start_ (n := 8) (S := fun w' => w'.cell? ⟨gb270, 0, none⟩ = some (.bool x271000_19) ∧ w'.cell? ⟨gb270, 1, none⟩ = some (.int .u64 x271001_19) ∧ w'.cell? ⟨gb270, 2, none⟩ = some (.int .u64 x271002_19)) (ds := []) #[N,N,N,N,N,N,N,N] (by kernel_rfl) rfl rfl ⟨(blk_cell BK270.out 0).trans rfl, (blk_cell BK270.out 1).trans rfl, (blk_cell BK270.out 2).trans rfl⟩ (fun hHeld => ?_); refine with_tabW frac_way_part_frac_Near.tab8 frac_way_part_frac_Near.bits8 (fun HT_ HW_ => ?_)
        generalize w36.drew = w37 at BK261 BK270 HB hHeld ⊢
        refine pureA_ (i := 0) (N := some 45) #[Y,N,N,N,N,N,N,N] rfl rfl (any_of HT_.out (by kernel_rfl)) ?_
        refine pureA_ (i := 1) (N := some 46) #[Y,Y,N,N,N,N,N,N] rfl rfl (any_of HT_.out (by kernel_rfl)) ?_
        refine pureA_ (i := 2) (N := some 47) #[Y,Y,Y,N,N,N,N,N] rfl rfl (any_of HT_.out (by kernel_rfl)) ?_
        refine pureA_ (i := 4) (N := some 49) #[Y,Y,Y,N,Y,N,N,N] rfl rfl (any_of HT_.out (by kernel_rfl)) ?_
        refine take_ (i := 3) (N := some 48) (v := ?_) (a' := ?_) #[Y,Y,Y,Y,Y,N,N,N] rfl rfl (take_ofW HT_.out HW_.out (by kernel_rfl)) (fun _ _ _ h => h) (Or.inl ⟨by rfl, ?_⟩) hHeld ?_ ?_; rotate_left
        ·rintro w' ⟨s0, s1, s2⟩; go_simp
         with_reducible rfl
        rotate_left
        ·simp only [Act.put, sA, sB, sC, i64_w, i32_w]
         rfl
        refine one_ (i := 5) (N := some 50) #[Y,Y,Y,Y,Y,Y,N,N] rfl rfl (one_of HT_.out (by kernel_rfl)) (by decide) (fun K hK => ?_); refine goesA_ Try.func22 rfl #[.int .i64 t279] (by rfl) rfl rfl ?_
        with_reducible refine (big_OfS.calls t279 t280 t281 t282 _ A32.out).mono ?_
        rintro e w38 ⟨rfl, hb⟩; refine ⟨_, rfl, ?_⟩; replace BK261 := bbZ BK261 hb; replace BK270 := bbZ BK270 hb; replace HB := Aside0.mk (below_step HB.out hb); clear hb; refine hK.out _ _ ⟨(blk_cell BK270.out 0).trans rfl, (blk_cell BK270.out 1).trans rfl, (blk_cell BK270.out 2).trans rfl⟩ (fun hHeld => ?_); clear hK K; refine normA_ (some 50) ?_
        refine pureA_ (i := 6) (N := some 51) #[Y,Y,Y,Y,Y,Y,Y,N] rfl rfl (any_of HT_.out (by kernel_rfl)) ?_
        refine pureA_ (i := 7) (N := some 52) #[Y,Y,Y,Y,Y,Y,Y,Y] rfl rfl (any_of HT_.out (by kernel_rfl)) ?_
        refine done_ (done_of HT_.out (by kernel_rfl)) ?_
        try go_wp2
        go_ret2
        exact ⟨by first | rfl | (simp [errW_none, errW_some] <;> rfl) | (simp [*, errW_none, errW_some] <;> rfl), by repeat (first | (with_reducible first | exact HB.out | apply below_alloc | apply pw_below_drewN | apply below_drew1 | refine below_set ?_ (Aside0.out (by assumption))) | exact HB.out)⟩
       ·rw [if_neg c33] at H
        have c33b0 : (!(x271000_19 == t280) || (!(x271001_19 == t281) || (!(x271002_19 == t282)))) = false := by simpa using c33
        clear c33; simp only [Option.some.injEq, Prod.mk.injEq] at H; obtain ⟨rfl, rfl⟩ := H; have hnb39 := NB270_261.out; have hnc39 := NB261_270.out; have hcz40_0 : wc.cell? ⟨gb270, 0, none⟩ = some (.bool x271000_19) := (blk_cell BK270.out 0).trans rfl; have hcz40_1 : wc.cell? ⟨gb270, 1, none⟩ = some (.int .u64 x271001_19) := (blk_cell BK270.out 1).trans rfl; have hcz40_2 : wc.cell? ⟨gb270, 2, none⟩ = some (.int .u64 x271002_19) := (blk_cell BK270.out 2).trans rfl; have hfz40_0 := blk_frozen BK270.out 0; have hfz40_1 := blk_frozen BK270.out 1; have hfz40_2 := blk_frozen BK270.out 2
        try go_wp2_with (first | ((with_reducible refine gate_callee (f := 30) rfl ?_); refine goesLA_ (some 44) rfl rfl Try.func30 rfl #[.agg #[.bool x271000_19, .int .u64 x271001_19, .int .u64 x271002_19]] rfl ?_; (with_reducible refine (big_IntS.calls x271000_19 x271001_19 x271002_19 t279 _ A30.out).mono ?_); rintro e w41 ⟨rfl, hb⟩; refine ⟨_, rfl, ?_⟩; replace BK261 := bdZ BK261 hb; replace BK270 := bdZ BK270 hb; replace HB := stA hb; clear hb))
        replace BK261 := Aside0.mk (blk_drew BK261.out); replace BK270 := Aside0.mk (blk_drew BK270.out); replace HB := Aside0.mk (below_drew1 HB.out); refine start_ (n := 8) (S := fun w' => w'.cell? ⟨gb270, 0, none⟩ = some (.bool x271000_19) ∧ w'.cell? ⟨gb270, 1, none⟩ = some (.int .u64 x271001_19) ∧ w'.cell? ⟨gb270, 2, none⟩ = some (.int .u64 x271002_19)) (ds := []) #[N,N,N,N,N,N,N,N] (by kernel_rfl) rfl rfl ⟨(blk_cell BK270.out 0).trans rfl, (blk_cell BK270.out 1).trans rfl, (blk_cell BK270.out 2).trans rfl⟩ (fun hHeld => ?_); refine with_tabW frac_way_part_frac_Near.tab8 frac_way_part_frac_Near.bits8 (fun HT_ HW_ => ?_)
        generalize w41.drew = w42 at BK261 BK270 HB hHeld ⊢
        refine pureA_ (i := 0) (N := some 45) #[Y,N,N,N,N,N,N,N] rfl rfl (any_of HT_.out (by kernel_rfl)) ?_
        refine pureA_ (i := 1) (N := some 46) #[Y,Y,N,N,N,N,N,N] rfl rfl (any_of HT_.out (by kernel_rfl)) ?_
        refine pureA_ (i := 2) (N := some 47) #[Y,Y,Y,N,N,N,N,N] rfl rfl (any_of HT_.out (by kernel_rfl)) ?_
        refine pureA_ (i := 4) (N := some 49) #[Y,Y,Y,N,Y,N,N,N] rfl rfl (any_of HT_.out (by kernel_rfl)) ?_
        refine take_ (i := 3) (N := some 48) (v := ?_) (a' := ?_) #[Y,Y,Y,Y,Y,N,N,N] rfl rfl (take_ofW HT_.out HW_.out (by kernel_rfl)) (fun _ _ _ h => h) (Or.inl ⟨by rfl, ?_⟩) hHeld ?_ ?_; rotate_left
        ·rintro w' ⟨s0, s1, s2⟩; go_simp
         with_reducible rfl
        rotate_left
        ·simp only [Act.put, sA, sB, sC, i64_w, i32_w]
         rfl
        refine one_ (i := 5) (N := some 50) #[Y,Y,Y,Y,Y,Y,N,N] rfl rfl (one_of HT_.out (by kernel_rfl)) (by decide) (fun K hK => ?_); refine goesA_ Try.func22 rfl #[.int .i64 t279] (by rfl) rfl rfl ?_
        with_reducible refine (big_OfS.calls t279 t280 t281 t282 _ A32.out).mono ?_
        rintro e w43 ⟨rfl, hb⟩; refine ⟨_, rfl, ?_⟩; replace BK261 := bbZ BK261 hb; replace BK270 := bbZ BK270 hb; replace HB := Aside0.mk (below_step HB.out hb); clear hb; refine hK.out _ _ ⟨(blk_cell BK270.out 0).trans rfl, (blk_cell BK270.out 1).trans rfl, (blk_cell BK270.out 2).trans rfl⟩ (fun hHeld => ?_); clear hK K; refine normA_ (some 50) ?_
        refine pureA_ (i := 6) (N := some 51) #[Y,Y,Y,Y,Y,Y,Y,N] rfl rfl (any_of HT_.out (by kernel_rfl)) ?_
        refine pureA_ (i := 7) (N := some 52) #[Y,Y,Y,Y,Y,Y,Y,Y] rfl rfl (any_of HT_.out (by kernel_rfl)) ?_
        refine done_ (done_of HT_.out (by kernel_rfl)) ?_
        try go_wp2
        go_ret2
        exact ⟨by first | rfl | (simp [errW_none, errW_some] <;> rfl) | (simp [*, errW_none, errW_some] <;> rfl), by repeat (first | (with_reducible first | exact HB.out | apply below_alloc | apply pw_below_drewN | apply below_drew1 | refine below_set ?_ (Aside0.out (by assumption))) | exact HB.out)⟩
      ·rw [if_neg c31] at H
       have c31b0 : (x13_19 == 0) = false := beq_eq_false_iff_ne.mpr c31; have c31b1 : (x13_19 != 0) = true := bne_iff_ne.mpr c31; simp only [Option.some.injEq, Prod.mk.injEq] at H; obtain ⟨rfl, rfl⟩ := H; have hnb44 := NB270_261.out; have hnc44 := NB261_270.out; have hcz45_0 : wc.cell? ⟨gb270, 0, none⟩ = some (.bool x271000_19) := (blk_cell BK270.out 0).trans rfl; have hcz45_1 : wc.cell? ⟨gb270, 1, none⟩ = some (.int .u64 x271001_19) := (blk_cell BK270.out 1).trans rfl; have hcz45_2 : wc.cell? ⟨gb270, 2, none⟩ = some (.int .u64 x271002_19) := (blk_cell BK270.out 2).trans rfl; have hfz45_0 := blk_frozen BK270.out 0; have hfz45_1 := blk_frozen BK270.out 1; have hfz45_2 := blk_frozen BK270.out 2
       try go_wp2_with (first | ((with_reducible refine gate_callee (f := 30) rfl ?_); refine goesLA_ (some 44) rfl rfl Try.func30 rfl #[.agg #[.bool x271000_19, .int .u64 x271001_19, .int .u64 x271002_19]] rfl ?_; (with_reducible refine (big_IntS.calls x271000_19 x271001_19 x271002_19 t279 _ A30.out).mono ?_); rintro e w46 ⟨rfl, hb⟩; refine ⟨_, rfl, ?_⟩; replace BK261 := bdZ BK261 hb; replace BK270 := bdZ BK270 hb; replace HB := stA hb; clear hb))
       replace BK261 := Aside0.mk (blk_drew BK261.out); replace BK270 := Aside0.mk (blk_drew BK270.out); replace HB := Aside0.mk (below_drew1 HB.out); refine start_ (n := 8) (S := fun w' => True) (ds := []) #[N,N,N,N,N,N,N,N] (by kernel_rfl) rfl rfl trivial (fun hHeld => ?_); refine with_tabW frac_way_part_frac_Near.tab8 frac_way_part_frac_Near.bits8 (fun HT_ HW_ => ?_)
       generalize w46.drew = w47 at BK261 BK270 HB hHeld ⊢
       refine pureA_ (i := 0) (N := some 45) #[Y,N,N,N,N,N,N,N] rfl rfl (any_of HT_.out (by kernel_rfl)) ?_
       refine pureA_ (i := 1) (N := some 46) #[Y,Y,N,N,N,N,N,N] rfl rfl (any_of HT_.out (by kernel_rfl)) ?_
       refine pureA_ (i := 2) (N := some 47) #[Y,Y,Y,N,N,N,N,N] rfl rfl (any_of HT_.out (by kernel_rfl)) ?_
       refine pure_ (i := 3) (N := some 48) (v := undef) (a' := ?_) #[Y,Y,Y,Y,N,N,N,N] rfl rfl (any_of HT_.out (by kernel_rfl)) (fun _ _ _ h => h) (Or.inr ⟨by rfl, rfl⟩) ?_ ?_; rotate_left
       ·simp only [Act.put, sA, sB, sC, i64_w, i32_w]
        rfl
       refine pure_ (i := 4) (N := some 49) (v := undef) (a' := ?_) #[Y,Y,Y,Y,Y,N,N,N] rfl rfl (any_of HT_.out (by kernel_rfl)) (fun _ _ _ h => h) (Or.inr ⟨by rfl, rfl⟩) ?_ ?_; rotate_left
       ·simp only [Act.put, sA, sB, sC, i64_w, i32_w]
        rfl
       refine pure_ (i := 5) (N := some 50) (v := undef) (a' := ?_) #[Y,Y,Y,Y,Y,Y,N,N] rfl rfl (any_of HT_.out (by kernel_rfl)) (fun _ _ _ h => h) (Or.inr ⟨by rfl, rfl⟩) ?_ ?_; rotate_left
       ·simp only [Act.put, sA, sB, sC, i64_w, i32_w]
        rfl
       refine pure_ (i := 6) (N := some 51) (v := undef) (a' := ?_) #[Y,Y,Y,Y,Y,Y,Y,N] rfl rfl (any_of HT_.out (by kernel_rfl)) (fun _ _ _ h => h) (Or.inr ⟨by rfl, rfl⟩) ?_ ?_; rotate_left
       ·simp only [Act.put, sA, sB, sC, i64_w, i32_w]
        rfl
       refine pureA_ (i := 7) (N := some 52) #[Y,Y,Y,Y,Y,Y,Y,Y] rfl rfl (any_of HT_.out (by kernel_rfl)) ?_
       refine done_ (done_of HT_.out (by kernel_rfl)) ?_
       try go_wp2
       go_ret2
       exact ⟨by first | rfl | (simp [errW_none, errW_some] <;> rfl) | (simp [*, errW_none, errW_some] <;> rfl), by repeat (first | (with_reducible first | exact HB.out | apply below_alloc | apply pw_below_drewN | apply below_drew1 | refine below_set ?_ (Aside0.out (by assumption))) | exact HB.out)⟩

/-! ### frac_Near: function 37 -/
noncomputable def frac_Near.f (k : Nat) (a0 : Int) (a1 : Int) (a2 : Int) : Option (Int × Int) := (frac_way_part_frac_Near.f k () a0 a1 a2).bind fun bt283 => (some (bt283.1, bt283.2))
theorem frac_Near.mono : ∀ a0 a1 a2 k, LeO (frac_Near.f k a0 a1 a2) (frac_Near.f (k + 1) a0 a1 a2) := by
 intro a0 a1 a2 k
 unfold frac_Near.f
 repeat' first
   | (with_reducible exact frac_way_part_frac_Near.mono _ _ _ _ _)
   | (with_reducible exact LeO.refl _)
   | (with_reducible exact LeO.none _)
   | (with_reducible refine LeO.ite ?_ ?_)
   | (with_reducible refine LeO.bind ?_ (fun _ => ?_))
   | exact frac_way_part_frac_Near.mono _ _ _ _ _
   | exact LeO.none _
   | refine LeO.ite ?_ ?_
   | refine LeO.bind ?_ (fun _ => ?_)
set_option maxHeartbeats 8000000 in
set_option maxRecDepth 100000 in
theorem frac_Near.calls (k : Nat) (a0 : Int) (a1 : Int) (a2 : Int) (r1 : Int) (r2 : Int) (w : World) (h : frac_Near.f k a0 a1 a2 = some (r1, r2)) :
  Calls Try.prog 37 #[.int .i64 a0, .int .i64 a1, .int .i64 a2] w fun e w' => e = .returned (.tuple #[.int .i64 r1, .int .i64 r2]) ∧ Below w.heap.size w w' := by
 have hu75 := Try.underlying75; have HB := Aside0.mk (Below.refl w.heap.size w); have H : ((frac_way_part_frac_Near.f k () a0 a1 a2).bind fun bt283 => (some (bt283.1, bt283.2))) = some (r1, r2) := h; clear h; replace H := Option.bind_eq_some_iff.mp H; obtain ⟨⟨t283, t284⟩, A40, H⟩ := H; replace H : (some (t283, t284)) = some (r1, r2) := H; have A4 := Aside0.mk A40; clear A40; simp only [Option.some.injEq, Prod.mk.injEq] at H; obtain ⟨rfl, rfl⟩ := H
 go_enter Try.func37, Try.ntmps37
 go_wp2_with (first | ((with_reducible refine gate_callee (f := 61) rfl ?_); refine goesLA_ (some 12) rfl rfl Try.func61 rfl #[.agg #[.func (.func 64) #[] #[]], .int .i64 a0, .int .i64 a1, .int .i64 a2] rfl ?_; (with_reducible refine (frac_way_part_frac_Near.calls k () a0 a1 a2 t283 t284 _ A4.out).mono ?_); rintro e w5 ⟨rfl, hb⟩; refine ⟨_, rfl, ?_⟩; replace HB := stA hb; clear hb))
 go_ret2
 exact ⟨by first | rfl | (simp [errW_none, errW_some] <;> rfl) | (simp [*, errW_none, errW_some] <;> rfl), by repeat (first | (with_reducible first | exact HB.out | apply below_alloc | apply pw_below_drewN | apply below_drew1) | exact HB.out)⟩

/-! ### frac_NearS: a part of a product, the nearest: pure, behind function 37 -/
noncomputable def frac_NearS.f (a b c : Int) : Option (Int × Int) := Go.Proofs.Ytkoeehacildioaa.Sp.need (Go.Proofs.Ytkoeehacildioaa.Sp.I a ∧ Go.Proofs.Ytkoeehacildioaa.Sp.I b ∧ Go.Proofs.Ytkoeehacildioaa.Sp.I c) (Go.Proofs.Ytkoeehacildioaa.Sp.nearQ a b c)
section FracNear
open Go.Proofs.Ytkoeehacildioaa.Sp
theorem frac_way_part_frac_Near.j1_eq {q : Int} (h : B q) : frac_way_part_frac_Near.j1 1 0 (encN q) (encH q) (encL q) = fit q := by
 simp only [frac_way_part_frac_Near.j1]
 rw [big_IntS.enc h]
 simp only [Option.bind_some, if_true]
 rw [big_OfS.eq (near_I _)]
 simp only [Option.bind_some]
 rw [enc_bne]
 unfold fit
 by_cases hi : I q
 ·rw [near_in hi, if_pos hi]; simp
 ·rw [if_neg hi, if_pos]
  have : ¬ q = near q := fun e => hi (e ▸ near_I q)
  simp [this]
theorem frac_way_part_frac_Near.j0_eq {q : Int} (h : -85070591730234615865843651857942052864 ≤ q ∧ q ≤ 85070591730234615865843651857942052864) (up : Bool) : frac_way_part_frac_Near.j0 2 0 up (encN q) (encH q) (encL q) = fit (if up = true then q + 1 else q) := by
 simp only [frac_way_part_frac_Near.j0]
 cases up with
 | false =>
  simp only [Bool.false_eq_true, if_false]; exact frac_way_part_frac_Near.j1_eq (by omega)
 | true =>
  simp only [if_true]
  rw [big_OfS.eq (by omega)]
  simp only [Option.bind_some]
  rw [big_AddS.enc (by omega) (by omega), held_in (by omega)]
  simp only [Option.bind_some]; exact frac_way_part_frac_Near.j1_eq (by omega)
theorem frac_Near.main {a b c : Int} (h1 : I a) (h2 : I b) (h3 : I c) : frac_Near.f 2 a b c = nearQ a b c := by
 unfold frac_Near.f frac_way_part_frac_Near.f
 by_cases hc : c < 1
 ·rw [if_pos hc]; unfold nearQ; rw [if_pos hc]; rfl
 ·have hp : 0 < c := by omega
  have hm := mulI h1 h2; have r0 := Int.emod_nonneg (a * b) (show c ≠ 0 by omega); have r1 := Int.emod_lt_of_pos (a * b) hp; have hq := quoI hm hp
  rw [if_neg hc, big_MulS.eq h1 h2, u64w_in (x := c) (by omega)]
  simp only [Option.bind_some]
  rw [big_DivS.enc (by omega) (by omega), quo_pos (by omega)]
  simp only [Option.bind_some, if_true, frac_Near_1.f]
  rw [show ∀ x : Option (Int × Int), (x.bind fun bt => some (bt.1, bt.2)) = x from fun x => by cases x <;> rfl]
  rw [frac_way_part_frac_Near.j0_eq hq (decide _)]
  unfold nearQ; rw [if_neg hc, u64w_in (x := c - a * b % c) (by omega)]
  have e := Int.emod_add_ediv_mul (a * b) c
  have e2 : (a * b + c / 2) / c = a * b / c + (a * b % c + c / 2) / c := by
   have : a * b + c / 2 = (a * b % c + c / 2) + (a * b / c) * c := by omega
   rw [this, Int.add_mul_ediv_right _ _ (by omega)]; omega
  by_cases hz : a * b % c ≥ c - a * b % c
  ·have : (a * b % c + c / 2) / c = 1 := by
    have h1 : a * b % c + c / 2 = (a * b % c + c / 2 - c) + 1 * c := by omega
    rw [h1, Int.add_mul_ediv_right _ _ (by omega), Int.ediv_eq_zero_of_lt (by omega) (by omega)]; rfl
   rw [if_pos (decide_eq_true hz), e2, this]
  ·have : (a * b % c + c / 2) / c = 0 := Int.ediv_eq_zero_of_lt (by omega) (by omega)
   rw [if_neg (by simpa using hz), e2, this, Int.add_zero]
theorem frac_NearS.eq {a b c : Int} (h1 : I a) (h2 : I b) (h3 : I c) : frac_NearS.f a b c = nearQ a b c := need_pos ⟨h1, h2, h3⟩
end FracNear
theorem frac_NearS.calls (a0 a1 a2 r1 r2 : Int) (w : World) (h : frac_NearS.f a0 a1 a2 = some (r1, r2)) :
  Calls Try.prog 37 #[.int .i64 a0, .int .i64 a1, .int .i64 a2] w fun e w' => e = .returned (.tuple #[.int .i64 r1, .int .i64 r2]) ∧ Below w.heap.size w w' := by
 obtain ⟨hc, h⟩ := Go.Proofs.Ytkoeehacildioaa.Sp.need_some h; obtain ⟨h1, h2, h3⟩ := hc; exact frac_Near.calls 2 a0 a1 a2 r1 r2 w (by rw [frac_Near.main h1 h2 h3]; exact h)

/-! ### frac_Segs: function 39 -/
noncomputable def frac_Segs.f (a0 : Int) (a1 : Int) : Option (Int × Int) := (frac_FloorS.f a0 65536 a1).bind fun bt285 => (some (bt285.1, bt285.2))
set_option maxHeartbeats 8000000 in
set_option maxRecDepth 100000 in
theorem frac_Segs.calls (a0 : Int) (a1 : Int) (r1 : Int) (r2 : Int) (w : World) (h : frac_Segs.f a0 a1 = some (r1, r2)) :
  Calls Try.prog 39 #[.int .i64 a0, .int .i64 a1] w fun e w' => e = .returned (.tuple #[.int .i64 r1, .int .i64 r2]) ∧ Below w.heap.size w w' := by
 have HB := Aside0.mk (Below.refl w.heap.size w); have H : ((frac_FloorS.f a0 65536 a1).bind fun bt285 => (some (bt285.1, bt285.2))) = some (r1, r2) := h; clear h; replace H := Option.bind_eq_some_iff.mp H; obtain ⟨⟨t285, t286⟩, A30, H⟩ := H; replace H : (some (t285, t286)) = some (r1, r2) := H; have A3 := Aside0.mk A30; clear A30; simp only [Option.some.injEq, Prod.mk.injEq] at H; obtain ⟨rfl, rfl⟩ := H
 go_enter Try.func39, Try.ntmps39
 go_wp2_with (first | ((with_reducible refine gate_callee (f := 33) rfl ?_); refine goesLA_ (some 8) rfl rfl Try.func33 rfl #[.int .i64 a0, .int .i64 65536, .int .i64 a1] rfl ?_; (with_reducible refine (frac_FloorS.calls a0 65536 a1 t285 t286 _ A3.out).mono ?_); rintro e w4 ⟨rfl, hb⟩; refine ⟨_, rfl, ?_⟩; replace HB := stA hb; clear hb))
 go_ret2
 exact ⟨by first | rfl | (simp [errW_none, errW_some] <;> rfl) | (simp [*, errW_none, errW_some] <;> rfl), by repeat (first | (with_reducible first | exact HB.out | apply below_alloc | apply pw_below_drewN | apply below_drew1) | exact HB.out)⟩

/-! ### frac_SegsS: pure, behind function 39 -/
noncomputable def frac_SegsS.f (a c : Int) : Option (Int × Int) := Go.Proofs.Ytkoeehacildioaa.Sp.need (Go.Proofs.Ytkoeehacildioaa.Sp.I a ∧ Go.Proofs.Ytkoeehacildioaa.Sp.I c) (Go.Proofs.Ytkoeehacildioaa.Sp.floorQ a 65536 c)
theorem frac_SegsS.eq {a c : Int} (h1 : Go.Proofs.Ytkoeehacildioaa.Sp.I a) (h2 : Go.Proofs.Ytkoeehacildioaa.Sp.I c) : frac_SegsS.f a c = Go.Proofs.Ytkoeehacildioaa.Sp.floorQ a 65536 c := Go.Proofs.Ytkoeehacildioaa.Sp.need_pos ⟨h1, h2⟩
theorem frac_SegsS.calls (a0 a1 r1 r2 : Int) (w : World) (h : frac_SegsS.f a0 a1 = some (r1, r2)) :
  Calls Try.prog 39 #[.int .i64 a0, .int .i64 a1] w fun e w' => e = .returned (.tuple #[.int .i64 r1, .int .i64 r2]) ∧ Below w.heap.size w w' := by
 obtain ⟨hc, h⟩ := Go.Proofs.Ytkoeehacildioaa.Sp.need_some h; refine frac_Segs.calls a0 a1 r1 r2 w ?_
 unfold frac_Segs.f
 rw [frac_FloorS.eq (by omega) (by omega) (by omega), h]
 rfl

/-! ### frac_Bytes: function 41 -/
noncomputable def frac_Bytes.f (a0 : Int) (a1 : Int) : Option (Int × Int) := (frac_FloorS.f a0 a1 65536).bind fun bt287 => (some (bt287.1, bt287.2))
set_option maxHeartbeats 8000000 in
set_option maxRecDepth 100000 in
theorem frac_Bytes.calls (a0 : Int) (a1 : Int) (r1 : Int) (r2 : Int) (w : World) (h : frac_Bytes.f a0 a1 = some (r1, r2)) :
  Calls Try.prog 41 #[.int .i64 a0, .int .i64 a1] w fun e w' => e = .returned (.tuple #[.int .i64 r1, .int .i64 r2]) ∧ Below w.heap.size w w' := by
 have HB := Aside0.mk (Below.refl w.heap.size w); have H : ((frac_FloorS.f a0 a1 65536).bind fun bt287 => (some (bt287.1, bt287.2))) = some (r1, r2) := h; clear h; replace H := Option.bind_eq_some_iff.mp H; obtain ⟨⟨t287, t288⟩, A30, H⟩ := H; replace H : (some (t287, t288)) = some (r1, r2) := H; have A3 := Aside0.mk A30; clear A30; simp only [Option.some.injEq, Prod.mk.injEq] at H; obtain ⟨rfl, rfl⟩ := H
 go_enter Try.func41, Try.ntmps41
 go_wp2_with (first | ((with_reducible refine gate_callee (f := 33) rfl ?_); refine goesLA_ (some 8) rfl rfl Try.func33 rfl #[.int .i64 a0, .int .i64 a1, .int .i64 65536] rfl ?_; (with_reducible refine (frac_FloorS.calls a0 a1 65536 t287 t288 _ A3.out).mono ?_); rintro e w4 ⟨rfl, hb⟩; refine ⟨_, rfl, ?_⟩; replace HB := stA hb; clear hb))
 go_ret2
 exact ⟨by first | rfl | (simp [errW_none, errW_some] <;> rfl) | (simp [*, errW_none, errW_some] <;> rfl), by repeat (first | (with_reducible first | exact HB.out | apply below_alloc | apply pw_below_drewN | apply below_drew1) | exact HB.out)⟩

/-! ### frac_BytesS: pure, behind function 41 -/
noncomputable def frac_BytesS.f (a c : Int) : Option (Int × Int) := Go.Proofs.Ytkoeehacildioaa.Sp.need (Go.Proofs.Ytkoeehacildioaa.Sp.I a ∧ Go.Proofs.Ytkoeehacildioaa.Sp.I c) (Go.Proofs.Ytkoeehacildioaa.Sp.floorQ a c 65536)
theorem frac_BytesS.eq {a c : Int} (h1 : Go.Proofs.Ytkoeehacildioaa.Sp.I a) (h2 : Go.Proofs.Ytkoeehacildioaa.Sp.I c) : frac_BytesS.f a c = Go.Proofs.Ytkoeehacildioaa.Sp.floorQ a c 65536 := Go.Proofs.Ytkoeehacildioaa.Sp.need_pos ⟨h1, h2⟩
theorem frac_BytesS.calls (a0 a1 r1 r2 : Int) (w : World) (h : frac_BytesS.f a0 a1 = some (r1, r2)) :
  Calls Try.prog 41 #[.int .i64 a0, .int .i64 a1] w fun e w' => e = .returned (.tuple #[.int .i64 r1, .int .i64 r2]) ∧ Below w.heap.size w w' := by
 obtain ⟨hc, h⟩ := Go.Proofs.Ytkoeehacildioaa.Sp.need_some h; refine frac_Bytes.calls a0 a1 r1 r2 w ?_
 unfold frac_Bytes.f
 rw [frac_FloorS.eq (by omega) (by omega) (by omega), h]
 rfl

/-! ### frac_Whole: function 43 -/
noncomputable def frac_Whole.f (a0 : Int) : Option (Int) := some (a0 / 65536)
set_option maxHeartbeats 8000000 in
set_option maxRecDepth 100000 in
theorem frac_Whole.calls (a0 : Int) (r : Int) (w : World) (h : frac_Whole.f a0 = some r) :
  Calls Try.prog 43 #[.int .i64 a0] w fun e w' => e = .returned (.int .i64 r) ∧ Drawn0 w w' := by
 have H : (some (a0 / 65536)) = some r := h; clear h; obtain rfl := Option.some.inj H
 go_enter Try.func43, Try.ntmps43
 go_wp2
 go_ret
 exact ⟨by first | rfl | (simp; done) | (simp [*]; done), by repeat (first | exact Drawn0.refl _ | apply Drawn0.step)⟩

end Go.Proofs.Ytkoeehacildioaa.Px
