/- Printed by px.py, over the kit's print. Conditions: none beside the theorems' own. -/
import Derived.Test.YtfahbgkoldoflaaGreatDoorPx0
import Derived.Test.YtfahbgkoldoflaaGreatDoorPx2
import Derived.Test.YtfahbgkoldoflaaGreatDoorPx4
import Derived.Test.YtfahbgkoldoflaaGreatDoorPx14
import Derived.Test.YtfahbgkoldoflaaGreatDoorPx17
import Derived.Test.YtfahbgkoldoflaaGreatDoorPx19
import Derived.Test.YtfahbgkoldoflaaGreatDoorSpec
namespace Go.Proofs.YtfahbgkoldoflaaGreatDoor.Px
open Go.RowKit Go.Proofs.YtfahbgkoldoflaaGreatDoorW.PrintWords Go.Proofs.YtfahbgkoldoflaaGreatDoorW.PrintLast Go.Proofs.YtfahbgkoldoflaaGreatDoorW.PrintMore
attribute [local go_sem] max2_int min2_int max_two min_two max_three min_three max_four min_four
set_option linter.unusedVariables false
set_option linter.unusedSimpArgs false

attribute [local go_sem high] eqA39 eqA99
/-! ### frac_way_part_frac_Floor: function 100 -/
mutual
noncomputable def frac_way_part_frac_Floor.j0 : Nat → Int → Bool → Bool → Int → Int → Option (Int × Int)
 | 0, _, _, _, _, _ => none
 | k + 1, x13, x36, x238000, x238001, x238002 => if x36 = true then ((big_OfS.f 1).bind fun bt239 => ((big_AddS.f x238000 x238001 x238002 bt239.1 bt239.2.1 bt239.2.2).bind fun bt242 => (frac_way_part_frac_Floor.j1 k bt242.2.2.2 bt242.1 bt242.2.1 bt242.2.2.1))) else (frac_way_part_frac_Floor.j1 k x13 x238000 x238001 x238002)
noncomputable def frac_way_part_frac_Floor.j1 : Nat → Int → Bool → Int → Int → Option (Int × Int)
 | 0, _, _, _, _ => none
 | k + 1, x13, x238000, x238001, x238002 => (big_IntS.f x238000 x238001 x238002).bind fun t246 => (if x13 = 0 then ((big_OfS.f t246).bind fun bt247 => (if (!(x238000 == bt247.1) || (!(x238001 == bt247.2.1) || (!(x238002 == bt247.2.2)))) = true then (some (0, 10)) else (some (t246, 0)))) else (some (0, 10)))
end
noncomputable def frac_way_part_frac_Floor.f (k : Nat) (a0_0 : Unit) (a1 : Int) (a2 : Int) (a3 : Int) : Option (Int × Int) := if a3 < 1 then (some (0, 20)) else ((big_MulS.f a1 a2).bind fun bt229 => ((big_DivS.f bt229.1 bt229.2.1 bt229.2.2 (IntKind.u64.wrap (a3))).bind fun bt232 => (if bt232.2.2.2.2 = 0 then ((frac_Floor_1.f bt232.2.2.2.1 (IntKind.u64.wrap (a3))).bind fun t238 => (frac_way_part_frac_Floor.j0 k bt232.2.2.2.2 t238 bt232.1 bt232.2.1 bt232.2.2.1)) else (frac_way_part_frac_Floor.j0 k bt232.2.2.2.2 false bt232.1 bt232.2.1 bt232.2.2.1))))
def frac_way_part_frac_Floor.T6 : Bool × List (List Nat × List Nat) := (true, [([], []), ([], []), ([0, 1, 1], [0, 1]), ([2], [2]), ([3], [3]), ([3], [3]), ([4, 2, 0, 1, 2, 3, 4], [4]), ([5, 6, 0, 1, 2, 3, 4, 5, 6], [5])])
def frac_way_part_frac_Floor.B6 : List Nat := [0, 0, 3, 7, 15, 15, 31, 127]
theorem frac_way_part_frac_Floor.tab6 : rtab .any (opsOf Tryz.f100 6) = frac_way_part_frac_Floor.T6 := by kernel_rfl
theorem frac_way_part_frac_Floor.bits6 : waitsOk frac_way_part_frac_Floor.T6.2 frac_way_part_frac_Floor.B6 = true := by kernel_rfl
def frac_way_part_frac_Floor.T8 : Bool × List (List Nat × List Nat) := (true, [([], []), ([0], [0]), ([1], [1]), ([2], [2]), ([2], [2]), ([4, 2, 2], [2, 4]), ([3, 5, 2], [2, 3, 5]), ([2, 6], [2, 6])])
def frac_way_part_frac_Floor.B8 : List Nat := [0, 1, 3, 7, 7, 23, 63, 127]
theorem frac_way_part_frac_Floor.tab8 : rtab .any (opsOf Tryz.f100 8) = frac_way_part_frac_Floor.T8 := by kernel_rfl
theorem frac_way_part_frac_Floor.bits8 : waitsOk frac_way_part_frac_Floor.T8.2 frac_way_part_frac_Floor.B8 = true := by kernel_rfl
set_option maxHeartbeats 8000000 in
set_option maxRecDepth 100000 in
theorem frac_way_part_frac_Floor.calls (k : Nat) (a0_0 : Unit) (a1 : Int) (a2 : Int) (a3 : Int) (r1 : Int) (r2 : Int) (w : World) (h : frac_way_part_frac_Floor.f k a0_0 a1 a2 a3 = some (r1, r2)) :
  Calls Tryz.prog 100 #[.agg #[.func (.func 99) #[] #[]], .int .i64 a1, .int .i64 a2, .int .i64 a3] w fun e w' => e = .returned (.tuple #[.int .i64 r1, .int .i64 r2]) ∧ Below w.heap.size w w' := by
 have hu151 := Tryz.underlying151; have hu99 := Tryz.underlying99; have HB := Aside0.mk (Below.refl w.heap.size w); have H : (if a3 < 1 then (some (0, 20)) else ((big_MulS.f a1 a2).bind fun bt229 => ((big_DivS.f bt229.1 bt229.2.1 bt229.2.2 (IntKind.u64.wrap (a3))).bind fun bt232 => (if bt232.2.2.2.2 = 0 then ((frac_Floor_1.f bt232.2.2.2.1 (IntKind.u64.wrap (a3))).bind fun t238 => (frac_way_part_frac_Floor.j0 k bt232.2.2.2.2 t238 bt232.1 bt232.2.1 bt232.2.2.1)) else (frac_way_part_frac_Floor.j0 k bt232.2.2.2.2 false bt232.1 bt232.2.1 bt232.2.2.1))))) = some (r1, r2) := h; clear h
 by_cases c5 : a3 < 1
 ·rw [if_pos c5] at H
  have c5b0 : decide (a3 < 1) = true := decide_eq_true c5; clear c5; simp only [Option.some.injEq, Prod.mk.injEq] at H; obtain ⟨rfl, rfl⟩ := H
  go_enter Tryz.func100, Tryz.ntmps100
  go_wp2_with (first | ((with_reducible refine gate_dst (N := 4) rfl ?_); refine box_event ?hg (N := 4) ?hd (cs := #[.func (.func 99) #[] #[]]) (t := 151) ?hr ?_; (case hd => rfl); (case hg => rfl); (case hr => first | (go_simp; done) | (go_simp; rfl)); intro gb228 hg w6 hbox hb; have BK228 := Aside0.mk (hbox); obtain ⟨GW228, nHB⟩ := geA hg hb; have GE228 := GW228; replace HB := nHB; clear nHB; clear hb hbox hg))
  go_ret2
  exact ⟨by first | rfl | (simp [errW_none, errW_some] <;> rfl) | (simp [*, errW_none, errW_some] <;> rfl), by repeat (first | (with_reducible first | exact HB.out | apply below_alloc | apply pw_below_drewN | apply below_drew1 | refine below_set ?_ GE228.out) | exact HB.out)⟩
 ·rw [if_neg c5] at H
  have c5b0 : decide (a3 < 1) = false := decide_eq_false c5; clear c5; replace H := Option.bind_eq_some_iff.mp H; obtain ⟨⟨t229, t230, t231⟩, A70, H⟩ := H; (try dsimp only at H); have A7 := Aside0.mk A70; clear A70; replace H := Option.bind_eq_some_iff.mp H; obtain ⟨⟨t232, t233, t234, t235, t236⟩, A80, H⟩ := H; (try dsimp only at H); have A8 := Aside0.mk A80; clear A80; have HC9 := Aside0.mk H; clear H
  go_enter Tryz.func100, Tryz.ntmps100
  go_upto_region 5 with (first | ((with_reducible refine gate_dst (N := 4) rfl ?_); refine box_event ?hg (N := 4) ?hd (cs := #[.func (.func 99) #[] #[]]) (t := 151) ?hr ?_; (case hd => rfl); (case hg => rfl); (case hr => first | (go_simp; done) | (go_simp; rfl)); intro gb228 hg w10 hbox hb; have BK228 := Aside0.mk (hbox); obtain ⟨GW228, nHB⟩ := geA hg hb; have GE228 := GW228; replace HB := nHB; clear nHB; clear hb hbox hg) | ((with_reducible refine gate_callee (f := 131) rfl ?_); refine goesLA_ (some 22) rfl rfl Tryz.func131 rfl #[.int .i64 a1, .int .i64 a2] rfl ?_; (with_reducible refine (big_MulS.calls a1 a2 t229 t230 t231 _ A7.out).mono ?_); rintro e w11 ⟨rfl, hb⟩; refine ⟨_, rfl, ?_⟩; replace BK228 := bdZ BK228 hb; replace HB := stA hb; clear hb) | ((with_reducible refine gate_callee (f := 50) rfl ?_); refine goesLA_ (some 24) rfl rfl Tryz.func50 rfl #[.agg #[.bool t229, .int .u64 t230, .int .u64 t231], .int .u64 (IntKind.u64.wrap (a3))] rfl ?_; (with_reducible refine (big_DivS.calls t229 t230 t231 (IntKind.u64.wrap (a3)) t232 t233 t234 t235 t236 _ A8.out).mono ?_); rintro e w12 ⟨rfl, hb⟩; refine ⟨_, rfl, ?_⟩; replace BK228 := bdZ BK228 hb; replace HB := stA hb; clear hb) | ((with_reducible refine gate_dst (N := 11) rfl ?_); refine box_event ?hg (N := 11) ?hd (cs := #[.bool false, .int .u64 0, .int .u64 0]) (t := 99) ?hr ?_; (case hd => rfl); (case hg => rfl); (case hr => first | (go_simp; done) | (go_simp; rfl)); intro gb237 hg w13 hbox hb; have BK237 := Aside0.mk (hbox); obtain ⟨GW237, nHB⟩ := geA hg hb; have GE237 := GW237; obtain ⟨NB228_237, NB237_228, nBK⟩ := nbA BK228 hg hb; replace BK228 := nBK; clear nBK; replace HB := nHB; clear nHB; clear hb hbox hg; have hnb14 := NB237_228.out; have hnc14 := NB228_237.out; have hcz15_0 := czZ BK237 0 (.bool false); have hcz15_1 := czZ BK237 1 (.int .u64 0); have hcz15_2 := czZ BK237 2 (.int .u64 0); have hfz15_0 := blk_frozen BK237.out 0; have hfz15_1 := blk_frozen BK237.out 1; have hfz15_2 := blk_frozen BK237.out 2))
  (try simp only [Act.put, sA, sB, sC])
  go_cut [36] (fun v36 wc => ∃ (kq : Nat) (x36_8 : Bool), v36 = .bool x36_8 ∧ Aside0 (frac_way_part_frac_Floor.j0 kq t236 x36_8 t232 t233 t234 = some (r1, r2)) ∧ Aside0 (kq ≤ k) ∧ Aside0 (wc.heap[gb228]? = some (.cells #[.func (.func 99) #[] #[]] 151 (0, 0))) ∧ Aside0 (wc.heap[gb237]? = some (.cells #[.bool t232, .int .u64 t233, .int .u64 t234] 99 (0, 0))) ∧ Aside0 (Below w.heap.size w wc))
  case first =>
   have H := HC9.out; clear HC9
   by_cases c16 : t236 = 0
   ·rw [if_pos c16] at H
    have c16b0 : (t236 == 0) = true := beq_iff_eq.mpr c16; have c16b1 : (t236 != 0) = false := bne_eq_false_iff_eq.mpr c16; clear c16
    (first | rw [c16b0] | (simp only [i64_w, i32_w]; rw [c16b0]) | skip)
    replace H := Option.bind_eq_some_iff.mp H; obtain ⟨t238, A170, H⟩ := H; replace H : (frac_way_part_frac_Floor.j0 k t236 t238 t232 t233 t234) = some (r1, r2) := H; have A17 := Aside0.mk A170; clear A170; have H' := Aside0.mk H; clear H; have hnb18 := NB228_237.out; have hnc18 := NB237_228.out; have hcz19_0 := czZ BK228 0 (.func (.func 99) #[] #[]); have hfz19_0 := blk_frozen BK228.out 0
    go_wp2_with (first | (go_at_call 99; (with_reducible refine (frac_Floor_1.calls t235 (IntKind.u64.wrap (a3)) t238 _ A17.out).mono ?_); rintro e w' ⟨rfl, ⟨nd, rfl⟩⟩))
    go_meet
    case rel => exact ⟨_, (t238), (by first | rfl | (simp; done) | (simp [*]; done)), H', ⟨by first | omega | exact Nat.le_refl _⟩, ⟨by (with_reducible repeat first | apply blk_drewN | apply blk_drew | apply blk_alloc); refine blk_far ?_ NB228_237.out _; (with_reducible repeat first | apply blk_drewN | apply blk_drew | apply blk_alloc); refine blk_far ?_ NB228_237.out _; (with_reducible repeat first | apply blk_drewN | apply blk_drew | apply blk_alloc); refine blk_far ?_ NB228_237.out _; (with_reducible repeat first | apply blk_drewN | apply blk_drew | apply blk_alloc); exact BK228.out⟩, ⟨by (with_reducible repeat first | apply blk_drewN | apply blk_drew | apply blk_alloc); refine blk_put (cs := #[.bool t232, .int .u64 t233, .int .u64 0]) ?_ 2 _ rfl; (with_reducible repeat first | apply blk_drewN | apply blk_drew | apply blk_alloc); refine blk_put (cs := #[.bool t232, .int .u64 0, .int .u64 0]) ?_ 1 _ rfl; (with_reducible repeat first | apply blk_drewN | apply blk_drew | apply blk_alloc); refine blk_put (cs := #[.bool false, .int .u64 0, .int .u64 0]) ?_ 0 _ rfl; (with_reducible repeat first | apply blk_drewN | apply blk_drew | apply blk_alloc); exact BK237.out⟩, ⟨by repeat (first | (with_reducible first | exact HB.out | apply below_alloc | apply pw_below_drewN | apply below_drew1 | refine below_set ?_ (Aside0.out (by assumption))) | exact HB.out)⟩⟩
   ·rw [if_neg c16] at H
    have c16b0 : (t236 == 0) = false := beq_eq_false_iff_ne.mpr c16; have c16b1 : (t236 != 0) = true := bne_iff_ne.mpr c16
    (first | rw [c16b0] | (simp only [i64_w, i32_w]; rw [c16b0]) | skip)
    have H' := Aside0.mk H; clear H
    go_wp2
    go_meet
    case rel => exact ⟨_, (false), (by first | rfl | (simp; done) | (simp [*]; done)), H', ⟨by first | omega | exact Nat.le_refl _⟩, ⟨by (with_reducible repeat first | apply blk_drewN | apply blk_drew | apply blk_alloc); refine blk_far ?_ NB228_237.out _; (with_reducible repeat first | apply blk_drewN | apply blk_drew | apply blk_alloc); refine blk_far ?_ NB228_237.out _; (with_reducible repeat first | apply blk_drewN | apply blk_drew | apply blk_alloc); refine blk_far ?_ NB228_237.out _; (with_reducible repeat first | apply blk_drewN | apply blk_drew | apply blk_alloc); exact BK228.out⟩, ⟨by (with_reducible repeat first | apply blk_drewN | apply blk_drew | apply blk_alloc); refine blk_put (cs := #[.bool t232, .int .u64 t233, .int .u64 0]) ?_ 2 _ rfl; (with_reducible repeat first | apply blk_drewN | apply blk_drew | apply blk_alloc); refine blk_put (cs := #[.bool t232, .int .u64 0, .int .u64 0]) ?_ 1 _ rfl; (with_reducible repeat first | apply blk_drewN | apply blk_drew | apply blk_alloc); refine blk_put (cs := #[.bool false, .int .u64 0, .int .u64 0]) ?_ 0 _ rfl; (with_reducible repeat first | apply blk_drewN | apply blk_drew | apply blk_alloc); exact BK237.out⟩, ⟨by repeat (first | (with_reducible first | exact HB.out | apply below_alloc | apply pw_below_drewN | apply below_drew1 | refine below_set ?_ (Aside0.out (by assumption))) | exact HB.out)⟩⟩
  case rest =>
   clear HC9
   try clear c1
   try clear p2
   try clear c5
   try clear c5b0
   try clear c10
   try clear c13
   try clear c14
   try clear c16
   try clear c16b0
   try clear c16b1
   try clear c18
   try clear hcz15_0
   try clear hcz15_1
   try clear hcz15_2
   try clear hcz19_0
   try clear hfz15_0
   try clear hfz15_1
   try clear hfz15_2
   try clear hfz19_0
   obtain ⟨kq, x36_8, rfl, HA, HJ8, BK228, BK237, HB⟩ := hcut
   cases kq with
   | zero => exact absurd HA.out (by simp [frac_way_part_frac_Floor.j0])
   | succ kj8 =>
    have H := HA.out; clear HA; simp only [frac_way_part_frac_Floor.j0] at H; have HC20 := Aside0.mk H; clear H
    go_upto_if 36 with (fail)
    go_cut [13] (fun v13 wc => ∃ (kq : Nat) (x13_19 : Int) (x238000_19 : Bool) (x238001_19 : Int) (x238002_19 : Int), v13 = .int .i64 x13_19 ∧ Aside0 (frac_way_part_frac_Floor.j1 kq x13_19 x238000_19 x238001_19 x238002_19 = some (r1, r2)) ∧ Aside0 (kq ≤ kj8) ∧ Aside0 (wc.heap[gb228]? = some (.cells #[.func (.func 99) #[] #[]] 151 (0, 0))) ∧ Aside0 (wc.heap[gb237]? = some (.cells #[.bool x238000_19, .int .u64 x238001_19, .int .u64 x238002_19] 99 (0, 0))) ∧ Aside0 (Below w.heap.size w wc))
    case first =>
     have H := HC20.out; clear HC20
     by_cases c21 : x36_8 = true
     ·subst c21
      have H1 : ((big_OfS.f 1).bind fun bt239 => ((big_AddS.f t232 t233 t234 bt239.1 bt239.2.1 bt239.2.2).bind fun bt242 => (frac_way_part_frac_Floor.j1 kj8 bt242.2.2.2 bt242.1 bt242.2.1 bt242.2.2.1))) = some (r1, r2) := by rw [if_pos rfl] at H; exact H
      clear H; have H := H1; clear H1; replace H := Option.bind_eq_some_iff.mp H; obtain ⟨⟨t239, t240, t241⟩, A220, H⟩ := H; replace H : ((big_AddS.f t232 t233 t234 t239 t240 t241).bind fun bt242 => (frac_way_part_frac_Floor.j1 kj8 bt242.2.2.2 bt242.1 bt242.2.1 bt242.2.2.1)) = some (r1, r2) := H; have A22 := Aside0.mk A220; clear A220; replace H := Option.bind_eq_some_iff.mp H; obtain ⟨⟨t242, t243, t244, t245⟩, A230, H⟩ := H; replace H : (frac_way_part_frac_Floor.j1 kj8 t245 t242 t243 t244) = some (r1, r2) := H; have A23 := Aside0.mk A230; clear A230; have H' := Aside0.mk H; clear H
      try go_wp2
      replace BK228 := Aside0.mk (blk_drew BK228.out); replace BK237 := Aside0.mk (blk_drew BK237.out); replace HB := Aside0.mk (below_drew1 HB.out); refine start_ (n := 8) (S := fun w' => w'.cell? ⟨gb237, 0, none⟩ = some (.bool t232) ∧ w'.cell? ⟨gb237, 1, none⟩ = some (.int .u64 t233) ∧ w'.cell? ⟨gb237, 2, none⟩ = some (.int .u64 t234)) (ds := [6]) #[N,N,N,N,N,N,N,N] (by kernel_rfl) rfl rfl ⟨(blk_cell BK237.out 0).trans rfl, (blk_cell BK237.out 1).trans rfl, (blk_cell BK237.out 2).trans rfl⟩ (fun hHeld => ?_); refine with_tabW frac_way_part_frac_Floor.tab6 frac_way_part_frac_Floor.bits6 (fun HT_ HW_ => ?_)
      generalize wc.drew = w24 at BK228 BK237 HB hHeld ⊢
      refine take_ (i := 0) (N := some 38) (v := ?_) (a' := ?_) #[Y,N,N,N,N,N,N,N] rfl rfl (take_ofW HT_.out HW_.out (by kernel_rfl)) (fun _ _ _ h => h) (Or.inl ⟨by rfl, ?_⟩) hHeld ?_ ?_; rotate_left
      ·rintro w' ⟨s0, s1, s2⟩; go_simp
       with_reducible rfl
      rotate_left
      ·simp only [Act.put, sA, sB, sC, i64_w, i32_w]
       rfl
      refine one_ (i := 1) (N := some 39) #[Y,Y,N,N,N,N,N,N] rfl rfl (one_of HT_.out (by kernel_rfl)) (by decide) (fun K hK => ?_); refine goesA_ Tryz.func48 rfl #[.int .i64 1] (by rfl) rfl rfl ?_
      with_reducible refine (big_OfS.calls 1 t239 t240 t241 _ A22.out).mono ?_
      rintro e w25 ⟨rfl, hb⟩; refine ⟨_, rfl, ?_⟩; replace BK228 := bbZ BK228 hb; replace BK237 := bbZ BK237 hb; replace HB := Aside0.mk (below_step HB.out hb); clear hb; refine hK.out _ _ ⟨(blk_cell BK237.out 0).trans rfl, (blk_cell BK237.out 1).trans rfl, (blk_cell BK237.out 2).trans rfl⟩ (fun hHeld => ?_); clear hK K; refine normA_ (some 39) ?_
      refine one_ (i := 2) (N := some 40) #[Y,Y,Y,N,N,N,N,N] rfl rfl (one_of HT_.out (by kernel_rfl)) (by decide) (fun K hK => ?_); refine goesA_ Tryz.func107 rfl #[.agg #[.bool t232, .int .u64 t233, .int .u64 t234], .agg #[.bool t239, .int .u64 t240, .int .u64 t241]] (by rfl) rfl rfl ?_
      with_reducible refine (big_AddS.calls t232 t233 t234 t239 t240 t241 t242 t243 t244 t245 _ A23.out).mono ?_
      rintro e w26 ⟨rfl, hb⟩; refine ⟨_, rfl, ?_⟩; replace BK228 := bbZ BK228 hb; replace BK237 := bbZ BK237 hb; replace HB := Aside0.mk (below_step HB.out hb); clear hb; refine hK.out _ _ ⟨(blk_cell BK237.out 0).trans rfl, (blk_cell BK237.out 1).trans rfl, (blk_cell BK237.out 2).trans rfl⟩ (fun hHeld => ?_); clear hK K; refine normA_ (some 40) ?_
      refine pureA_ (i := 3) (N := some 37) #[Y,Y,Y,Y,N,N,N,N] rfl rfl (any_of HT_.out (by kernel_rfl)) ?_
      refine pureA_ (i := 4) (N := some 41) #[Y,Y,Y,Y,Y,N,N,N] rfl rfl (any_of HT_.out (by kernel_rfl)) ?_
      refine pureA_ (i := 5) (N := some 42) #[Y,Y,Y,Y,Y,Y,N,N] rfl rfl (any_of HT_.out (by kernel_rfl)) ?_
      refine last_ (i := 6) (N := none) #[Y,Y,Y,Y,Y,Y,Y,N] rfl rfl (one_of HT_.out (by kernel_rfl)) (by decide) (fun K hK => ?_); have hs27 := czZ BK237 0 (.bool t232); have hfs27 := blk_frozen BK237.out 0; have hns27_0 := NB228_237.out; have hms27_0 := NB237_228.out; have hs28 := czZ BK237 1 (.int .u64 t233); have hfs28 := blk_frozen BK237.out 1; have hns28_0 := NB228_237.out; have hms28_0 := NB237_228.out; have hs29 := czZ BK237 2 (.int .u64 t234); have hfs29 := blk_frozen BK237.out 2; have hns29_0 := NB228_237.out; have hms29_0 := NB237_228.out; refine skip_ (w1 := ?_) (by rfl) rfl ?_ ?_; rotate_left
      ·go_simp
       rfl
      refine hK.out _ _ ?_; clear hK K; refine pureA_ (i := 7) (N := some 13) #[Y,Y,Y,Y,Y,Y,Y,Y] rfl rfl (any_of HT_.out (by kernel_rfl)) ?_
      refine done_ (done_of HT_.out (by kernel_rfl)) ?_
      try go_wp2
      go_meet
      case rel => exact ⟨_, (t245), (t242), (t243), (t244), (by first | rfl | (simp; done) | (simp [*]; done)), H', ⟨by have := HJ8.out; first | omega | exact Nat.le_refl _⟩, ⟨by (with_reducible repeat first | apply blk_drewN | apply blk_drew | apply blk_alloc); refine blk_far ?_ NB228_237.out _; (with_reducible repeat first | apply blk_drewN | apply blk_drew | apply blk_alloc); refine blk_far ?_ NB228_237.out _; (with_reducible repeat first | apply blk_drewN | apply blk_drew | apply blk_alloc); refine blk_far ?_ NB228_237.out _; (with_reducible repeat first | apply blk_drewN | apply blk_drew | apply blk_alloc); exact BK228.out⟩, ⟨by (with_reducible repeat first | apply blk_drewN | apply blk_drew | apply blk_alloc); refine blk_put (cs := #[.bool t242, .int .u64 t243, .int .u64 t234]) ?_ 2 _ rfl; (with_reducible repeat first | apply blk_drewN | apply blk_drew | apply blk_alloc); refine blk_put (cs := #[.bool t242, .int .u64 t233, .int .u64 t234]) ?_ 1 _ rfl; (with_reducible repeat first | apply blk_drewN | apply blk_drew | apply blk_alloc); refine blk_put (cs := #[.bool t232, .int .u64 t233, .int .u64 t234]) ?_ 0 _ rfl; (with_reducible repeat first | apply blk_drewN | apply blk_drew | apply blk_alloc); exact BK237.out⟩, ⟨by repeat (first | (with_reducible first | exact HB.out | apply below_alloc | apply pw_below_drewN | apply below_drew1 | refine below_set ?_ (Aside0.out (by assumption))) | exact HB.out)⟩⟩
     ·replace c21 := Bool.eq_false_iff.mpr c21
      subst c21
      have H1 : (frac_way_part_frac_Floor.j1 kj8 t236 t232 t233 t234) = some (r1, r2) := by rw [if_neg (show ¬ (false = true) by decide)] at H; exact H
      clear H; have H := H1; clear H1; have H' := Aside0.mk H; clear H
      go_wp2
      go_meet
      case rel => exact ⟨_, (t236), (t232), (t233), (t234), (by first | rfl | (simp; done) | (simp [*]; done)), H', ⟨by have := HJ8.out; first | omega | exact Nat.le_refl _⟩, ⟨by (with_reducible repeat first | apply blk_drewN | apply blk_drew | apply blk_alloc); exact BK228.out⟩, ⟨by (with_reducible repeat first | apply blk_drewN | apply blk_drew | apply blk_alloc); exact BK237.out⟩, ⟨by repeat (first | (with_reducible first | exact HB.out | apply below_alloc | apply pw_below_drewN | apply below_drew1 | refine below_set ?_ (Aside0.out (by assumption))) | exact HB.out)⟩⟩
    case rest =>
     clear HC20
     try clear c1
     try clear c2
     try clear p2
     try clear c4
     try clear c5
     try clear c5b0
     try clear c10
     try clear c13
     try clear c14
     try clear c16
     try clear c16b0
     try clear c16b1
     try clear c18
     try clear c21
     try clear hcz15_0
     try clear hcz15_1
     try clear hcz15_2
     try clear hcz19_0
     try clear hfz15_0
     try clear hfz15_1
     try clear hfz15_2
     try clear hfz19_0
     try clear p2
     obtain ⟨kq, x13_19, x238000_19, x238001_19, x238002_19, rfl, HA, HJ19, BK228, BK237, HB⟩ := hcut
     cases kq with
     | zero => exact absurd HA.out (by simp [frac_way_part_frac_Floor.j1])
     | succ kj19 =>
      have H := HA.out; clear HA; simp only [frac_way_part_frac_Floor.j1] at H; replace H := Option.bind_eq_some_iff.mp H; obtain ⟨t246, A300, H⟩ := H; (try dsimp only at H); have A30 := Aside0.mk A300; clear A300
      by_cases c31 : x13_19 = 0
      ·rw [if_pos c31] at H
       have c31b0 : (x13_19 == 0) = true := beq_iff_eq.mpr c31; have c31b1 : (x13_19 != 0) = false := bne_eq_false_iff_eq.mpr c31; clear c31; replace H := Option.bind_eq_some_iff.mp H; obtain ⟨⟨t247, t248, t249⟩, A320, H⟩ := H; replace H : (if (!(x238000_19 == t247) || (!(x238001_19 == t248) || (!(x238002_19 == t249)))) = true then (some (0, 10)) else (some (t246, 0))) = some (r1, r2) := H; have A32 := Aside0.mk A320; clear A320
       by_cases c33 : (!(x238000_19 == t247) || (!(x238001_19 == t248) || (!(x238002_19 == t249)))) = true
       ·rw [if_pos c33] at H
        have c33b0 : (!(x238000_19 == t247) || (!(x238001_19 == t248) || (!(x238002_19 == t249)))) = true := c33; clear c33; simp only [Option.some.injEq, Prod.mk.injEq] at H; obtain ⟨rfl, rfl⟩ := H; have hnb34 := NB237_228.out; have hnc34 := NB228_237.out; have hcz35_0 : wc.cell? ⟨gb237, 0, none⟩ = some (.bool x238000_19) := (blk_cell BK237.out 0).trans rfl; have hcz35_1 : wc.cell? ⟨gb237, 1, none⟩ = some (.int .u64 x238001_19) := (blk_cell BK237.out 1).trans rfl; have hcz35_2 : wc.cell? ⟨gb237, 2, none⟩ = some (.int .u64 x238002_19) := (blk_cell BK237.out 2).trans rfl; have hfz35_0 := blk_frozen BK237.out 0; have hfz35_1 := blk_frozen BK237.out 1; have hfz35_2 := blk_frozen BK237.out 2
        try go_wp2_with (first | ((with_reducible refine gate_callee (f := 145) rfl ?_); refine goesLA_ (some 44) rfl rfl Tryz.func145 rfl #[.agg #[.bool x238000_19, .int .u64 x238001_19, .int .u64 x238002_19]] rfl ?_; (with_reducible refine (big_IntS.calls x238000_19 x238001_19 x238002_19 t246 _ A30.out).mono ?_); rintro e w36 ⟨rfl, hb⟩; refine ⟨_, rfl, ?_⟩; replace BK228 := bdZ BK228 hb; replace BK237 := bdZ BK237 hb; replace HB := stA hb; clear hb))
        replace BK228 := Aside0.mk (blk_drew BK228.out); replace BK237 := Aside0.mk (blk_drew BK237.out); replace HB := Aside0.mk (below_drew1 HB.out); refine start_ (n := 8) (S := fun w' => w'.cell? ⟨gb237, 0, none⟩ = some (.bool x238000_19) ∧ w'.cell? ⟨gb237, 1, none⟩ = some (.int .u64 x238001_19) ∧ w'.cell? ⟨gb237, 2, none⟩ = some (.int .u64 x238002_19)) (ds := []) #[N,N,N,N,N,N,N,N] (by kernel_rfl) rfl rfl ⟨(blk_cell BK237.out 0).trans rfl, (blk_cell BK237.out 1).trans rfl, (blk_cell BK237.out 2).trans rfl⟩ (fun hHeld => ?_); refine with_tabW frac_way_part_frac_Floor.tab8 frac_way_part_frac_Floor.bits8 (fun HT_ HW_ => ?_)
        generalize w36.drew = w37 at BK228 BK237 HB hHeld ⊢
        refine pureA_ (i := 0) (N := some 45) #[Y,N,N,N,N,N,N,N] rfl rfl (any_of HT_.out (by kernel_rfl)) ?_
        refine pureA_ (i := 1) (N := some 46) #[Y,Y,N,N,N,N,N,N] rfl rfl (any_of HT_.out (by kernel_rfl)) ?_
        refine pureA_ (i := 2) (N := some 47) #[Y,Y,Y,N,N,N,N,N] rfl rfl (any_of HT_.out (by kernel_rfl)) ?_
        refine pureA_ (i := 4) (N := some 49) #[Y,Y,Y,N,Y,N,N,N] rfl rfl (any_of HT_.out (by kernel_rfl)) ?_
        refine take_ (i := 3) (N := some 48) (v := ?_) (a' := ?_) #[Y,Y,Y,Y,Y,N,N,N] rfl rfl (take_ofW HT_.out HW_.out (by kernel_rfl)) (fun _ _ _ h => h) (Or.inl ⟨by rfl, ?_⟩) hHeld ?_ ?_; rotate_left
        ·rintro w' ⟨s0, s1, s2⟩; go_simp
         with_reducible rfl
        rotate_left
        ·simp only [Act.put, sA, sB, sC, i64_w, i32_w]
         rfl
        refine one_ (i := 5) (N := some 50) #[Y,Y,Y,Y,Y,Y,N,N] rfl rfl (one_of HT_.out (by kernel_rfl)) (by decide) (fun K hK => ?_); refine goesA_ Tryz.func48 rfl #[.int .i64 t246] (by rfl) rfl rfl ?_
        with_reducible refine (big_OfS.calls t246 t247 t248 t249 _ A32.out).mono ?_
        rintro e w38 ⟨rfl, hb⟩; refine ⟨_, rfl, ?_⟩; replace BK228 := bbZ BK228 hb; replace BK237 := bbZ BK237 hb; replace HB := Aside0.mk (below_step HB.out hb); clear hb; refine hK.out _ _ ⟨(blk_cell BK237.out 0).trans rfl, (blk_cell BK237.out 1).trans rfl, (blk_cell BK237.out 2).trans rfl⟩ (fun hHeld => ?_); clear hK K; refine normA_ (some 50) ?_
        refine pureA_ (i := 6) (N := some 51) #[Y,Y,Y,Y,Y,Y,Y,N] rfl rfl (any_of HT_.out (by kernel_rfl)) ?_
        refine pureA_ (i := 7) (N := some 52) #[Y,Y,Y,Y,Y,Y,Y,Y] rfl rfl (any_of HT_.out (by kernel_rfl)) ?_
        refine done_ (done_of HT_.out (by kernel_rfl)) ?_
        try go_wp2
        go_ret2
        exact ⟨by first | rfl | (simp [errW_none, errW_some] <;> rfl) | (simp [*, errW_none, errW_some] <;> rfl), by repeat (first | (with_reducible first | exact HB.out | apply below_alloc | apply pw_below_drewN | apply below_drew1 | refine below_set ?_ (Aside0.out (by assumption))) | exact HB.out)⟩
       ·rw [if_neg c33] at H
        have c33b0 : (!(x238000_19 == t247) || (!(x238001_19 == t248) || (!(x238002_19 == t249)))) = false := by simpa using c33
        clear c33; simp only [Option.some.injEq, Prod.mk.injEq] at H; obtain ⟨rfl, rfl⟩ := H; have hnb39 := NB237_228.out; have hnc39 := NB228_237.out; have hcz40_0 : wc.cell? ⟨gb237, 0, none⟩ = some (.bool x238000_19) := (blk_cell BK237.out 0).trans rfl; have hcz40_1 : wc.cell? ⟨gb237, 1, none⟩ = some (.int .u64 x238001_19) := (blk_cell BK237.out 1).trans rfl; have hcz40_2 : wc.cell? ⟨gb237, 2, none⟩ = some (.int .u64 x238002_19) := (blk_cell BK237.out 2).trans rfl; have hfz40_0 := blk_frozen BK237.out 0; have hfz40_1 := blk_frozen BK237.out 1; have hfz40_2 := blk_frozen BK237.out 2
        try go_wp2_with (first | ((with_reducible refine gate_callee (f := 145) rfl ?_); refine goesLA_ (some 44) rfl rfl Tryz.func145 rfl #[.agg #[.bool x238000_19, .int .u64 x238001_19, .int .u64 x238002_19]] rfl ?_; (with_reducible refine (big_IntS.calls x238000_19 x238001_19 x238002_19 t246 _ A30.out).mono ?_); rintro e w41 ⟨rfl, hb⟩; refine ⟨_, rfl, ?_⟩; replace BK228 := bdZ BK228 hb; replace BK237 := bdZ BK237 hb; replace HB := stA hb; clear hb))
        replace BK228 := Aside0.mk (blk_drew BK228.out); replace BK237 := Aside0.mk (blk_drew BK237.out); replace HB := Aside0.mk (below_drew1 HB.out); refine start_ (n := 8) (S := fun w' => w'.cell? ⟨gb237, 0, none⟩ = some (.bool x238000_19) ∧ w'.cell? ⟨gb237, 1, none⟩ = some (.int .u64 x238001_19) ∧ w'.cell? ⟨gb237, 2, none⟩ = some (.int .u64 x238002_19)) (ds := []) #[N,N,N,N,N,N,N,N] (by kernel_rfl) rfl rfl ⟨(blk_cell BK237.out 0).trans rfl, (blk_cell BK237.out 1).trans rfl, (blk_cell BK237.out 2).trans rfl⟩ (fun hHeld => ?_); refine with_tabW frac_way_part_frac_Floor.tab8 frac_way_part_frac_Floor.bits8 (fun HT_ HW_ => ?_)
        generalize w41.drew = w42 at BK228 BK237 HB hHeld ⊢
        refine pureA_ (i := 0) (N := some 45) #[Y,N,N,N,N,N,N,N] rfl rfl (any_of HT_.out (by kernel_rfl)) ?_
        refine pureA_ (i := 1) (N := some 46) #[Y,Y,N,N,N,N,N,N] rfl rfl (any_of HT_.out (by kernel_rfl)) ?_
        refine pureA_ (i := 2) (N := some 47) #[Y,Y,Y,N,N,N,N,N] rfl rfl (any_of HT_.out (by kernel_rfl)) ?_
        refine pureA_ (i := 4) (N := some 49) #[Y,Y,Y,N,Y,N,N,N] rfl rfl (any_of HT_.out (by kernel_rfl)) ?_
        refine take_ (i := 3) (N := some 48) (v := ?_) (a' := ?_) #[Y,Y,Y,Y,Y,N,N,N] rfl rfl (take_ofW HT_.out HW_.out (by kernel_rfl)) (fun _ _ _ h => h) (Or.inl ⟨by rfl, ?_⟩) hHeld ?_ ?_; rotate_left
        ·rintro w' ⟨s0, s1, s2⟩; go_simp
         with_reducible rfl
        rotate_left
        ·simp only [Act.put, sA, sB, sC, i64_w, i32_w]
         rfl
        refine one_ (i := 5) (N := some 50) #[Y,Y,Y,Y,Y,Y,N,N] rfl rfl (one_of HT_.out (by kernel_rfl)) (by decide) (fun K hK => ?_); refine goesA_ Tryz.func48 rfl #[.int .i64 t246] (by rfl) rfl rfl ?_
        with_reducible refine (big_OfS.calls t246 t247 t248 t249 _ A32.out).mono ?_
        rintro e w43 ⟨rfl, hb⟩; refine ⟨_, rfl, ?_⟩; replace BK228 := bbZ BK228 hb; replace BK237 := bbZ BK237 hb; replace HB := Aside0.mk (below_step HB.out hb); clear hb; refine hK.out _ _ ⟨(blk_cell BK237.out 0).trans rfl, (blk_cell BK237.out 1).trans rfl, (blk_cell BK237.out 2).trans rfl⟩ (fun hHeld => ?_); clear hK K; refine normA_ (some 50) ?_
        refine pureA_ (i := 6) (N := some 51) #[Y,Y,Y,Y,Y,Y,Y,N] rfl rfl (any_of HT_.out (by kernel_rfl)) ?_
        refine pureA_ (i := 7) (N := some 52) #[Y,Y,Y,Y,Y,Y,Y,Y] rfl rfl (any_of HT_.out (by kernel_rfl)) ?_
        refine done_ (done_of HT_.out (by kernel_rfl)) ?_
        try go_wp2
        go_ret2
        exact ⟨by first | rfl | (simp [errW_none, errW_some] <;> rfl) | (simp [*, errW_none, errW_some] <;> rfl), by repeat (first | (with_reducible first | exact HB.out | apply below_alloc | apply pw_below_drewN | apply below_drew1 | refine below_set ?_ (Aside0.out (by assumption))) | exact HB.out)⟩
      ·rw [if_neg c31] at H
       have c31b0 : (x13_19 == 0) = false := beq_eq_false_iff_ne.mpr c31; have c31b1 : (x13_19 != 0) = true := bne_iff_ne.mpr c31; simp only [Option.some.injEq, Prod.mk.injEq] at H; obtain ⟨rfl, rfl⟩ := H; have hnb44 := NB237_228.out; have hnc44 := NB228_237.out; have hcz45_0 : wc.cell? ⟨gb237, 0, none⟩ = some (.bool x238000_19) := (blk_cell BK237.out 0).trans rfl; have hcz45_1 : wc.cell? ⟨gb237, 1, none⟩ = some (.int .u64 x238001_19) := (blk_cell BK237.out 1).trans rfl; have hcz45_2 : wc.cell? ⟨gb237, 2, none⟩ = some (.int .u64 x238002_19) := (blk_cell BK237.out 2).trans rfl; have hfz45_0 := blk_frozen BK237.out 0; have hfz45_1 := blk_frozen BK237.out 1; have hfz45_2 := blk_frozen BK237.out 2
       try go_wp2_with (first | ((with_reducible refine gate_callee (f := 145) rfl ?_); refine goesLA_ (some 44) rfl rfl Tryz.func145 rfl #[.agg #[.bool x238000_19, .int .u64 x238001_19, .int .u64 x238002_19]] rfl ?_; (with_reducible refine (big_IntS.calls x238000_19 x238001_19 x238002_19 t246 _ A30.out).mono ?_); rintro e w46 ⟨rfl, hb⟩; refine ⟨_, rfl, ?_⟩; replace BK228 := bdZ BK228 hb; replace BK237 := bdZ BK237 hb; replace HB := stA hb; clear hb))
       replace BK228 := Aside0.mk (blk_drew BK228.out); replace BK237 := Aside0.mk (blk_drew BK237.out); replace HB := Aside0.mk (below_drew1 HB.out); refine start_ (n := 8) (S := fun w' => True) (ds := []) #[N,N,N,N,N,N,N,N] (by kernel_rfl) rfl rfl trivial (fun hHeld => ?_); refine with_tabW frac_way_part_frac_Floor.tab8 frac_way_part_frac_Floor.bits8 (fun HT_ HW_ => ?_)
       generalize w46.drew = w47 at BK228 BK237 HB hHeld ⊢
       refine pureA_ (i := 0) (N := some 45) #[Y,N,N,N,N,N,N,N] rfl rfl (any_of HT_.out (by kernel_rfl)) ?_
       refine pureA_ (i := 1) (N := some 46) #[Y,Y,N,N,N,N,N,N] rfl rfl (any_of HT_.out (by kernel_rfl)) ?_
       refine pureA_ (i := 2) (N := some 47) #[Y,Y,Y,N,N,N,N,N] rfl rfl (any_of HT_.out (by kernel_rfl)) ?_
       refine pure_ (i := 3) (N := some 48) (v := undef) (a' := ?_) #[Y,Y,Y,Y,N,N,N,N] rfl rfl (any_of HT_.out (by kernel_rfl)) (fun _ _ _ h => h) (Or.inr ⟨by rfl, rfl⟩) ?_ ?_; rotate_left
       ·simp only [Act.put, sA, sB, sC, i64_w, i32_w]
        rfl
       refine pure_ (i := 4) (N := some 49) (v := undef) (a' := ?_) #[Y,Y,Y,Y,Y,N,N,N] rfl rfl (any_of HT_.out (by kernel_rfl)) (fun _ _ _ h => h) (Or.inr ⟨by rfl, rfl⟩) ?_ ?_; rotate_left
       ·simp only [Act.put, sA, sB, sC, i64_w, i32_w]
        rfl
       refine pure_ (i := 5) (N := some 50) (v := undef) (a' := ?_) #[Y,Y,Y,Y,Y,Y,N,N] rfl rfl (any_of HT_.out (by kernel_rfl)) (fun _ _ _ h => h) (Or.inr ⟨by rfl, rfl⟩) ?_ ?_; rotate_left
       ·simp only [Act.put, sA, sB, sC, i64_w, i32_w]
        rfl
       refine pure_ (i := 6) (N := some 51) (v := undef) (a' := ?_) #[Y,Y,Y,Y,Y,Y,Y,N] rfl rfl (any_of HT_.out (by kernel_rfl)) (fun _ _ _ h => h) (Or.inr ⟨by rfl, rfl⟩) ?_ ?_; rotate_left
       ·simp only [Act.put, sA, sB, sC, i64_w, i32_w]
        rfl
       refine pureA_ (i := 7) (N := some 52) #[Y,Y,Y,Y,Y,Y,Y,Y] rfl rfl (any_of HT_.out (by kernel_rfl)) ?_
       refine done_ (done_of HT_.out (by kernel_rfl)) ?_
       try go_wp2
       go_ret2
       exact ⟨by first | rfl | (simp [errW_none, errW_some] <;> rfl) | (simp [*, errW_none, errW_some] <;> rfl), by repeat (first | (with_reducible first | exact HB.out | apply below_alloc | apply pw_below_drewN | apply below_drew1 | refine below_set ?_ (Aside0.out (by assumption))) | exact HB.out)⟩

/-! ### frac_Floor: function 45 -/
noncomputable def frac_Floor.f (k : Nat) (a0 : Int) (a1 : Int) (a2 : Int) : Option (Int × Int) := (frac_way_part_frac_Floor.f k () a0 a1 a2).bind fun bt250 => (some (bt250.1, bt250.2))
set_option maxHeartbeats 8000000 in
set_option maxRecDepth 100000 in
theorem frac_Floor.calls (k : Nat) (a0 : Int) (a1 : Int) (a2 : Int) (r1 : Int) (r2 : Int) (w : World) (h : frac_Floor.f k a0 a1 a2 = some (r1, r2)) :
  Calls Tryz.prog 45 #[.int .i64 a0, .int .i64 a1, .int .i64 a2] w fun e w' => e = .returned (.tuple #[.int .i64 r1, .int .i64 r2]) ∧ Below w.heap.size w w' := by
 have hu151 := Tryz.underlying151; have HB := Aside0.mk (Below.refl w.heap.size w); have H : ((frac_way_part_frac_Floor.f k () a0 a1 a2).bind fun bt250 => (some (bt250.1, bt250.2))) = some (r1, r2) := h; clear h; replace H := Option.bind_eq_some_iff.mp H; obtain ⟨⟨t250, t251⟩, A40, H⟩ := H; replace H : (some (t250, t251)) = some (r1, r2) := H; have A4 := Aside0.mk A40; clear A40; simp only [Option.some.injEq, Prod.mk.injEq] at H; obtain ⟨rfl, rfl⟩ := H
 go_enter Tryz.func45, Tryz.ntmps45
 go_wp2_with (first | ((with_reducible refine gate_callee (f := 100) rfl ?_); refine goesLA_ (some 12) rfl rfl Tryz.func100 rfl #[.agg #[.func (.func 99) #[] #[]], .int .i64 a0, .int .i64 a1, .int .i64 a2] rfl ?_; (with_reducible refine (frac_way_part_frac_Floor.calls k () a0 a1 a2 t250 t251 _ A4.out).mono ?_); rintro e w5 ⟨rfl, hb⟩; refine ⟨_, rfl, ?_⟩; replace HB := stA hb; clear hb))
 go_ret2
 exact ⟨by first | rfl | (simp [errW_none, errW_some] <;> rfl) | (simp [*, errW_none, errW_some] <;> rfl), by repeat (first | (with_reducible first | exact HB.out | apply below_alloc | apply pw_below_drewN | apply below_drew1) | exact HB.out)⟩

/-! ### frac_FloorS: a part of a product, from below: pure, behind function 45 -/
noncomputable def frac_FloorS.f (a b c : Int) : Option (Int × Int) := Sp.need (Sp.I a ∧ Sp.I b ∧ Sp.I c) (Sp.floorQ a b c)
section FracFloor
open Go.Proofs.YtfahbgkoldoflaaGreatDoor.Sp
theorem frac_way_part_frac_Floor.j1_eq {q : Int} (h : B q) : frac_way_part_frac_Floor.j1 1 0 (encN q) (encH q) (encL q) = fit q := by
 simp only [frac_way_part_frac_Floor.j1]
 rw [big_IntS.enc h]
 simp only [Option.bind_some, if_true]
 rw [big_OfS.eq (near_I _)]
 simp only [Option.bind_some]
 rw [enc_bne]
 unfold fit
 by_cases hi : I q
 ·rw [near_in hi, if_pos hi]; simp
 ·rw [if_neg hi, if_pos]
  have : ¬ q = near q := fun e => hi (e ▸ near_I q)
  simp [this]
theorem frac_way_part_frac_Floor.j0_eq {q : Int} (h : -85070591730234615865843651857942052864 ≤ q ∧ q ≤ 85070591730234615865843651857942052864) (up : Bool) : frac_way_part_frac_Floor.j0 2 0 up (encN q) (encH q) (encL q) = fit (if up = true then q + 1 else q) := by
 simp only [frac_way_part_frac_Floor.j0]
 cases up with
 | false =>
  simp only [Bool.false_eq_true, if_false]; exact frac_way_part_frac_Floor.j1_eq (by omega)
 | true =>
  simp only [if_true]
  rw [big_OfS.eq (by omega)]
  simp only [Option.bind_some]
  rw [big_AddS.enc (by omega) (by omega), held_in (by omega)]
  simp only [Option.bind_some]; exact frac_way_part_frac_Floor.j1_eq (by omega)
theorem frac_Floor.main {a b c : Int} (h1 : I a) (h2 : I b) (h3 : I c) : frac_Floor.f 2 a b c = floorQ a b c := by
 unfold frac_Floor.f frac_way_part_frac_Floor.f
 by_cases hc : c < 1
 ·rw [if_pos hc]; unfold floorQ; rw [if_pos hc]; rfl
 ·have hp : 0 < c := by omega
  have hm := mulI h1 h2; have r0 := Int.emod_nonneg (a * b) (show c ≠ 0 by omega); have r1 := Int.emod_lt_of_pos (a * b) hp; have hq := quoI hm hp
  rw [if_neg hc, big_MulS.eq h1 h2, u64w_in (x := c) (by omega)]
  simp only [Option.bind_some]
  rw [big_DivS.enc (by omega) (by omega), quo_pos (by omega)]
  simp only [Option.bind_some, if_true, frac_Floor_1.f]
  rw [show ∀ x : Option (Int × Int), (x.bind fun bt => some (bt.1, bt.2)) = x from fun x => by cases x <;> rfl]
  rw [frac_way_part_frac_Floor.j0_eq hq false]
  simp only [Bool.false_eq_true, if_false]
  unfold floorQ; rw [if_neg hc]
theorem frac_FloorS.eq {a b c : Int} (h1 : I a) (h2 : I b) (h3 : I c) : frac_FloorS.f a b c = floorQ a b c := need_pos ⟨h1, h2, h3⟩
end FracFloor
theorem frac_FloorS.calls (a0 a1 a2 r1 r2 : Int) (w : World) (h : frac_FloorS.f a0 a1 a2 = some (r1, r2)) :
  Calls Tryz.prog 45 #[.int .i64 a0, .int .i64 a1, .int .i64 a2] w fun e w' => e = .returned (.tuple #[.int .i64 r1, .int .i64 r2]) ∧ Below w.heap.size w w' := by
 obtain ⟨hc, h⟩ := Sp.need_some h; obtain ⟨h1, h2, h3⟩ := hc; exact frac_Floor.calls 2 a0 a1 a2 r1 r2 w (by rw [frac_Floor.main h1 h2 h3]; exact h)

/-! ### rate_bounds_int_take: function 125 -/
noncomputable def rate_bounds_int_take.f (a0_0 : Int) (a0_1 : Int) (a1 : Int) : Option (Int) := some (mn (mx a1 a0_0) a0_1)
set_option maxHeartbeats 8000000 in
set_option maxRecDepth 100000 in
theorem rate_bounds_int_take.calls (a0_0 : Int) (a0_1 : Int) (a1 : Int) (r : Int) (w : World) (h : rate_bounds_int_take.f a0_0 a0_1 a1 = some r) :
  Calls Tryz.prog 125 #[.agg #[.int .i64 a0_0, .int .i64 a0_1], .int .i64 a1] w fun e w' => e = .returned (.int .i64 r) ∧ Below w.heap.size w w' := by
 have hu173 := Tryz.underlying173; have HB := Aside0.mk (Below.refl w.heap.size w); have H : (some (mn (mx a1 a0_0) a0_1)) = some r := h; clear h
 obtain ⟨ji3, hji3⟩ : ∃ j_ : Int, (mx a1 a0_0) = j_ := ⟨_, rfl⟩
 replace H : (some (mn (ji3) a0_1)) = some r := by first | (rw [hji3] at H; exact H) | (simp only [hji3] at H ⊢; exact H)
 have hji3_ : (if a1 < a0_0 then a0_0 else a1) = ji3 := hji3
 obtain ⟨ji4, hji4⟩ : ∃ j_ : Int, (mn (ji3) a0_1) = j_ := ⟨_, rfl⟩
 replace H : (some ji4) = some r := by first | (rw [hji4] at H; exact H) | (simp only [hji4] at H ⊢; exact H)
 have hji4_ : (if a0_1 < (ji3) then a0_1 else (ji3)) = ji4 := hji4; obtain rfl := Option.some.inj H
 go_enter Tryz.func125, Tryz.ntmps125
 go_wp2_with (first | ((with_reducible refine gate_dst (N := 2) rfl ?_); refine box_event ?hg (N := 2) ?hd (cs := #[.int .i64 a0_0, .int .i64 a0_1]) (t := 173) ?hr ?_; (case hd => rfl); (case hg => rfl); (case hr => first | (go_simp; done) | (go_simp; rfl)); intro gb252 hg w5 hbox hb; have BK252 := Aside0.mk (hbox); obtain ⟨GW252, nHB⟩ := geA hg hb; have GE252 := GW252; replace HB := nHB; clear nHB; clear hb hbox hg; have hcz6_0 := czZ BK252 0 (.int .i64 a0_0); have hcz6_1 := czZ BK252 1 (.int .i64 a0_1); have hfz6_0 := blk_frozen BK252.out 0; have hfz6_1 := blk_frozen BK252.out 1))
 go_ret
 exact ⟨by first | rfl | (simp [errW_none, errW_some] <;> rfl) | (simp only [← hji3, ← hji4]; first | rfl | (simp [errW_none, errW_some] <;> rfl)) | (simp [*, errW_none, errW_some] <;> rfl), by repeat (first | (with_reducible first | exact HB.out | apply below_alloc | apply pw_below_drewN | apply below_drew1 | refine below_set ?_ GE252.out) | exact HB.out)⟩

/-! ### rate_Gain: function 126 -/
noncomputable def rate_Gain.f (a0 : Bool) : Option (Int × Int) := if a0 = true then (some (2, 1)) else (some (5, 4))
set_option maxHeartbeats 8000000 in
set_option maxRecDepth 100000 in
theorem rate_Gain.calls (a0 : Bool) (r1 : Int) (r2 : Int) (w : World) (h : rate_Gain.f a0 = some (r1, r2)) :
  Calls Tryz.prog 126 #[.bool a0] w fun e w' => e = .returned (.tuple #[.int .i64 r1, .int .i64 r2]) ∧ Drawn0 w w' := by
 have H : (if a0 = true then (some (2, 1)) else (some (5, 4))) = some (r1, r2) := h; clear h
 by_cases c2 : a0 = true
 ·subst c2
  have H1 : (some (2, 1)) = some (r1, r2) := by rw [if_pos rfl] at H; exact H
  clear H; have H := H1; clear H1; simp only [Option.some.injEq, Prod.mk.injEq] at H; obtain ⟨rfl, rfl⟩ := H
  go_enter Tryz.func126, Tryz.ntmps126
  go_wp2
  go_ret2
  exact ⟨by first | rfl | (simp; done) | (simp [*]; done), by repeat (first | exact Drawn0.refl _ | apply Drawn0.step)⟩
 ·replace c2 := Bool.eq_false_iff.mpr c2
  subst c2
  have H1 : (some (5, 4)) = some (r1, r2) := by rw [if_neg (show ¬ (false = true) by decide)] at H; exact H
  clear H; have H := H1; clear H1; simp only [Option.some.injEq, Prod.mk.injEq] at H; obtain ⟨rfl, rfl⟩ := H
  go_enter Tryz.func126, Tryz.ntmps126
  go_wp2
  go_ret2
  exact ⟨by first | rfl | (simp; done) | (simp [*]; done), by repeat (first | exact Drawn0.refl _ | apply Drawn0.step)⟩

/-! ### rtt_Check: function 66 -/
noncomputable def rtt_Check.f (a0_0 : Bool) (a0_1 : Int) (a0_2 : Int) : Option (Bool) := if a0_0 = true then (if a0_1 ≥ 8 then (if a0_1 ≤ 8589934592 then (if a0_2 ≥ 0 then (some (decide (a0_2 ≤ 4294967296))) else (some false)) else (some false)) else (some false)) else (some (!a0_0 && (a0_1 == 0 && (a0_2 == 0))))
set_option maxHeartbeats 8000000 in
set_option maxRecDepth 100000 in
theorem rtt_Check.calls (a0_0 : Bool) (a0_1 : Int) (a0_2 : Int) (r : Bool) (w : World) (h : rtt_Check.f a0_0 a0_1 a0_2 = some r) :
  Calls Tryz.prog 66 #[.agg #[.bool a0_0, .int .i64 a0_1, .int .i64 a0_2]] w fun e w' => e = .returned (.bool r) ∧ Below w.heap.size w w' := by
 have hu39 := Tryz.underlying39; have HB := Aside0.mk (Below.refl w.heap.size w); have H : (if a0_0 = true then (if a0_1 ≥ 8 then (if a0_1 ≤ 8589934592 then (if a0_2 ≥ 0 then (some (decide (a0_2 ≤ 4294967296))) else (some false)) else (some false)) else (some false)) else (some (!a0_0 && (a0_1 == 0 && (a0_2 == 0))))) = some r := h; clear h
 by_cases c2 : a0_0 = true
 ·subst c2
  have H1 : (if a0_1 ≥ 8 then (if a0_1 ≤ 8589934592 then (if a0_2 ≥ 0 then (some (decide (a0_2 ≤ 4294967296))) else (some false)) else (some false)) else (some false)) = some r := by rw [if_pos rfl] at H; exact H
  clear H; have H := H1; clear H1
  by_cases c3 : a0_1 ≥ 8
  ·rw [if_pos c3] at H
   have c3b0 : decide (8 ≤ a0_1) = true := decide_eq_true c3; clear c3
   by_cases c4 : a0_1 ≤ 8589934592
   ·rw [if_pos c4] at H
    have c4b0 : decide (a0_1 ≤ 8589934592) = true := decide_eq_true c4; clear c4
    by_cases c5 : a0_2 ≥ 0
    ·rw [if_pos c5] at H
     have c5b0 : decide (0 ≤ a0_2) = true := decide_eq_true c5; clear c5; obtain rfl := Option.some.inj H
     go_enter Tryz.func66, Tryz.ntmps66
     go_wp2_with (first | ((with_reducible refine gate_dst (N := 1) rfl ?_); refine box_event ?hg (N := 1) ?hd (cs := #[.bool true, .int .i64 a0_1, .int .i64 a0_2]) (t := 39) ?hr ?_; (case hd => rfl); (case hg => rfl); (case hr => first | (go_simp; done) | (go_simp; rfl)); intro gb253 hg w6 hbox hb; have BK253 := Aside0.mk (hbox); obtain ⟨GW253, nHB⟩ := geA hg hb; have GE253 := GW253; replace HB := nHB; clear nHB; clear hb hbox hg; have hcz7_0 := czZ BK253 0 (.bool true); have hcz7_1 := czZ BK253 1 (.int .i64 a0_1); have hcz7_2 := czZ BK253 2 (.int .i64 a0_2); have hfz7_0 := blk_frozen BK253.out 0; have hfz7_1 := blk_frozen BK253.out 1; have hfz7_2 := blk_frozen BK253.out 2))
     go_ret
     exact ⟨by first | rfl | (simp [errW_none, errW_some] <;> rfl) | (simp [*, errW_none, errW_some] <;> rfl), by repeat (first | (with_reducible first | exact HB.out | apply below_alloc | apply pw_below_drewN | apply below_drew1 | refine below_set ?_ GE253.out) | exact HB.out)⟩
    ·rw [if_neg c5] at H
     have c5b0 : decide (0 ≤ a0_2) = false := decide_eq_false c5; clear c5; obtain rfl := Option.some.inj H
     go_enter Tryz.func66, Tryz.ntmps66
     go_wp2_with (first | ((with_reducible refine gate_dst (N := 1) rfl ?_); refine box_event ?hg (N := 1) ?hd (cs := #[.bool true, .int .i64 a0_1, .int .i64 a0_2]) (t := 39) ?hr ?_; (case hd => rfl); (case hg => rfl); (case hr => first | (go_simp; done) | (go_simp; rfl)); intro gb253 hg w8 hbox hb; have BK253 := Aside0.mk (hbox); obtain ⟨GW253, nHB⟩ := geA hg hb; have GE253 := GW253; replace HB := nHB; clear nHB; clear hb hbox hg; have hcz9_0 := czZ BK253 0 (.bool true); have hcz9_1 := czZ BK253 1 (.int .i64 a0_1); have hcz9_2 := czZ BK253 2 (.int .i64 a0_2); have hfz9_0 := blk_frozen BK253.out 0; have hfz9_1 := blk_frozen BK253.out 1; have hfz9_2 := blk_frozen BK253.out 2))
     go_ret
     exact ⟨by first | rfl | (simp [errW_none, errW_some] <;> rfl) | (simp [*, errW_none, errW_some] <;> rfl), by repeat (first | (with_reducible first | exact HB.out | apply below_alloc | apply pw_below_drewN | apply below_drew1 | refine below_set ?_ GE253.out) | exact HB.out)⟩
   ·rw [if_neg c4] at H
    have c4b0 : decide (a0_1 ≤ 8589934592) = false := decide_eq_false c4; clear c4; obtain rfl := Option.some.inj H
    go_enter Tryz.func66, Tryz.ntmps66
    go_wp2_with (first | ((with_reducible refine gate_dst (N := 1) rfl ?_); refine box_event ?hg (N := 1) ?hd (cs := #[.bool true, .int .i64 a0_1, .int .i64 a0_2]) (t := 39) ?hr ?_; (case hd => rfl); (case hg => rfl); (case hr => first | (go_simp; done) | (go_simp; rfl)); intro gb253 hg w10 hbox hb; have BK253 := Aside0.mk (hbox); obtain ⟨GW253, nHB⟩ := geA hg hb; have GE253 := GW253; replace HB := nHB; clear nHB; clear hb hbox hg; have hcz11_0 := czZ BK253 0 (.bool true); have hcz11_1 := czZ BK253 1 (.int .i64 a0_1); have hcz11_2 := czZ BK253 2 (.int .i64 a0_2); have hfz11_0 := blk_frozen BK253.out 0; have hfz11_1 := blk_frozen BK253.out 1; have hfz11_2 := blk_frozen BK253.out 2))
    go_ret
    exact ⟨by first | rfl | (simp [errW_none, errW_some] <;> rfl) | (simp [*, errW_none, errW_some] <;> rfl), by repeat (first | (with_reducible first | exact HB.out | apply below_alloc | apply pw_below_drewN | apply below_drew1 | refine below_set ?_ GE253.out) | exact HB.out)⟩
  ·rw [if_neg c3] at H
   have c3b0 : decide (8 ≤ a0_1) = false := decide_eq_false c3; clear c3; obtain rfl := Option.some.inj H
   go_enter Tryz.func66, Tryz.ntmps66
   go_wp2_with (first | ((with_reducible refine gate_dst (N := 1) rfl ?_); refine box_event ?hg (N := 1) ?hd (cs := #[.bool true, .int .i64 a0_1, .int .i64 a0_2]) (t := 39) ?hr ?_; (case hd => rfl); (case hg => rfl); (case hr => first | (go_simp; done) | (go_simp; rfl)); intro gb253 hg w12 hbox hb; have BK253 := Aside0.mk (hbox); obtain ⟨GW253, nHB⟩ := geA hg hb; have GE253 := GW253; replace HB := nHB; clear nHB; clear hb hbox hg; have hcz13_0 := czZ BK253 0 (.bool true); have hcz13_1 := czZ BK253 1 (.int .i64 a0_1); have hcz13_2 := czZ BK253 2 (.int .i64 a0_2); have hfz13_0 := blk_frozen BK253.out 0; have hfz13_1 := blk_frozen BK253.out 1; have hfz13_2 := blk_frozen BK253.out 2))
   go_ret
   exact ⟨by first | rfl | (simp [errW_none, errW_some] <;> rfl) | (simp [*, errW_none, errW_some] <;> rfl), by repeat (first | (with_reducible first | exact HB.out | apply below_alloc | apply pw_below_drewN | apply below_drew1 | refine below_set ?_ GE253.out) | exact HB.out)⟩
 ·replace c2 := Bool.eq_false_iff.mpr c2
  subst c2
  have H1 : (some (!false && (a0_1 == 0 && (a0_2 == 0)))) = some r := by rw [if_neg (show ¬ (false = true) by decide)] at H; exact H
  clear H; have H := H1; clear H1; obtain rfl := Option.some.inj H
  go_enter Tryz.func66, Tryz.ntmps66
  go_wp2_with (first | ((with_reducible refine gate_dst (N := 1) rfl ?_); refine box_event ?hg (N := 1) ?hd (cs := #[.bool false, .int .i64 a0_1, .int .i64 a0_2]) (t := 39) ?hr ?_; (case hd => rfl); (case hg => rfl); (case hr => first | (go_simp; done) | (go_simp; rfl)); intro gb253 hg w14 hbox hb; have BK253 := Aside0.mk (hbox); obtain ⟨GW253, nHB⟩ := geA hg hb; have GE253 := GW253; replace HB := nHB; clear nHB; clear hb hbox hg; have hcz15_0 := czZ BK253 0 (.bool false); have hcz15_1 := czZ BK253 1 (.int .i64 a0_1); have hcz15_2 := czZ BK253 2 (.int .i64 a0_2); have hfz15_0 := blk_frozen BK253.out 0; have hfz15_1 := blk_frozen BK253.out 1; have hfz15_2 := blk_frozen BK253.out 2))
  go_ret
  exact ⟨by first | rfl | (simp [errW_none, errW_some] <;> rfl) | (simp [*, errW_none, errW_some] <;> rfl), by repeat (first | (with_reducible first | exact HB.out | apply below_alloc | apply pw_below_drewN | apply below_drew1 | refine below_set ?_ GE253.out) | exact HB.out)⟩

/-! ### rtt_Mean: function 142 -/
noncomputable def rtt_Mean.f (a0_0 : Bool) (a0_1 : Int) (a0_2 : Int) : Option (Int) := some (wrap64 (Int.tdiv a0_1 8))
set_option maxHeartbeats 8000000 in
set_option maxRecDepth 100000 in
theorem rtt_Mean.calls (a0_0 : Bool) (a0_1 : Int) (a0_2 : Int) (r : Int) (w : World) (h : rtt_Mean.f a0_0 a0_1 a0_2 = some r) :
  Calls Tryz.prog 142 #[.agg #[.bool a0_0, .int .i64 a0_1, .int .i64 a0_2]] w fun e w' => e = .returned (.int .i64 r) ∧ Below w.heap.size w w' := by
 have hu39 := Tryz.underlying39; have HB := Aside0.mk (Below.refl w.heap.size w); have H : (some (wrap64 (Int.tdiv a0_1 8))) = some r := h; clear h; obtain rfl := Option.some.inj H
 go_enter Tryz.func142, Tryz.ntmps142
 go_wp2_with (first | ((with_reducible refine gate_dst (N := 1) rfl ?_); refine box_event ?hg (N := 1) ?hd (cs := #[.bool a0_0, .int .i64 a0_1, .int .i64 a0_2]) (t := 39) ?hr ?_; (case hd => rfl); (case hg => rfl); (case hr => first | (go_simp; done) | (go_simp; rfl)); intro gb254 hg w2 hbox hb; have BK254 := Aside0.mk (hbox); obtain ⟨GW254, nHB⟩ := geA hg hb; have GE254 := GW254; replace HB := nHB; clear nHB; clear hb hbox hg; have hcz3_0 := czZ BK254 0 (.bool a0_0); have hcz3_1 := czZ BK254 1 (.int .i64 a0_1); have hcz3_2 := czZ BK254 2 (.int .i64 a0_2); have hfz3_0 := blk_frozen BK254.out 0; have hfz3_1 := blk_frozen BK254.out 1; have hfz3_2 := blk_frozen BK254.out 2))
 go_ret
 exact ⟨by first | rfl | (simp [errW_none, errW_some] <;> rfl) | (simp [*, errW_none, errW_some] <;> rfl), by repeat (first | (with_reducible first | exact HB.out | apply below_alloc | apply pw_below_drewN | apply below_drew1 | refine below_set ?_ GE254.out) | exact HB.out)⟩

/-! ### rate_time: function 127 -/
noncomputable def rate_time.f (a0_0 : Bool) (a0_1 : Int) (a0_2 : Int) : Option (Int) := if a0_0 = true then ((rtt_Check.f a0_0 a0_1 a0_2).bind fun t256 => (if t256 = true then ((rtt_Mean.f a0_0 a0_1 a0_2).bind fun t257 => (some t257)) else (some 100000))) else (some 100000)
set_option maxHeartbeats 8000000 in
set_option maxRecDepth 100000 in
theorem rate_time.calls (a0_0 : Bool) (a0_1 : Int) (a0_2 : Int) (r : Int) (w : World) (h : rate_time.f a0_0 a0_1 a0_2 = some r) :
  Calls Tryz.prog 127 #[.agg #[.bool a0_0, .int .i64 a0_1, .int .i64 a0_2]] w fun e w' => e = .returned (.int .i64 r) ∧ Below w.heap.size w w' := by
 have hu39 := Tryz.underlying39; have HB := Aside0.mk (Below.refl w.heap.size w); have H : (if a0_0 = true then ((rtt_Check.f a0_0 a0_1 a0_2).bind fun t256 => (if t256 = true then ((rtt_Mean.f a0_0 a0_1 a0_2).bind fun t257 => (some t257)) else (some 100000))) else (some 100000)) = some r := h; clear h
 by_cases c2 : a0_0 = true
 ·subst c2
  have H1 : ((rtt_Check.f true a0_1 a0_2).bind fun t256 => (if t256 = true then ((rtt_Mean.f true a0_1 a0_2).bind fun t257 => (some t257)) else (some 100000))) = some r := by rw [if_pos rfl] at H; exact H
  clear H; have H := H1; clear H1; replace H := Option.bind_eq_some_iff.mp H; obtain ⟨t256, A30, H⟩ := H; replace H : (if t256 = true then ((rtt_Mean.f true a0_1 a0_2).bind fun t257 => (some t257)) else (some 100000)) = some r := H; have A3 := Aside0.mk A30; clear A30
  by_cases c4 : t256 = true
  ·subst c4
   have H1 : ((rtt_Mean.f true a0_1 a0_2).bind fun t257 => (some t257)) = some r := by rw [if_pos rfl] at H; exact H
   clear H; have H := H1; clear H1; replace H := Option.bind_eq_some_iff.mp H; obtain ⟨t257, A50, H⟩ := H; replace H : (some t257) = some r := H; have A5 := Aside0.mk A50; clear A50; obtain rfl := Option.some.inj H
   go_enter Tryz.func127, Tryz.ntmps127
   go_wp2_with (first | ((with_reducible refine gate_dst (N := 1) rfl ?_); refine box_event ?hg (N := 1) ?hd (cs := #[.bool true, .int .i64 a0_1, .int .i64 a0_2]) (t := 39) ?hr ?_; (case hd => rfl); (case hg => rfl); (case hr => first | (go_simp; done) | (go_simp; rfl)); intro gb255 hg w6 hbox hb; have BK255 := Aside0.mk (hbox); obtain ⟨GW255, nHB⟩ := geA hg hb; have GE255 := GW255; replace HB := nHB; clear nHB; clear hb hbox hg; have hcz7_0 := czZ BK255 0 (.bool true); have hcz7_1 := czZ BK255 1 (.int .i64 a0_1); have hcz7_2 := czZ BK255 2 (.int .i64 a0_2); have hfz7_0 := blk_frozen BK255.out 0; have hfz7_1 := blk_frozen BK255.out 1; have hfz7_2 := blk_frozen BK255.out 2) | (go_at_call 66; (with_reducible refine (rtt_Check.calls true a0_1 a0_2 true _ A3.out).mono ?_); rintro e w8 ⟨rfl, hb⟩; replace BK255 := bdZ BK255 hb; replace HB := stA hb; clear hb; have hcz9_0 := czZ BK255 0 (.bool true); have hcz9_1 := czZ BK255 1 (.int .i64 a0_1); have hcz9_2 := czZ BK255 2 (.int .i64 a0_2); have hfz9_0 := blk_frozen BK255.out 0; have hfz9_1 := blk_frozen BK255.out 1; have hfz9_2 := blk_frozen BK255.out 2) | ((with_reducible refine gate_callee (f := 142) rfl ?_); refine goesLA_ (some 10) rfl rfl Tryz.func142 rfl #[.agg #[.bool true, .int .i64 a0_1, .int .i64 a0_2]] rfl ?_; (with_reducible refine (rtt_Mean.calls true a0_1 a0_2 t257 _ A5.out).mono ?_); rintro e w10 ⟨rfl, hb⟩; refine ⟨_, rfl, ?_⟩; replace BK255 := bdZ BK255 hb; replace HB := stA hb; clear hb))
   go_ret
   exact ⟨by first | rfl | (simp [errW_none, errW_some] <;> rfl) | (simp [*, errW_none, errW_some] <;> rfl), by repeat (first | (with_reducible first | exact HB.out | apply below_alloc | apply pw_below_drewN | apply below_drew1 | refine below_set ?_ GE255.out) | exact HB.out)⟩
  ·replace c4 := Bool.eq_false_iff.mpr c4
   subst c4
   have H1 : (some 100000) = some r := by rw [if_neg (show ¬ (false = true) by decide)] at H; exact H
   clear H; have H := H1; clear H1; obtain rfl := Option.some.inj H
   go_enter Tryz.func127, Tryz.ntmps127
   go_wp2_with (first | ((with_reducible refine gate_dst (N := 1) rfl ?_); refine box_event ?hg (N := 1) ?hd (cs := #[.bool true, .int .i64 a0_1, .int .i64 a0_2]) (t := 39) ?hr ?_; (case hd => rfl); (case hg => rfl); (case hr => first | (go_simp; done) | (go_simp; rfl)); intro gb255 hg w11 hbox hb; have BK255 := Aside0.mk (hbox); obtain ⟨GW255, nHB⟩ := geA hg hb; have GE255 := GW255; replace HB := nHB; clear nHB; clear hb hbox hg; have hcz12_0 := czZ BK255 0 (.bool true); have hcz12_1 := czZ BK255 1 (.int .i64 a0_1); have hcz12_2 := czZ BK255 2 (.int .i64 a0_2); have hfz12_0 := blk_frozen BK255.out 0; have hfz12_1 := blk_frozen BK255.out 1; have hfz12_2 := blk_frozen BK255.out 2) | (go_at_call 66; (with_reducible refine (rtt_Check.calls true a0_1 a0_2 false _ A3.out).mono ?_); rintro e w13 ⟨rfl, hb⟩; replace BK255 := bdZ BK255 hb; replace HB := stA hb; clear hb))
   go_ret
   exact ⟨by first | rfl | (simp [errW_none, errW_some] <;> rfl) | (simp [*, errW_none, errW_some] <;> rfl), by repeat (first | (with_reducible first | exact HB.out | apply below_alloc | apply pw_below_drewN | apply below_drew1 | refine below_set ?_ GE255.out) | exact HB.out)⟩
 ·replace c2 := Bool.eq_false_iff.mpr c2
  subst c2
  have H1 : (some 100000) = some r := by rw [if_neg (show ¬ (false = true) by decide)] at H; exact H
  clear H; have H := H1; clear H1; obtain rfl := Option.some.inj H
  go_enter Tryz.func127, Tryz.ntmps127
  go_wp2_with (first | ((with_reducible refine gate_dst (N := 1) rfl ?_); refine box_event ?hg (N := 1) ?hd (cs := #[.bool false, .int .i64 a0_1, .int .i64 a0_2]) (t := 39) ?hr ?_; (case hd => rfl); (case hg => rfl); (case hr => first | (go_simp; done) | (go_simp; rfl)); intro gb255 hg w14 hbox hb; have BK255 := Aside0.mk (hbox); obtain ⟨GW255, nHB⟩ := geA hg hb; have GE255 := GW255; replace HB := nHB; clear nHB; clear hb hbox hg; have hcz15_0 := czZ BK255 0 (.bool false); have hcz15_1 := czZ BK255 1 (.int .i64 a0_1); have hcz15_2 := czZ BK255 2 (.int .i64 a0_2); have hfz15_0 := blk_frozen BK255.out 0; have hfz15_1 := blk_frozen BK255.out 1; have hfz15_2 := blk_frozen BK255.out 2))
  go_ret
  exact ⟨by first | rfl | (simp [errW_none, errW_some] <;> rfl) | (simp [*, errW_none, errW_some] <;> rfl), by repeat (first | (with_reducible first | exact HB.out | apply below_alloc | apply pw_below_drewN | apply below_drew1 | refine below_set ?_ GE255.out) | exact HB.out)⟩

/-! ### rate_timeS: the time there and back: pure, behind function 127 -/
noncomputable def rate_timeS.f (has : Bool) (mean far : Int) : Option Int := Sp.need (Sp.I mean ∧ Sp.I far) (some (Sp.timeQ has mean far))
section
open Go.Proofs.YtfahbgkoldoflaaGreatDoor.Sp
theorem rate_timeS.eq {has : Bool} {mean far : Int} (h1 : I mean) (h2 : I far) : rate_timeS.f has mean far = some (timeQ has mean far) := need_pos ⟨h1, h2⟩
theorem rate_time.main {has : Bool} {mean far : Int} (h1 : I mean) (h2 : I far) : rate_time.f has mean far = some (timeQ has mean far) := by
 unfold rate_time.f rtt_Check.f rtt_Mean.f timeQ
 cases has
 ·simp
 ·simp only [if_true]
  by_cases a : mean ≥ 8
  ·by_cases b : mean ≤ 8589934592
   ·by_cases c : far ≥ 0
    ·have e : wrap64 (Int.tdiv mean 8) = mean / 8 := by rw [Int.tdiv_eq_ediv_of_nonneg (by omega), w64 (by omega)]
     by_cases d : far ≤ 4294967296
     ·simp [a, b, c, d, e]
     ·simp [a, b, c, d]
    ·have c2 : ¬ (0 ≤ far) := by omega
     simp [a, b, c2]
   ·simp [a, b]
  ·have a2 : ¬ (8 ≤ mean) := by omega
   simp [a2]
end
theorem rate_timeS.calls (a2_0 : Bool) (a2_1 a2_2 r : Int) (w : World) (h : rate_timeS.f a2_0 a2_1 a2_2 = some r) :
  Calls Tryz.prog 127 #[.agg #[.bool a2_0, .int .i64 a2_1, .int .i64 a2_2]] w fun e w' => e = .returned (.int .i64 r) ∧ Below w.heap.size w w' := by
 obtain ⟨⟨h1, h2⟩, h⟩ := Sp.need_some h; exact rate_time.calls a2_0 a2_1 a2_2 r w (by rw [rate_time.main h1 h2]; exact h)

end Go.Proofs.YtfahbgkoldoflaaGreatDoor.Px
