/- Printed by px.py, over the kit's print. Conditions: none beside the theorems' own. -/
import Derived.Test.YtfahbgkoldoflaaGreatDoorPx0
import Derived.Test.YtfahbgkoldoflaaGreatDoorPx1
import Derived.Test.YtfahbgkoldoflaaGreatDoorPx4
import Derived.Test.YtfahbgkoldoflaaGreatDoorPx6
import Derived.Test.YtfahbgkoldoflaaGreatDoorPx9
import Derived.Test.YtfahbgkoldoflaaGreatDoorPx11
import Derived.Test.YtfahbgkoldoflaaGreatDoorSpec
namespace Go.Proofs.YtfahbgkoldoflaaGreatDoor.Px
open Go.RowKit Go.Proofs.YtfahbgkoldoflaaGreatDoorW.PrintWords Go.Proofs.YtfahbgkoldoflaaGreatDoorW.PrintLast Go.Proofs.YtfahbgkoldoflaaGreatDoorW.PrintMore
attribute [local go_sem] max2_int min2_int max_two min_two max_three min_three max_four min_four
set_option linter.unusedVariables false
set_option linter.unusedSimpArgs false

attribute [local go_sem high] eqA25 eqA99
/-! ### frac_way_part_frac_Floor: function 100 -/
mutual
noncomputable def frac_way_part_frac_Floor.j0 : Nat → Int → Bool → Bool → Int → Int → Option (Int × Int)
 | 0, _, _, _, _, _ => none
 | k + 1, x13, x36, x262000, x262001, x262002 => if x36 = true then ((big_OfS.f 1).bind fun bt263 => ((big_AddS.f x262000 x262001 x262002 bt263.1 bt263.2.1 bt263.2.2).bind fun bt266 => (frac_way_part_frac_Floor.j1 k bt266.2.2.2 bt266.1 bt266.2.1 bt266.2.2.1))) else (frac_way_part_frac_Floor.j1 k x13 x262000 x262001 x262002)
noncomputable def frac_way_part_frac_Floor.j1 : Nat → Int → Bool → Int → Int → Option (Int × Int)
 | 0, _, _, _, _ => none
 | k + 1, x13, x262000, x262001, x262002 => (big_IntS.f x262000 x262001 x262002).bind fun t270 => (if x13 = 0 then ((big_OfS.f t270).bind fun bt271 => (if (!(x262000 == bt271.1) || (!(x262001 == bt271.2.1) || (!(x262002 == bt271.2.2)))) = true then (some (0, 10)) else (some (t270, 0)))) else (some (0, 10)))
end
noncomputable def frac_way_part_frac_Floor.f (k : Nat) (a0_0 : Unit) (a1 : Int) (a2 : Int) (a3 : Int) : Option (Int × Int) := if a3 < 1 then (some (0, 20)) else ((big_MulS.f a1 a2).bind fun bt253 => ((big_DivS.f bt253.1 bt253.2.1 bt253.2.2 (IntKind.u64.wrap (a3))).bind fun bt256 => (if bt256.2.2.2.2 = 0 then ((frac_Floor_1.f bt256.2.2.2.1 (IntKind.u64.wrap (a3))).bind fun t262 => (frac_way_part_frac_Floor.j0 k bt256.2.2.2.2 t262 bt256.1 bt256.2.1 bt256.2.2.1)) else (frac_way_part_frac_Floor.j0 k bt256.2.2.2.2 false bt256.1 bt256.2.1 bt256.2.2.1))))
def frac_way_part_frac_Floor.T6 : Bool × List (List Nat × List Nat) := (true, [([], []), ([], []), ([0, 1, 1], [0, 1]), ([2], [2]), ([3], [3]), ([3], [3]), ([4, 2, 0, 1, 2, 3, 4], [4]), ([5, 6, 0, 1, 2, 3, 4, 5, 6], [5])])
def frac_way_part_frac_Floor.B6 : List Nat := [0, 0, 3, 7, 15, 15, 31, 127]
theorem frac_way_part_frac_Floor.tab6 : rtab .any (opsOf Tryz.f100 6) = frac_way_part_frac_Floor.T6 := by kernel_rfl
theorem frac_way_part_frac_Floor.bits6 : waitsOk frac_way_part_frac_Floor.T6.2 frac_way_part_frac_Floor.B6 = true := by kernel_rfl
def frac_way_part_frac_Floor.T8 : Bool × List (List Nat × List Nat) := (true, [([], []), ([0], [0]), ([1], [1]), ([2], [2]), ([2], [2]), ([4, 2, 2], [2, 4]), ([3, 5, 2], [2, 3, 5]), ([2, 6], [2, 6])])
def frac_way_part_frac_Floor.B8 : List Nat := [0, 1, 3, 7, 7, 23, 63, 127]
theorem frac_way_part_frac_Floor.tab8 : rtab .any (opsOf Tryz.f100 8) = frac_way_part_frac_Floor.T8 := by kernel_rfl
theorem frac_way_part_frac_Floor.bits8 : waitsOk frac_way_part_frac_Floor.T8.2 frac_way_part_frac_Floor.B8 = true := by kernel_rfl
set_option maxHeartbeats 8000000 in
set_option maxRecDepth 100000 in
theorem frac_way_part_frac_Floor.calls (k : Nat) (a0_0 : Unit) (a1 : Int) (a2 : Int) (a3 : Int) (r1 : Int) (r2 : Int) (w : World) (h : frac_way_part_frac_Floor.f k a0_0 a1 a2 a3 = some (r1, r2)) :
  Calls Tryz.prog 100 #[.agg #[.func (.func 99) #[] #[]], .int .i64 a1, .int .i64 a2, .int .i64 a3] w fun e w' => e = .returned (.tuple #[.int .i64 r1, .int .i64 r2]) ∧ Below w.heap.size w w' := by
 have hu151 := Tryz.underlying151; have hu99 := Tryz.underlying99; have HB := Aside0.mk (Below.refl w.heap.size w); have H : (if a3 < 1 then (some (0, 20)) else ((big_MulS.f a1 a2).bind fun bt253 => ((big_DivS.f bt253.1 bt253.2.1 bt253.2.2 (IntKind.u64.wrap (a3))).bind fun bt256 => (if bt256.2.2.2.2 = 0 then ((frac_Floor_1.f bt256.2.2.2.1 (IntKind.u64.wrap (a3))).bind fun t262 => (frac_way_part_frac_Floor.j0 k bt256.2.2.2.2 t262 bt256.1 bt256.2.1 bt256.2.2.1)) else (frac_way_part_frac_Floor.j0 k bt256.2.2.2.2 false bt256.1 bt256.2.1 bt256.2.2.1))))) = some (r1, r2) := h; clear h
 by_cases c5 : a3 < 1
 ·rw [if_pos c5] at H
  have c5b0 : decide (a3 < 1) = true := decide_eq_true c5; clear c5; simp only [Option.some.injEq, Prod.mk.injEq] at H; obtain ⟨rfl, rfl⟩ := H
  go_enter Tryz.func100, Tryz.ntmps100
  go_wp2_with (first | ((with_reducible refine gate_dst (N := 4) rfl ?_); refine box_event ?hg (N := 4) ?hd (cs := #[.func (.func 99) #[] #[]]) (t := 151) ?hr ?_; (case hd => rfl); (case hg => rfl); (case hr => first | (go_simp; done) | (go_simp; rfl)); intro gb252 hg w6 hbox hb; have BK252 := Aside0.mk (hbox); obtain ⟨GW252, nHB⟩ := geA hg hb; have GE252 := GW252; replace HB := nHB; clear nHB; clear hb hbox hg))
  go_ret2
  exact ⟨by first | rfl | (simp [errW_none, errW_some] <;> rfl) | (simp [*, errW_none, errW_some] <;> rfl), by repeat (first | (with_reducible first | exact HB.out | apply below_alloc | apply pw_below_drewN | apply below_drew1 | refine below_set ?_ GE252.out) | exact HB.out)⟩
 ·rw [if_neg c5] at H
  have c5b0 : decide (a3 < 1) = false := decide_eq_false c5; clear c5; replace H := Option.bind_eq_some_iff.mp H; obtain ⟨⟨t253, t254, t255⟩, A70, H⟩ := H; (try dsimp only at H); have A7 := Aside0.mk A70; clear A70; replace H := Option.bind_eq_some_iff.mp H; obtain ⟨⟨t256, t257, t258, t259, t260⟩, A80, H⟩ := H; (try dsimp only at H); have A8 := Aside0.mk A80; clear A80; have HC9 := Aside0.mk H; clear H
  go_enter Tryz.func100, Tryz.ntmps100
  go_upto_region 5 with (first | ((with_reducible refine gate_dst (N := 4) rfl ?_); refine box_event ?hg (N := 4) ?hd (cs := #[.func (.func 99) #[] #[]]) (t := 151) ?hr ?_; (case hd => rfl); (case hg => rfl); (case hr => first | (go_simp; done) | (go_simp; rfl)); intro gb252 hg w10 hbox hb; have BK252 := Aside0.mk (hbox); obtain ⟨GW252, nHB⟩ := geA hg hb; have GE252 := GW252; replace HB := nHB; clear nHB; clear hb hbox hg) | ((with_reducible refine gate_callee (f := 131) rfl ?_); refine goesLA_ (some 22) rfl rfl Tryz.func131 rfl #[.int .i64 a1, .int .i64 a2] rfl ?_; (with_reducible refine (big_MulS.calls a1 a2 t253 t254 t255 _ A7.out).mono ?_); rintro e w11 ⟨rfl, hb⟩; refine ⟨_, rfl, ?_⟩; replace BK252 := bdZ BK252 hb; replace HB := stA hb; clear hb) | ((with_reducible refine gate_callee (f := 50) rfl ?_); refine goesLA_ (some 24) rfl rfl Tryz.func50 rfl #[.agg #[.bool t253, .int .u64 t254, .int .u64 t255], .int .u64 (IntKind.u64.wrap (a3))] rfl ?_; (with_reducible refine (big_DivS.calls t253 t254 t255 (IntKind.u64.wrap (a3)) t256 t257 t258 t259 t260 _ A8.out).mono ?_); rintro e w12 ⟨rfl, hb⟩; refine ⟨_, rfl, ?_⟩; replace BK252 := bdZ BK252 hb; replace HB := stA hb; clear hb) | ((with_reducible refine gate_dst (N := 11) rfl ?_); refine box_event ?hg (N := 11) ?hd (cs := #[.bool false, .int .u64 0, .int .u64 0]) (t := 99) ?hr ?_; (case hd => rfl); (case hg => rfl); (case hr => first | (go_simp; done) | (go_simp; rfl)); intro gb261 hg w13 hbox hb; have BK261 := Aside0.mk (hbox); obtain ⟨GW261, nHB⟩ := geA hg hb; have GE261 := GW261; obtain ⟨NB252_261, NB261_252, nBK⟩ := nbA BK252 hg hb; replace BK252 := nBK; clear nBK; replace HB := nHB; clear nHB; clear hb hbox hg; have hnb14 := NB261_252.out; have hnc14 := NB252_261.out; have hcz15_0 := czZ BK261 0 (.bool false); have hcz15_1 := czZ BK261 1 (.int .u64 0); have hcz15_2 := czZ BK261 2 (.int .u64 0); have hfz15_0 := blk_frozen BK261.out 0; have hfz15_1 := blk_frozen BK261.out 1; have hfz15_2 := blk_frozen BK261.out 2))
  (try simp only [Act.put, sA, sB, sC])
  go_cut [36] (fun v36 wc => ∃ (kq : Nat) (x36_8 : Bool), v36 = .bool x36_8 ∧ Aside0 (frac_way_part_frac_Floor.j0 kq t260 x36_8 t256 t257 t258 = some (r1, r2)) ∧ Aside0 (kq ≤ k) ∧ Aside0 (wc.heap[gb252]? = some (.cells #[.func (.func 99) #[] #[]] 151 (0, 0))) ∧ Aside0 (wc.heap[gb261]? = some (.cells #[.bool t256, .int .u64 t257, .int .u64 t258] 99 (0, 0))) ∧ Aside0 (Below w.heap.size w wc))
  case first =>
   have H := HC9.out; clear HC9
   by_cases c16 : t260 = 0
   ·rw [if_pos c16] at H
    have c16b0 : (t260 == 0) = true := beq_iff_eq.mpr c16; have c16b1 : (t260 != 0) = false := bne_eq_false_iff_eq.mpr c16; clear c16
    (first | rw [c16b0] | (simp only [i64_w, i32_w]; rw [c16b0]) | skip)
    replace H := Option.bind_eq_some_iff.mp H; obtain ⟨t262, A170, H⟩ := H; replace H : (frac_way_part_frac_Floor.j0 k t260 t262 t256 t257 t258) = some (r1, r2) := H; have A17 := Aside0.mk A170; clear A170; have H' := Aside0.mk H; clear H; have hnb18 := NB252_261.out; have hnc18 := NB261_252.out; have hcz19_0 := czZ BK252 0 (.func (.func 99) #[] #[]); have hfz19_0 := blk_frozen BK252.out 0
    go_wp2_with (first | (go_at_call 99; (with_reducible refine (frac_Floor_1.calls t259 (IntKind.u64.wrap (a3)) t262 _ A17.out).mono ?_); rintro e w' ⟨rfl, ⟨nd, rfl⟩⟩))
    go_meet
    case rel => exact ⟨_, (t262), (by first | rfl | (simp; done) | (simp [*]; done)), H', ⟨by first | omega | exact Nat.le_refl _⟩, ⟨by (with_reducible repeat first | apply blk_drewN | apply blk_drew | apply blk_alloc); refine blk_far ?_ NB252_261.out _; (with_reducible repeat first | apply blk_drewN | apply blk_drew | apply blk_alloc); refine blk_far ?_ NB252_261.out _; (with_reducible repeat first | apply blk_drewN | apply blk_drew | apply blk_alloc); refine blk_far ?_ NB252_261.out _; (with_reducible repeat first | apply blk_drewN | apply blk_drew | apply blk_alloc); exact BK252.out⟩, ⟨by (with_reducible repeat first | apply blk_drewN | apply blk_drew | apply blk_alloc); refine blk_put (cs := #[.bool t256, .int .u64 t257, .int .u64 0]) ?_ 2 _ rfl; (with_reducible repeat first | apply blk_drewN | apply blk_drew | apply blk_alloc); refine blk_put (cs := #[.bool t256, .int .u64 0, .int .u64 0]) ?_ 1 _ rfl; (with_reducible repeat first | apply blk_drewN | apply blk_drew | apply blk_alloc); refine blk_put (cs := #[.bool false, .int .u64 0, .int .u64 0]) ?_ 0 _ rfl; (with_reducible repeat first | apply blk_drewN | apply blk_drew | apply blk_alloc); exact BK261.out⟩, ⟨by repeat (first | (with_reducible first | exact HB.out | apply below_alloc | apply pw_below_drewN | apply below_drew1 | refine below_set ?_ (Aside0.out (by assumption))) | exact HB.out)⟩⟩
   ·rw [if_neg c16] at H
    have c16b0 : (t260 == 0) = false := beq_eq_false_iff_ne.mpr c16; have c16b1 : (t260 != 0) = true := bne_iff_ne.mpr c16
    (first | rw [c16b0] | (simp only [i64_w, i32_w]; rw [c16b0]) | skip)
    have H' := Aside0.mk H; clear H
    go_wp2
    go_meet
    case rel => exact ⟨_, (false), (by first | rfl | (simp; done) | (simp [*]; done)), H', ⟨by first | omega | exact Nat.le_refl _⟩, ⟨by (with_reducible repeat first | apply blk_drewN | apply blk_drew | apply blk_alloc); refine blk_far ?_ NB252_261.out _; (with_reducible repeat first | apply blk_drewN | apply blk_drew | apply blk_alloc); refine blk_far ?_ NB252_261.out _; (with_reducible repeat first | apply blk_drewN | apply blk_drew | apply blk_alloc); refine blk_far ?_ NB252_261.out _; (with_reducible repeat first | apply blk_drewN | apply blk_drew | apply blk_alloc); exact BK252.out⟩, ⟨by (with_reducible repeat first | apply blk_drewN | apply blk_drew | apply blk_alloc); refine blk_put (cs := #[.bool t256, .int .u64 t257, .int .u64 0]) ?_ 2 _ rfl; (with_reducible repeat first | apply blk_drewN | apply blk_drew | apply blk_alloc); refine blk_put (cs := #[.bool t256, .int .u64 0, .int .u64 0]) ?_ 1 _ rfl; (with_reducible repeat first | apply blk_drewN | apply blk_drew | apply blk_alloc); refine blk_put (cs := #[.bool false, .int .u64 0, .int .u64 0]) ?_ 0 _ rfl; (with_reducible repeat first | apply blk_drewN | apply blk_drew | apply blk_alloc); exact BK261.out⟩, ⟨by repeat (first | (with_reducible first | exact HB.out | apply below_alloc | apply pw_below_drewN | apply below_drew1 | refine below_set ?_ (Aside0.out (by assumption))) | exact HB.out)⟩⟩
  case rest =>
   clear HC9
   try clear c1
   try clear p2
   try clear c5
   try clear c5b0
   try clear c10
   try clear c13
   try clear c14
   try clear c16
   try clear c16b0
   try clear c16b1
   try clear c18
   try clear hcz15_0
   try clear hcz15_1
   try clear hcz15_2
   try clear hcz19_0
   try clear hfz15_0
   try clear hfz15_1
   try clear hfz15_2
   try clear hfz19_0
   obtain ⟨kq, x36_8, rfl, HA, HJ8, BK252, BK261, HB⟩ := hcut
   cases kq with
   | zero => exact absurd HA.out (by simp [frac_way_part_frac_Floor.j0])
   | succ kj8 =>
    have H := HA.out; clear HA; simp only [frac_way_part_frac_Floor.j0] at H; have HC20 := Aside0.mk H; clear H
    go_upto_if 36 with (fail)
    go_cut [13] (fun v13 wc => ∃ (kq : Nat) (x13_19 : Int) (x262000_19 : Bool) (x262001_19 : Int) (x262002_19 : Int), v13 = .int .i64 x13_19 ∧ Aside0 (frac_way_part_frac_Floor.j1 kq x13_19 x262000_19 x262001_19 x262002_19 = some (r1, r2)) ∧ Aside0 (kq ≤ kj8) ∧ Aside0 (wc.heap[gb252]? = some (.cells #[.func (.func 99) #[] #[]] 151 (0, 0))) ∧ Aside0 (wc.heap[gb261]? = some (.cells #[.bool x262000_19, .int .u64 x262001_19, .int .u64 x262002_19] 99 (0, 0))) ∧ Aside0 (Below w.heap.size w wc))
    case first =>
     have H := HC20.out; clear HC20
     by_cases c21 : x36_8 = true
     ·subst c21
      have H1 : ((big_OfS.f 1).bind fun bt263 => ((big_AddS.f t256 t257 t258 bt263.1 bt263.2.1 bt263.2.2).bind fun bt266 => (frac_way_part_frac_Floor.j1 kj8 bt266.2.2.2 bt266.1 bt266.2.1 bt266.2.2.1))) = some (r1, r2) := by rw [if_pos rfl] at H; exact H
      clear H; have H := H1; clear H1; replace H := Option.bind_eq_some_iff.mp H; obtain ⟨⟨t263, t264, t265⟩, A220, H⟩ := H; replace H : ((big_AddS.f t256 t257 t258 t263 t264 t265).bind fun bt266 => (frac_way_part_frac_Floor.j1 kj8 bt266.2.2.2 bt266.1 bt266.2.1 bt266.2.2.1)) = some (r1, r2) := H; have A22 := Aside0.mk A220; clear A220; replace H := Option.bind_eq_some_iff.mp H; obtain ⟨⟨t266, t267, t268, t269⟩, A230, H⟩ := H; replace H : (frac_way_part_frac_Floor.j1 kj8 t269 t266 t267 t268) = some (r1, r2) := H; have A23 := Aside0.mk A230; clear A230; have H' := Aside0.mk H; clear H
      try go_wp2
      replace BK252 := Aside0.mk (blk_drew BK252.out); replace BK261 := Aside0.mk (blk_drew BK261.out); replace HB := Aside0.mk (below_drew1 HB.out); refine start_ (n := 8) (S := fun w' => w'.cell? ⟨gb261, 0, none⟩ = some (.bool t256) ∧ w'.cell? ⟨gb261, 1, none⟩ = some (.int .u64 t257) ∧ w'.cell? ⟨gb261, 2, none⟩ = some (.int .u64 t258)) (ds := [6]) #[N,N,N,N,N,N,N,N] (by kernel_rfl) rfl rfl ⟨(blk_cell BK261.out 0).trans rfl, (blk_cell BK261.out 1).trans rfl, (blk_cell BK261.out 2).trans rfl⟩ (fun hHeld => ?_); refine with_tabW frac_way_part_frac_Floor.tab6 frac_way_part_frac_Floor.bits6 (fun HT_ HW_ => ?_)
      generalize wc.drew = w24 at BK252 BK261 HB hHeld ⊢
      refine take_ (i := 0) (N := some 38) (v := ?_) (a' := ?_) #[Y,N,N,N,N,N,N,N] rfl rfl (take_ofW HT_.out HW_.out (by kernel_rfl)) (fun _ _ _ h => h) (Or.inl ⟨by rfl, ?_⟩) hHeld ?_ ?_; rotate_left
      ·rintro w' ⟨s0, s1, s2⟩; go_simp
       with_reducible rfl
      rotate_left
      ·simp only [Act.put, sA, sB, sC, i64_w, i32_w]
       rfl
      refine one_ (i := 1) (N := some 39) #[Y,Y,N,N,N,N,N,N] rfl rfl (one_of HT_.out (by kernel_rfl)) (by decide) (fun K hK => ?_); refine goesA_ Tryz.func48 rfl #[.int .i64 1] (by rfl) rfl rfl ?_
      with_reducible refine (big_OfS.calls 1 t263 t264 t265 _ A22.out).mono ?_
      rintro e w25 ⟨rfl, hb⟩; refine ⟨_, rfl, ?_⟩; replace BK252 := bbZ BK252 hb; replace BK261 := bbZ BK261 hb; replace HB := Aside0.mk (below_step HB.out hb); clear hb; refine hK.out _ _ ⟨(blk_cell BK261.out 0).trans rfl, (blk_cell BK261.out 1).trans rfl, (blk_cell BK261.out 2).trans rfl⟩ (fun hHeld => ?_); clear hK K; refine normA_ (some 39) ?_
      refine one_ (i := 2) (N := some 40) #[Y,Y,Y,N,N,N,N,N] rfl rfl (one_of HT_.out (by kernel_rfl)) (by decide) (fun K hK => ?_); refine goesA_ Tryz.func107 rfl #[.agg #[.bool t256, .int .u64 t257, .int .u64 t258], .agg #[.bool t263, .int .u64 t264, .int .u64 t265]] (by rfl) rfl rfl ?_
      with_reducible refine (big_AddS.calls t256 t257 t258 t263 t264 t265 t266 t267 t268 t269 _ A23.out).mono ?_
      rintro e w26 ⟨rfl, hb⟩; refine ⟨_, rfl, ?_⟩; replace BK252 := bbZ BK252 hb; replace BK261 := bbZ BK261 hb; replace HB := Aside0.mk (below_step HB.out hb); clear hb; refine hK.out _ _ ⟨(blk_cell BK261.out 0).trans rfl, (blk_cell BK261.out 1).trans rfl, (blk_cell BK261.out 2).trans rfl⟩ (fun hHeld => ?_); clear hK K; refine normA_ (some 40) ?_
      refine pureA_ (i := 3) (N := some 37) #[Y,Y,Y,Y,N,N,N,N] rfl rfl (any_of HT_.out (by kernel_rfl)) ?_
      refine pureA_ (i := 4) (N := some 41) #[Y,Y,Y,Y,Y,N,N,N] rfl rfl (any_of HT_.out (by kernel_rfl)) ?_
      refine pureA_ (i := 5) (N := some 42) #[Y,Y,Y,Y,Y,Y,N,N] rfl rfl (any_of HT_.out (by kernel_rfl)) ?_
      refine last_ (i := 6) (N := none) #[Y,Y,Y,Y,Y,Y,Y,N] rfl rfl (one_of HT_.out (by kernel_rfl)) (by decide) (fun K hK => ?_); have hs27 := czZ BK261 0 (.bool t256); have hfs27 := blk_frozen BK261.out 0; have hns27_0 := NB252_261.out; have hms27_0 := NB261_252.out; have hs28 := czZ BK261 1 (.int .u64 t257); have hfs28 := blk_frozen BK261.out 1; have hns28_0 := NB252_261.out; have hms28_0 := NB261_252.out; have hs29 := czZ BK261 2 (.int .u64 t258); have hfs29 := blk_frozen BK261.out 2; have hns29_0 := NB252_261.out; have hms29_0 := NB261_252.out; refine skip_ (w1 := ?_) (by rfl) rfl ?_ ?_; rotate_left
      ·go_simp
       rfl
      refine hK.out _ _ ?_; clear hK K; refine pureA_ (i := 7) (N := some 13) #[Y,Y,Y,Y,Y,Y,Y,Y] rfl rfl (any_of HT_.out (by kernel_rfl)) ?_
      refine done_ (done_of HT_.out (by kernel_rfl)) ?_
      try go_wp2
      go_meet
      case rel => exact ⟨_, (t269), (t266), (t267), (t268), (by first | rfl | (simp; done) | (simp [*]; done)), H', ⟨by have := HJ8.out; first | omega | exact Nat.le_refl _⟩, ⟨by (with_reducible repeat first | apply blk_drewN | apply blk_drew | apply blk_alloc); refine blk_far ?_ NB252_261.out _; (with_reducible repeat first | apply blk_drewN | apply blk_drew | apply blk_alloc); refine blk_far ?_ NB252_261.out _; (with_reducible repeat first | apply blk_drewN | apply blk_drew | apply blk_alloc); refine blk_far ?_ NB252_261.out _; (with_reducible repeat first | apply blk_drewN | apply blk_drew | apply blk_alloc); exact BK252.out⟩, ⟨by (with_reducible repeat first | apply blk_drewN | apply blk_drew | apply blk_alloc); refine blk_put (cs := #[.bool t266, .int .u64 t267, .int .u64 t258]) ?_ 2 _ rfl; (with_reducible repeat first | apply blk_drewN | apply blk_drew | apply blk_alloc); refine blk_put (cs := #[.bool t266, .int .u64 t257, .int .u64 t258]) ?_ 1 _ rfl; (with_reducible repeat first | apply blk_drewN | apply blk_drew | apply blk_alloc); refine blk_put (cs := #[.bool t256, .int .u64 t257, .int .u64 t258]) ?_ 0 _ rfl; (with_reducible repeat first | apply blk_drewN | apply blk_drew | apply blk_alloc); exact BK261.out⟩, ⟨by repeat (first | (with_reducible first | exact HB.out | apply below_alloc | apply pw_below_drewN | apply below_drew1 | refine below_set ?_ (Aside0.out (by assumption))) | exact HB.out)⟩⟩
     ·replace c21 := Bool.eq_false_iff.mpr c21
      subst c21
      have H1 : (frac_way_part_frac_Floor.j1 kj8 t260 t256 t257 t258) = some (r1, r2) := by rw [if_neg (show ¬ (false = true) by decide)] at H; exact H
      clear H; have H := H1; clear H1; have H' := Aside0.mk H; clear H
      go_wp2
      go_meet
      case rel => exact ⟨_, (t260), (t256), (t257), (t258), (by first | rfl | (simp; done) | (simp [*]; done)), H', ⟨by have := HJ8.out; first | omega | exact Nat.le_refl _⟩, ⟨by (with_reducible repeat first | apply blk_drewN | apply blk_drew | apply blk_alloc); exact BK252.out⟩, ⟨by (with_reducible repeat first | apply blk_drewN | apply blk_drew | apply blk_alloc); exact BK261.out⟩, ⟨by repeat (first | (with_reducible first | exact HB.out | apply below_alloc | apply pw_below_drewN | apply below_drew1 | refine below_set ?_ (Aside0.out (by assumption))) | exact HB.out)⟩⟩
    case rest =>
     clear HC20
     try clear c1
     try clear c2
     try clear p2
     try clear c4
     try clear c5
     try clear c5b0
     try clear c10
     try clear c13
     try clear c14
     try clear c16
     try clear c16b0
     try clear c16b1
     try clear c18
     try clear c21
     try clear hcz15_0
     try clear hcz15_1
     try clear hcz15_2
     try clear hcz19_0
     try clear hfz15_0
     try clear hfz15_1
     try clear hfz15_2
     try clear hfz19_0
     try clear p2
     obtain ⟨kq, x13_19, x262000_19, x262001_19, x262002_19, rfl, HA, HJ19, BK252, BK261, HB⟩ := hcut
     cases kq with
     | zero => exact absurd HA.out (by simp [frac_way_part_frac_Floor.j1])
     | succ kj19 =>
      have H := HA.out; clear HA; simp only [frac_way_part_frac_Floor.j1] at H; replace H := Option.bind_eq_some_iff.mp H; obtain ⟨t270, A300, H⟩ := H; (try dsimp only at H); have A30 := Aside0.mk A300; clear A300
      by_cases c31 : x13_19 = 0
      ·rw [if_pos c31] at H
       have c31b0 : (x13_19 == 0) = true := beq_iff_eq.mpr c31; have c31b1 : (x13_19 != 0) = false := bne_eq_false_iff_eq.mpr c31; clear c31; replace H := Option.bind_eq_some_iff.mp H; obtain ⟨⟨t271, t272, t273⟩, A320, H⟩ := H; replace H : (if (!(x262000_19 == t271) || (!(x262001_19 == t272) || (!(x262002_19 == t273)))) = true then (some (0, 10)) else (some (t270, 0))) = some (r1, r2) := H; have A32 := Aside0.mk A320; clear A320
       by_cases c33 : (!(x262000_19 == t271) || (!(x262001_19 == t272) || (!(x262002_19 == t273)))) = true
       ·rw [if_pos c33] at H
        have c33b0 : (!(x262000_19 == t271) || (!(x262001_19 == t272) || (!(x262002_19 == t273)))) = true := c33; clear c33; simp only [Option.some.injEq, Prod.mk.injEq] at H; obtain ⟨rfl, rfl⟩ := H; have hnb34 := NB261_252.out; have hnc34 := NB252_261.out; have hcz35_0 : wc.cell? ⟨gb261, 0, none⟩ = some (.bool x262000_19) := (blk_cell BK261.out 0).trans rfl; have hcz35_1 : wc.cell? ⟨gb261, 1, none⟩ = some (.int .u64 x262001_19) := (blk_cell BK261.out 1).trans rfl; have hcz35_2 : wc.cell? ⟨gb261, 2, none⟩ = some (.int .u64 x262002_19) := (blk_cell BK261.out 2).trans rfl; have hfz35_0 := blk_frozen BK261.out 0; have hfz35_1 := blk_frozen BK261.out 1; have hfz35_2 := blk_frozen BK261.out 2
        try go_wp2_with (first | ((with_reducible refine gate_callee (f := 145) rfl ?_); refine goesLA_ (some 44) rfl rfl Tryz.func145 rfl #[.agg #[.bool x262000_19, .int .u64 x262001_19, .int .u64 x262002_19]] rfl ?_; (with_reducible refine (big_IntS.calls x262000_19 x262001_19 x262002_19 t270 _ A30.out).mono ?_); rintro e w36 ⟨rfl, hb⟩; refine ⟨_, rfl, ?_⟩; replace BK252 := bdZ BK252 hb; replace BK261 := bdZ BK261 hb; replace HB := stA hb; clear hb))
        replace BK252 := Aside0.mk (blk_drew BK252.out); replace BK261 := Aside0.mk (blk_drew BK261.out); replace HB := Aside0.mk (below_drew1 HB.out); refine start_ (n := 8) (S := fun w' => w'.cell? ⟨gb261, 0, none⟩ = some (.bool x262000_19) ∧ w'.cell? ⟨gb261, 1, none⟩ = some (.int .u64 x262001_19) ∧ w'.cell? ⟨gb261, 2, none⟩ = some (.int .u64 x262002_19)) (ds := []) #[N,N,N,N,N,N,N,N] (by kernel_rfl) rfl rfl ⟨(blk_cell BK261.out 0).trans rfl, (blk_cell BK261.out 1).trans rfl, (blk_cell BK261.out 2).trans rfl⟩ (fun hHeld => ?_); refine with_tabW frac_way_part_frac_Floor.tab8 frac_way_part_frac_Floor.bits8 (fun HT_ HW_ => ?_)
        generalize w36.drew = w37 at BK252 BK261 HB hHeld ⊢
        refine pureA_ (i := 0) (N := some 45) #[Y,N,N,N,N,N,N,N] rfl rfl (any_of HT_.out (by kernel_rfl)) ?_
        refine pureA_ (i := 1) (N := some 46) #[Y,Y,N,N,N,N,N,N] rfl rfl (any_of HT_.out (by kernel_rfl)) ?_
        refine pureA_ (i := 2) (N := some 47) #[Y,Y,Y,N,N,N,N,N] rfl rfl (any_of HT_.out (by kernel_rfl)) ?_
        refine pureA_ (i := 4) (N := some 49) #[Y,Y,Y,N,Y,N,N,N] rfl rfl (any_of HT_.out (by kernel_rfl)) ?_
        refine take_ (i := 3) (N := some 48) (v := ?_) (a' := ?_) #[Y,Y,Y,Y,Y,N,N,N] rfl rfl (take_ofW HT_.out HW_.out (by kernel_rfl)) (fun _ _ _ h => h) (Or.inl ⟨by rfl, ?_⟩) hHeld ?_ ?_; rotate_left
        ·rintro w' ⟨s0, s1, s2⟩; go_simp
         with_reducible rfl
        rotate_left
        ·simp only [Act.put, sA, sB, sC, i64_w, i32_w]
         rfl
        refine one_ (i := 5) (N := some 50) #[Y,Y,Y,Y,Y,Y,N,N] rfl rfl (one_of HT_.out (by kernel_rfl)) (by decide) (fun K hK => ?_); refine goesA_ Tryz.func48 rfl #[.int .i64 t270] (by rfl) rfl rfl ?_
        with_reducible refine (big_OfS.calls t270 t271 t272 t273 _ A32.out).mono ?_
        rintro e w38 ⟨rfl, hb⟩; refine ⟨_, rfl, ?_⟩; replace BK252 := bbZ BK252 hb; replace BK261 := bbZ BK261 hb; replace HB := Aside0.mk (below_step HB.out hb); clear hb; refine hK.out _ _ ⟨(blk_cell BK261.out 0).trans rfl, (blk_cell BK261.out 1).trans rfl, (blk_cell BK261.out 2).trans rfl⟩ (fun hHeld => ?_); clear hK K; refine normA_ (some 50) ?_
        refine pureA_ (i := 6) (N := some 51) #[Y,Y,Y,Y,Y,Y,Y,N] rfl rfl (any_of HT_.out (by kernel_rfl)) ?_
        refine pureA_ (i := 7) (N := some 52) #[Y,Y,Y,Y,Y,Y,Y,Y] rfl rfl (any_of HT_.out (by kernel_rfl)) ?_
        refine done_ (done_of HT_.out (by kernel_rfl)) ?_
        try go_wp2
        go_ret2
        exact ⟨by first | rfl | (simp [errW_none, errW_some] <;> rfl) | (simp [*, errW_none, errW_some] <;> rfl), by repeat (first | (with_reducible first | exact HB.out | apply below_alloc | apply pw_below_drewN | apply below_drew1 | refine below_set ?_ (Aside0.out (by assumption))) | exact HB.out)⟩
       ·rw [if_neg c33] at H
        have c33b0 : (!(x262000_19 == t271) || (!(x262001_19 == t272) || (!(x262002_19 == t273)))) = false := by simpa using c33
        clear c33; simp only [Option.some.injEq, Prod.mk.injEq] at H; obtain ⟨rfl, rfl⟩ := H; have hnb39 := NB261_252.out; have hnc39 := NB252_261.out; have hcz40_0 : wc.cell? ⟨gb261, 0, none⟩ = some (.bool x262000_19) := (blk_cell BK261.out 0).trans rfl; have hcz40_1 : wc.cell? ⟨gb261, 1, none⟩ = some (.int .u64 x262001_19) := (blk_cell BK261.out 1).trans rfl; have hcz40_2 : wc.cell? ⟨gb261, 2, none⟩ = some (.int .u64 x262002_19) := (blk_cell BK261.out 2).trans rfl; have hfz40_0 := blk_frozen BK261.out 0; have hfz40_1 := blk_frozen BK261.out 1; have hfz40_2 := blk_frozen BK261.out 2
        try go_wp2_with (first | ((with_reducible refine gate_callee (f := 145) rfl ?_); refine goesLA_ (some 44) rfl rfl Tryz.func145 rfl #[.agg #[.bool x262000_19, .int .u64 x262001_19, .int .u64 x262002_19]] rfl ?_; (with_reducible refine (big_IntS.calls x262000_19 x262001_19 x262002_19 t270 _ A30.out).mono ?_); rintro e w41 ⟨rfl, hb⟩; refine ⟨_, rfl, ?_⟩; replace BK252 := bdZ BK252 hb; replace BK261 := bdZ BK261 hb; replace HB := stA hb; clear hb))
        replace BK252 := Aside0.mk (blk_drew BK252.out); replace BK261 := Aside0.mk (blk_drew BK261.out); replace HB := Aside0.mk (below_drew1 HB.out); refine start_ (n := 8) (S := fun w' => w'.cell? ⟨gb261, 0, none⟩ = some (.bool x262000_19) ∧ w'.cell? ⟨gb261, 1, none⟩ = some (.int .u64 x262001_19) ∧ w'.cell? ⟨gb261, 2, none⟩ = some (.int .u64 x262002_19)) (ds := []) #[N,N,N,N,N,N,N,N] (by kernel_rfl) rfl rfl ⟨(blk_cell BK261.out 0).trans rfl, (blk_cell BK261.out 1).trans rfl, (blk_cell BK261.out 2).trans rfl⟩ (fun hHeld => ?_); refine with_tabW frac_way_part_frac_Floor.tab8 frac_way_part_frac_Floor.bits8 (fun HT_ HW_ => ?_)
        generalize w41.drew = w42 at BK252 BK261 HB hHeld ⊢
        refine pureA_ (i := 0) (N := some 45) #[Y,N,N,N,N,N,N,N] rfl rfl (any_of HT_.out (by kernel_rfl)) ?_
        refine pureA_ (i := 1) (N := some 46) #[Y,Y,N,N,N,N,N,N] rfl rfl (any_of HT_.out (by kernel_rfl)) ?_
        refine pureA_ (i := 2) (N := some 47) #[Y,Y,Y,N,N,N,N,N] rfl rfl (any_of HT_.out (by kernel_rfl)) ?_
        refine pureA_ (i := 4) (N := some 49) #[Y,Y,Y,N,Y,N,N,N] rfl rfl (any_of HT_.out (by kernel_rfl)) ?_
        refine take_ (i := 3) (N := some 48) (v := ?_) (a' := ?_) #[Y,Y,Y,Y,Y,N,N,N] rfl rfl (take_ofW HT_.out HW_.out (by kernel_rfl)) (fun _ _ _ h => h) (Or.inl ⟨by rfl, ?_⟩) hHeld ?_ ?_; rotate_left
        ·rintro w' ⟨s0, s1, s2⟩; go_simp
         with_reducible rfl
        rotate_left
        ·simp only [Act.put, sA, sB, sC, i64_w, i32_w]
         rfl
        refine one_ (i := 5) (N := some 50) #[Y,Y,Y,Y,Y,Y,N,N] rfl rfl (one_of HT_.out (by kernel_rfl)) (by decide) (fun K hK => ?_); refine goesA_ Tryz.func48 rfl #[.int .i64 t270] (by rfl) rfl rfl ?_
        with_reducible refine (big_OfS.calls t270 t271 t272 t273 _ A32.out).mono ?_
        rintro e w43 ⟨rfl, hb⟩; refine ⟨_, rfl, ?_⟩; replace BK252 := bbZ BK252 hb; replace BK261 := bbZ BK261 hb; replace HB := Aside0.mk (below_step HB.out hb); clear hb; refine hK.out _ _ ⟨(blk_cell BK261.out 0).trans rfl, (blk_cell BK261.out 1).trans rfl, (blk_cell BK261.out 2).trans rfl⟩ (fun hHeld => ?_); clear hK K; refine normA_ (some 50) ?_
        refine pureA_ (i := 6) (N := some 51) #[Y,Y,Y,Y,Y,Y,Y,N] rfl rfl (any_of HT_.out (by kernel_rfl)) ?_
        refine pureA_ (i := 7) (N := some 52) #[Y,Y,Y,Y,Y,Y,Y,Y] rfl rfl (any_of HT_.out (by kernel_rfl)) ?_
        refine done_ (done_of HT_.out (by kernel_rfl)) ?_
        try go_wp2
        go_ret2
        exact ⟨by first | rfl | (simp [errW_none, errW_some] <;> rfl) | (simp [*, errW_none, errW_some] <;> rfl), by repeat (first | (with_reducible first | exact HB.out | apply below_alloc | apply pw_below_drewN | apply below_drew1 | refine below_set ?_ (Aside0.out (by assumption))) | exact HB.out)⟩
      ·rw [if_neg c31] at H
       have c31b0 : (x13_19 == 0) = false := beq_eq_false_iff_ne.mpr c31; have c31b1 : (x13_19 != 0) = true := bne_iff_ne.mpr c31; simp only [Option.some.injEq, Prod.mk.injEq] at H; obtain ⟨rfl, rfl⟩ := H; have hnb44 := NB261_252.out; have hnc44 := NB252_261.out; have hcz45_0 : wc.cell? ⟨gb261, 0, none⟩ = some (.bool x262000_19) := (blk_cell BK261.out 0).trans rfl; have hcz45_1 : wc.cell? ⟨gb261, 1, none⟩ = some (.int .u64 x262001_19) := (blk_cell BK261.out 1).trans rfl; have hcz45_2 : wc.cell? ⟨gb261, 2, none⟩ = some (.int .u64 x262002_19) := (blk_cell BK261.out 2).trans rfl; have hfz45_0 := blk_frozen BK261.out 0; have hfz45_1 := blk_frozen BK261.out 1; have hfz45_2 := blk_frozen BK261.out 2
       try go_wp2_with (first | ((with_reducible refine gate_callee (f := 145) rfl ?_); refine goesLA_ (some 44) rfl rfl Tryz.func145 rfl #[.agg #[.bool x262000_19, .int .u64 x262001_19, .int .u64 x262002_19]] rfl ?_; (with_reducible refine (big_IntS.calls x262000_19 x262001_19 x262002_19 t270 _ A30.out).mono ?_); rintro e w46 ⟨rfl, hb⟩; refine ⟨_, rfl, ?_⟩; replace BK252 := bdZ BK252 hb; replace BK261 := bdZ BK261 hb; replace HB := stA hb; clear hb))
       replace BK252 := Aside0.mk (blk_drew BK252.out); replace BK261 := Aside0.mk (blk_drew BK261.out); replace HB := Aside0.mk (below_drew1 HB.out); refine start_ (n := 8) (S := fun w' => True) (ds := []) #[N,N,N,N,N,N,N,N] (by kernel_rfl) rfl rfl trivial (fun hHeld => ?_); refine with_tabW frac_way_part_frac_Floor.tab8 frac_way_part_frac_Floor.bits8 (fun HT_ HW_ => ?_)
       generalize w46.drew = w47 at BK252 BK261 HB hHeld ⊢
       refine pureA_ (i := 0) (N := some 45) #[Y,N,N,N,N,N,N,N] rfl rfl (any_of HT_.out (by kernel_rfl)) ?_
       refine pureA_ (i := 1) (N := some 46) #[Y,Y,N,N,N,N,N,N] rfl rfl (any_of HT_.out (by kernel_rfl)) ?_
       refine pureA_ (i := 2) (N := some 47) #[Y,Y,Y,N,N,N,N,N] rfl rfl (any_of HT_.out (by kernel_rfl)) ?_
       refine pure_ (i := 3) (N := some 48) (v := undef) (a' := ?_) #[Y,Y,Y,Y,N,N,N,N] rfl rfl (any_of HT_.out (by kernel_rfl)) (fun _ _ _ h => h) (Or.inr ⟨by rfl, rfl⟩) ?_ ?_; rotate_left
       ·simp only [Act.put, sA, sB, sC, i64_w, i32_w]
        rfl
       refine pure_ (i := 4) (N := some 49) (v := undef) (a' := ?_) #[Y,Y,Y,Y,Y,N,N,N] rfl rfl (any_of HT_.out (by kernel_rfl)) (fun _ _ _ h => h) (Or.inr ⟨by rfl, rfl⟩) ?_ ?_; rotate_left
       ·simp only [Act.put, sA, sB, sC, i64_w, i32_w]
        rfl
       refine pure_ (i := 5) (N := some 50) (v := undef) (a' := ?_) #[Y,Y,Y,Y,Y,Y,N,N] rfl rfl (any_of HT_.out (by kernel_rfl)) (fun _ _ _ h => h) (Or.inr ⟨by rfl, rfl⟩) ?_ ?_; rotate_left
       ·simp only [Act.put, sA, sB, sC, i64_w, i32_w]
        rfl
       refine pure_ (i := 6) (N := some 51) (v := undef) (a' := ?_) #[Y,Y,Y,Y,Y,Y,Y,N] rfl rfl (any_of HT_.out (by kernel_rfl)) (fun _ _ _ h => h) (Or.inr ⟨by rfl, rfl⟩) ?_ ?_; rotate_left
       ·simp only [Act.put, sA, sB, sC, i64_w, i32_w]
        rfl
       refine pureA_ (i := 7) (N := some 52) #[Y,Y,Y,Y,Y,Y,Y,Y] rfl rfl (any_of HT_.out (by kernel_rfl)) ?_
       refine done_ (done_of HT_.out (by kernel_rfl)) ?_
       try go_wp2
       go_ret2
       exact ⟨by first | rfl | (simp [errW_none, errW_some] <;> rfl) | (simp [*, errW_none, errW_some] <;> rfl), by repeat (first | (with_reducible first | exact HB.out | apply below_alloc | apply pw_below_drewN | apply below_drew1 | refine below_set ?_ (Aside0.out (by assumption))) | exact HB.out)⟩

/-! ### frac_Floor: function 45 -/
noncomputable def frac_Floor.f (k : Nat) (a0 : Int) (a1 : Int) (a2 : Int) : Option (Int × Int) := (frac_way_part_frac_Floor.f k () a0 a1 a2).bind fun bt274 => (some (bt274.1, bt274.2))
set_option maxHeartbeats 8000000 in
set_option maxRecDepth 100000 in
theorem frac_Floor.calls (k : Nat) (a0 : Int) (a1 : Int) (a2 : Int) (r1 : Int) (r2 : Int) (w : World) (h : frac_Floor.f k a0 a1 a2 = some (r1, r2)) :
  Calls Tryz.prog 45 #[.int .i64 a0, .int .i64 a1, .int .i64 a2] w fun e w' => e = .returned (.tuple #[.int .i64 r1, .int .i64 r2]) ∧ Below w.heap.size w w' := by
 have hu151 := Tryz.underlying151; have HB := Aside0.mk (Below.refl w.heap.size w); have H : ((frac_way_part_frac_Floor.f k () a0 a1 a2).bind fun bt274 => (some (bt274.1, bt274.2))) = some (r1, r2) := h; clear h; replace H := Option.bind_eq_some_iff.mp H; obtain ⟨⟨t274, t275⟩, A40, H⟩ := H; replace H : (some (t274, t275)) = some (r1, r2) := H; have A4 := Aside0.mk A40; clear A40; simp only [Option.some.injEq, Prod.mk.injEq] at H; obtain ⟨rfl, rfl⟩ := H
 go_enter Tryz.func45, Tryz.ntmps45
 go_wp2_with (first | ((with_reducible refine gate_callee (f := 100) rfl ?_); refine goesLA_ (some 12) rfl rfl Tryz.func100 rfl #[.agg #[.func (.func 99) #[] #[]], .int .i64 a0, .int .i64 a1, .int .i64 a2] rfl ?_; (with_reducible refine (frac_way_part_frac_Floor.calls k () a0 a1 a2 t274 t275 _ A4.out).mono ?_); rintro e w5 ⟨rfl, hb⟩; refine ⟨_, rfl, ?_⟩; replace HB := stA hb; clear hb))
 go_ret2
 exact ⟨by first | rfl | (simp [errW_none, errW_some] <;> rfl) | (simp [*, errW_none, errW_some] <;> rfl), by repeat (first | (with_reducible first | exact HB.out | apply below_alloc | apply pw_below_drewN | apply below_drew1) | exact HB.out)⟩

/-! ### frac_FloorS: a part of a product, from below: pure, behind function 45 -/
noncomputable def frac_FloorS.f (a b c : Int) : Option (Int × Int) := Sp.need (Sp.I a ∧ Sp.I b ∧ Sp.I c) (Sp.floorQ a b c)
section FracFloor
open Go.Proofs.YtfahbgkoldoflaaGreatDoor.Sp
theorem frac_way_part_frac_Floor.j1_eq {q : Int} (h : B q) : frac_way_part_frac_Floor.j1 1 0 (encN q) (encH q) (encL q) = fit q := by
 simp only [frac_way_part_frac_Floor.j1]
 rw [big_IntS.enc h]
 simp only [Option.bind_some, if_true]
 rw [big_OfS.eq (near_I _)]
 simp only [Option.bind_some]
 rw [enc_bne]
 unfold fit
 by_cases hi : I q
 ·rw [near_in hi, if_pos hi]; simp
 ·rw [if_neg hi, if_pos]
  have : ¬ q = near q := fun e => hi (e ▸ near_I q)
  simp [this]
theorem frac_way_part_frac_Floor.j0_eq {q : Int} (h : -85070591730234615865843651857942052864 ≤ q ∧ q ≤ 85070591730234615865843651857942052864) (up : Bool) : frac_way_part_frac_Floor.j0 2 0 up (encN q) (encH q) (encL q) = fit (if up = true then q + 1 else q) := by
 simp only [frac_way_part_frac_Floor.j0]
 cases up with
 | false =>
  simp only [Bool.false_eq_true, if_false]; exact frac_way_part_frac_Floor.j1_eq (by omega)
 | true =>
  simp only [if_true]
  rw [big_OfS.eq (by omega)]
  simp only [Option.bind_some]
  rw [big_AddS.enc (by omega) (by omega), held_in (by omega)]
  simp only [Option.bind_some]; exact frac_way_part_frac_Floor.j1_eq (by omega)
theorem frac_Floor.main {a b c : Int} (h1 : I a) (h2 : I b) (h3 : I c) : frac_Floor.f 2 a b c = floorQ a b c := by
 unfold frac_Floor.f frac_way_part_frac_Floor.f
 by_cases hc : c < 1
 ·rw [if_pos hc]; unfold floorQ; rw [if_pos hc]; rfl
 ·have hp : 0 < c := by omega
  have hm := mulI h1 h2; have r0 := Int.emod_nonneg (a * b) (show c ≠ 0 by omega); have r1 := Int.emod_lt_of_pos (a * b) hp; have hq := quoI hm hp
  rw [if_neg hc, big_MulS.eq h1 h2, u64w_in (x := c) (by omega)]
  simp only [Option.bind_some]
  rw [big_DivS.enc (by omega) (by omega), quo_pos (by omega)]
  simp only [Option.bind_some, if_true, frac_Floor_1.f]
  rw [show ∀ x : Option (Int × Int), (x.bind fun bt => some (bt.1, bt.2)) = x from fun x => by cases x <;> rfl]
  rw [frac_way_part_frac_Floor.j0_eq hq false]
  simp only [Bool.false_eq_true, if_false]
  unfold floorQ; rw [if_neg hc]
theorem frac_FloorS.eq {a b c : Int} (h1 : I a) (h2 : I b) (h3 : I c) : frac_FloorS.f a b c = floorQ a b c := need_pos ⟨h1, h2, h3⟩
end FracFloor
theorem frac_FloorS.calls (a0 a1 a2 r1 r2 : Int) (w : World) (h : frac_FloorS.f a0 a1 a2 = some (r1, r2)) :
  Calls Tryz.prog 45 #[.int .i64 a0, .int .i64 a1, .int .i64 a2] w fun e w' => e = .returned (.tuple #[.int .i64 r1, .int .i64 r2]) ∧ Below w.heap.size w w' := by
 obtain ⟨hc, h⟩ := Sp.need_some h; obtain ⟨h1, h2, h3⟩ := hc; exact frac_Floor.calls 2 a0 a1 a2 r1 r2 w (by rw [frac_Floor.main h1 h2 h3]; exact h)

/-! ### grow_calm_by: function 191 -/
noncomputable def grow_calm_by.f (a0_0 : Int) (a1 : Int) (a2 : Int) : Option (Int) := if a0_0 ≤ a1 then (some 0) else ((frac_FloorS.f a2 (wrap64 (a0_0 - a1)) a1).bind fun bt277 => (if bt277.2 = 0 then (some (mn bt277.1 (wrap64 (a0_0 - a1)))) else (some (wrap64 (a0_0 - a1)))))
set_option maxHeartbeats 8000000 in
set_option maxRecDepth 100000 in
theorem grow_calm_by.calls (a0_0 : Int) (a1 : Int) (a2 : Int) (r : Int) (w : World) (h : grow_calm_by.f a0_0 a1 a2 = some r) :
  Calls Tryz.prog 191 #[.agg #[.int .i64 a0_0], .int .i64 a1, .int .i64 a2] w fun e w' => e = .returned (.int .i64 r) ∧ Below w.heap.size w w' := by
 have hu69 := Tryz.underlying69; have HB := Aside0.mk (Below.refl w.heap.size w); have H : (if a0_0 ≤ a1 then (some 0) else ((frac_FloorS.f a2 (wrap64 (a0_0 - a1)) a1).bind fun bt277 => (if bt277.2 = 0 then (some (mn bt277.1 (wrap64 (a0_0 - a1)))) else (some (wrap64 (a0_0 - a1)))))) = some r := h; clear h
 by_cases c4 : a0_0 ≤ a1
 ·rw [if_pos c4] at H
  have c4b0 : decide (a0_0 ≤ a1) = true := decide_eq_true c4; clear c4; obtain rfl := Option.some.inj H
  go_enter Tryz.func191, Tryz.ntmps191
  go_wp2_with (first | ((with_reducible refine gate_dst (N := 3) rfl ?_); refine box_event ?hg (N := 3) ?hd (cs := #[.int .i64 a0_0]) (t := 69) ?hr ?_; (case hd => rfl); (case hg => rfl); (case hr => first | (go_simp; done) | (go_simp; rfl)); intro gb276 hg w5 hbox hb; have BK276 := Aside0.mk (hbox); obtain ⟨GW276, nHB⟩ := geA hg hb; have GE276 := GW276; replace HB := nHB; clear nHB; clear hb hbox hg; have hcz6_0 := czZ BK276 0 (.int .i64 a0_0); have hfz6_0 := blk_frozen BK276.out 0))
  go_ret
  exact ⟨by first | rfl | (simp [errW_none, errW_some] <;> rfl) | (simp [*, errW_none, errW_some] <;> rfl), by repeat (first | (with_reducible first | exact HB.out | apply below_alloc | apply pw_below_drewN | apply below_drew1 | refine below_set ?_ GE276.out) | exact HB.out)⟩
 ·rw [if_neg c4] at H
  have c4b0 : decide (a0_0 ≤ a1) = false := decide_eq_false c4; clear c4; replace H := Option.bind_eq_some_iff.mp H; obtain ⟨⟨t277, t278⟩, A70, H⟩ := H; replace H : (if t278 = 0 then (some (mn t277 (wrap64 (a0_0 - a1)))) else (some (wrap64 (a0_0 - a1)))) = some r := H; have A7 := Aside0.mk A70; clear A70
  by_cases c8 : t278 = 0
  ·rw [if_pos c8] at H
   have c8b0 : (t278 == 0) = true := beq_iff_eq.mpr c8; have c8b1 : (t278 != 0) = false := bne_eq_false_iff_eq.mpr c8; clear c8
   obtain ⟨ji9, hji9⟩ : ∃ j_ : Int, (mn t277 (wrap64 (a0_0 - a1))) = j_ := ⟨_, rfl⟩
   replace H : (some ji9) = some r := by first | (rw [hji9] at H; exact H) | (simp only [hji9] at H ⊢; exact H)
   (try rw [hji9] at A7)
   have hji9_ : (if (wrap64 (a0_0 - a1)) < t277 then (wrap64 (a0_0 - a1)) else t277) = ji9 := hji9; obtain rfl := Option.some.inj H
   go_enter Tryz.func191, Tryz.ntmps191
   go_wp2_with (first | ((with_reducible refine gate_dst (N := 3) rfl ?_); refine box_event ?hg (N := 3) ?hd (cs := #[.int .i64 a0_0]) (t := 69) ?hr ?_; (case hd => rfl); (case hg => rfl); (case hr => first | (go_simp; done) | (go_simp; rfl)); intro gb276 hg w10 hbox hb; have BK276 := Aside0.mk (hbox); obtain ⟨GW276, nHB⟩ := geA hg hb; have GE276 := GW276; replace HB := nHB; clear nHB; clear hb hbox hg; have hcz11_0 := czZ BK276 0 (.int .i64 a0_0); have hfz11_0 := blk_frozen BK276.out 0) | ((with_reducible refine gate_callee (f := 45) rfl ?_); refine goesLA_ (some 20) rfl rfl Tryz.func45 rfl #[.int .i64 a2, .int .i64 (wrap64 (a0_0 - a1)), .int .i64 a1] rfl ?_; (with_reducible refine (frac_FloorS.calls a2 (wrap64 (a0_0 - a1)) a1 t277 t278 _ A7.out).mono ?_); rintro e w12 ⟨rfl, hb⟩; refine ⟨_, rfl, ?_⟩; replace BK276 := bdZ BK276 hb; replace HB := stA hb; clear hb; have hcz13_0 := czZ BK276 0 (.int .i64 a0_0); have hfz13_0 := blk_frozen BK276.out 0))
   go_ret
   exact ⟨by first | rfl | (simp [errW_none, errW_some] <;> rfl) | (simp only [← hji9]; first | rfl | (simp [errW_none, errW_some] <;> rfl)) | (simp [*, errW_none, errW_some] <;> rfl), by repeat (first | (with_reducible first | exact HB.out | apply below_alloc | apply pw_below_drewN | apply below_drew1 | refine below_set ?_ GE276.out) | exact HB.out)⟩
  ·rw [if_neg c8] at H
   have c8b0 : (t278 == 0) = false := beq_eq_false_iff_ne.mpr c8; have c8b1 : (t278 != 0) = true := bne_iff_ne.mpr c8; obtain rfl := Option.some.inj H
   go_enter Tryz.func191, Tryz.ntmps191
   go_wp2_with (first | ((with_reducible refine gate_dst (N := 3) rfl ?_); refine box_event ?hg (N := 3) ?hd (cs := #[.int .i64 a0_0]) (t := 69) ?hr ?_; (case hd => rfl); (case hg => rfl); (case hr => first | (go_simp; done) | (go_simp; rfl)); intro gb276 hg w14 hbox hb; have BK276 := Aside0.mk (hbox); obtain ⟨GW276, nHB⟩ := geA hg hb; have GE276 := GW276; replace HB := nHB; clear nHB; clear hb hbox hg; have hcz15_0 := czZ BK276 0 (.int .i64 a0_0); have hfz15_0 := blk_frozen BK276.out 0) | ((with_reducible refine gate_callee (f := 45) rfl ?_); refine goesLA_ (some 20) rfl rfl Tryz.func45 rfl #[.int .i64 a2, .int .i64 (wrap64 (a0_0 - a1)), .int .i64 a1] rfl ?_; (with_reducible refine (frac_FloorS.calls a2 (wrap64 (a0_0 - a1)) a1 t277 t278 _ A7.out).mono ?_); rintro e w16 ⟨rfl, hb⟩; refine ⟨_, rfl, ?_⟩; replace BK276 := bdZ BK276 hb; replace HB := stA hb; clear hb; have hcz17_0 := czZ BK276 0 (.int .i64 a0_0); have hfz17_0 := blk_frozen BK276.out 0))
   go_ret
   exact ⟨by first | rfl | (simp [errW_none, errW_some] <;> rfl) | (simp [*, errW_none, errW_some] <;> rfl), by repeat (first | (with_reducible first | exact HB.out | apply below_alloc | apply pw_below_drewN | apply below_drew1 | refine below_set ?_ GE276.out) | exact HB.out)⟩

/-! ### grow_Both: function 8 -/
section
open Go.Proofs.YtfahbgkoldoflaaGreatDoor.Sp
theorem grow_old_part {a t u : Int} (h1 : I t) (h2 : I u) : grow_calm_by.f t (win a) (clamp u 0 68719476736) = some (byQ a t u) := by
 have w := win_bd a; have b := clamp_bd (a := u) (low := 0) (high := 68719476736) (by omega)
 unfold grow_calm_by.f byQ
 by_cases c : t ≤ win a
 ·rw [if_pos c, if_pos c]
 ·rw [if_neg c, if_neg c, w64 (x := t - win a) (by omega), frac_FloorS.eq (by omega) (by omega) (by omega)]
  unfold floorQ
  rw [if_neg (by omega)]
  have q0 : 0 ≤ clamp u 0 68719476736 * (t - win a) / win a := Int.ediv_nonneg (Int.mul_nonneg b.1 (by omega)) (by omega)
  generalize clamp u 0 68719476736 * (t - win a) / win a = q at *
  by_cases i : I q
  ·rw [fit_in i]
   simp only [Option.bind_some, if_true]
   first | rfl | (congr 1; unfold mn Sp.min2; (repeat' split) <;> omega)
  ·rw [fit_out i]
   simp only [Option.bind_some]
   rw [if_neg (by omega)]
   congr 1
   unfold Sp.min2; rw [if_pos (by omega)]
end
theorem grow_by_old (v e : Value) (w : World) : (method 329 73 (.agg #[.iface 69 v, e]) "sawtooth/grow.by").run Tryz.prog w = .ok (191, v) w := by kernel_rfl
theorem grow_is_old_old (v : Value) (w : World) : (Instr.typeAssert (.iface 73 v) 71 73 true).run Tryz.prog w = .ok (.tuple #[v, .bool true]) w := by kernel_rfl
set_option maxHeartbeats 1000000 in
set_option maxRecDepth 100000 in
theorem grow_after_old.calls (a0 a1 t s W T p n m r : Int) (hn : (if n < s then s else n) = m) (HW : Aside0 (grow_givenS.f a0 = some W)) (HT : Aside0 (safe_ClampS.f a1 0 68719476736 = some T)) (HP : Aside0 (grow_calm_by.f t W T = some p)) (HA : Aside0 (safe_Add.f W p = some n)) (HG : Aside0 (grow_givenS.f m = some r)) (w : World) :
  Calls Tryz.prog 20 #[.int .i64 a0, .int .i64 a1, .iface 73 (.agg #[.iface 69 (.agg #[.int .i64 t]), .int .i64 s])] w fun e w' => e = .returned (.int .i64 r) ∧ Below w.heap.size w w' := by
 have hm := grow_by_old; have t1 := grow_is_old_old; have hu73 := Tryz.underlying190; have hu76 := Tryz.underlying69; have hu80 := Tryz.underlying73
 go_enter Tryz.func20, Tryz.ntmps20
 go_wp2_with (first
  | (go_at_call 52; refine (grow_givenS.calls a0 W _ HW.out).mono ?_; rintro e w1 ⟨rfl, hb⟩; clear HW; have HB := Aside0.mk hb; clear hb)
  | (go_at_call 22; refine (safe_ClampS.calls a1 0 68719476736 T _ HT.out).mono ?_; rintro e w2 ⟨rfl, hb2⟩; replace HB := Aside0.mk (Go.Proofs.YtfahbgkoldoflaaGreatDoorW.PrintWords.below_then HB.out HB.out.size hb2); clear hb2)
  | (go_at_call 191; refine (grow_calm_by.calls t W T p _ HP.out).mono ?_; rintro e w3 ⟨rfl, hb3⟩; replace HB := Aside0.mk (Go.Proofs.YtfahbgkoldoflaaGreatDoorW.PrintWords.below_then HB.out HB.out.size hb3); clear hb3)
  | (go_at_call 24; refine (safe_Add.calls W p n _ HA.out).mono ?_; rintro e w4 ⟨rfl, hb4⟩; replace HB := Aside0.mk (Go.Proofs.YtfahbgkoldoflaaGreatDoorW.PrintWords.below_then HB.out HB.out.size hb4); clear hb4)
  | (go_at_call 52; refine (grow_givenS.calls m r _ HG.out).mono ?_; rintro e w5 ⟨rfl, hb5⟩; have HZ := Aside0.mk hb5; clear hb5)
  | fail)
 go_ret
 exact ⟨rfl, by first | exact below_step HB.out HZ.out | exact Go.Proofs.YtfahbgkoldoflaaGreatDoorW.PrintWords.below_then (by repeat (with_reducible first | exact HB.out | apply below_alloc | apply pw_below_drewN)) (by have := HB.out.size; simp at *; omega) HZ.out⟩
noncomputable def grow_Both.f (a0 a1 a2 a3 : Int) : Option Int := Sp.need (Sp.I a0 ∧ Sp.I a1 ∧ Sp.I a2 ∧ Sp.I a3) (some (Sp.bothQ a0 a1 a2 a3))
theorem grow_Both.eq {a0 a1 a2 a3 : Int} (h1 : Sp.I a0) (h2 : Sp.I a1) (h3 : Sp.I a2) (h4 : Sp.I a3) : grow_Both.f a0 a1 a2 a3 = some (Sp.bothQ a0 a1 a2 a3) := Sp.need_pos ⟨h1, h2, h3, h4⟩
set_option maxHeartbeats 1000000 in
set_option maxRecDepth 100000 in
theorem grow_Both.walk (a0 a1 a2 a3 r : Int) (HC : Aside0 (∀ w : World, Calls Tryz.prog 20 #[.int .i64 a0, .int .i64 a3, .iface 73 (.agg #[.iface 69 (.agg #[.int .i64 a1]), .int .i64 a2])] w fun e w' => e = .returned (.int .i64 r) ∧ Below w.heap.size w w')) (w : World) :
  Calls Tryz.prog 8 #[.int .i64 a0, .int .i64 a1, .int .i64 a2, .int .i64 a3] w fun e w' => e = .returned (.int .i64 r) ∧ Below w.heap.size w w' := by
 have hu76 := Tryz.underlying69; have hu80 := Tryz.underlying73; have HB := Aside0.mk (Below.refl w.heap.size w)
 go_enter Tryz.func8, Tryz.ntmps8
 go_wp2_with (first
  | (go_at_call 20; refine (HC.out _).mono ?_; rintro e w1 ⟨rfl, hb⟩; have HZ := Aside0.mk hb; clear hb)
  | fail)
 go_ret
 exact ⟨rfl, by first | exact HZ.out | exact Go.Proofs.YtfahbgkoldoflaaGreatDoorW.PrintWords.below_then (by repeat (with_reducible first | exact HB.out | apply below_alloc | apply pw_below_drewN)) (by simp) HZ.out⟩
theorem grow_Both.calls (a0 a1 a2 a3 r : Int) (w : World) (h : grow_Both.f a0 a1 a2 a3 = some r) :
  Calls Tryz.prog 8 #[.int .i64 a0, .int .i64 a1, .int .i64 a2, .int .i64 a3] w fun e w' => e = .returned (.int .i64 r) ∧ Below w.heap.size w w' := by
 obtain ⟨⟨h1, h2, h3, h4⟩, h⟩ := Sp.need_some h; obtain rfl := Option.some.inj h; have a := Sp.win_bd a0; have b := Sp.byQ_bd a0 a3 h2.2; refine grow_Both.walk a0 a1 a2 a3 _ ⟨fun w => ?_⟩ w
 have HA : Aside0 (safe_Add.f (Sp.win a0) (Sp.byQ a0 a1 a3) = some (Sp.win a0 + Sp.byQ a0 a1 a3)) := ⟨by rw [safe_Add.eq (by omega) (by omega), Sp.near_in (by omega)]⟩
 exact grow_after_old.calls (hn := rfl) (HW := ⟨grow_givenS.eq (a := a0) h1⟩) (HT := ⟨safe_ClampS.eq (a := a3) (b := 0) (c := 68719476736) h4 (by omega) (by omega)⟩) (HP := ⟨grow_old_part (a := a0) h2 h4⟩) (HA := HA) (HG := ⟨by rw [grow_givenS.eq (by split <;> omega)]; rfl⟩) (w := w)

/-! ### epoch_Check: function 53 -/
noncomputable def epoch_Check.f (a0_0 : Bool) (a0_1 : Int) (a0_2 : Int) (a0_3 : Int) (a0_4 : Int) (a0_5 : Int) : Option (Bool) := if a0_0 = true then ((epoch_BeginS.f a0_1 a0_2 a0_3).bind fun bt280 => (if bt280.2.2.2.2.2.2 = 0 then ((epoch_windowS.f a0_5).bind fun t288 => (if t288 = true then (some (a0_0 == bt280.1 && (a0_1 == bt280.2.1 && (a0_2 == bt280.2.2.1 && (a0_3 == bt280.2.2.2.1 && (a0_4 == bt280.2.2.2.2.1)))))) else (some false))) else (some false))) else (some (!a0_0 && (a0_1 == 0 && (a0_2 == 0 && (a0_3 == 0 && (a0_4 == 0 && (a0_5 == 0)))))))
set_option maxHeartbeats 8000000 in
set_option maxRecDepth 100000 in
theorem epoch_Check.calls (a0_0 : Bool) (a0_1 : Int) (a0_2 : Int) (a0_3 : Int) (a0_4 : Int) (a0_5 : Int) (r : Bool) (w : World) (h : epoch_Check.f a0_0 a0_1 a0_2 a0_3 a0_4 a0_5 = some r) (hL : Tens w) :
  Calls Tryz.prog 53 #[.agg #[.bool a0_0, .int .i64 a0_1, .int .i64 a0_2, .int .i64 a0_3, .int .i64 a0_4, .int .i64 a0_5]] w fun e w' => e = .returned (.bool r) ∧ Below w.heap.size w w' := by
 have hu25 := Tryz.underlying25; have HB := Aside0.mk (Below.refl w.heap.size w); have H : (if a0_0 = true then ((epoch_BeginS.f a0_1 a0_2 a0_3).bind fun bt280 => (if bt280.2.2.2.2.2.2 = 0 then ((epoch_windowS.f a0_5).bind fun t288 => (if t288 = true then (some (a0_0 == bt280.1 && (a0_1 == bt280.2.1 && (a0_2 == bt280.2.2.1 && (a0_3 == bt280.2.2.2.1 && (a0_4 == bt280.2.2.2.2.1)))))) else (some false))) else (some false))) else (some (!a0_0 && (a0_1 == 0 && (a0_2 == 0 && (a0_3 == 0 && (a0_4 == 0 && (a0_5 == 0)))))))) = some r := h; clear h
 by_cases c2 : a0_0 = true
 ·subst c2
  have H1 : ((epoch_BeginS.f a0_1 a0_2 a0_3).bind fun bt280 => (if bt280.2.2.2.2.2.2 = 0 then ((epoch_windowS.f a0_5).bind fun t288 => (if t288 = true then (some (true == bt280.1 && (a0_1 == bt280.2.1 && (a0_2 == bt280.2.2.1 && (a0_3 == bt280.2.2.2.1 && (a0_4 == bt280.2.2.2.2.1)))))) else (some false))) else (some false))) = some r := by rw [if_pos rfl] at H; exact H
  clear H; have H := H1; clear H1; replace H := Option.bind_eq_some_iff.mp H; obtain ⟨⟨t280, t281, t282, t283, t284, t285, t286⟩, A30, H⟩ := H; (try dsimp only at H); have A3 := Aside0.mk A30; clear A30
  by_cases c4 : t286 = 0
  ·rw [if_pos c4] at H
   have c4b0 : (t286 == 0) = true := beq_iff_eq.mpr c4; have c4b1 : (t286 != 0) = false := bne_eq_false_iff_eq.mpr c4; clear c4; replace H := Option.bind_eq_some_iff.mp H; obtain ⟨t288, A50, H⟩ := H; replace H : (if t288 = true then (some (true == t280 && (a0_1 == t281 && (a0_2 == t282 && (a0_3 == t283 && (a0_4 == t284)))))) else (some false)) = some r := H; have A5 := Aside0.mk A50; clear A50
   by_cases c6 : t288 = true
   ·subst c6
    have H1 : (some (true == t280 && (a0_1 == t281 && (a0_2 == t282 && (a0_3 == t283 && (a0_4 == t284)))))) = some r := by rw [if_pos rfl] at H; exact H
    clear H; have H := H1; clear H1; obtain rfl := Option.some.inj H
    go_enter Tryz.func53, Tryz.ntmps53
    go_wp2_with (first | ((with_reducible refine gate_dst (N := 1) rfl ?_); refine box_event ?hg (N := 1) ?hd (cs := #[.bool true, .int .i64 a0_1, .int .i64 a0_2, .int .i64 a0_3, .int .i64 a0_4, .int .i64 a0_5]) (t := 25) ?hr ?_; (case hd => rfl); (case hg => rfl); (case hr => first | (go_simp; done) | (go_simp; rfl)); intro gb279 hg w7 hbox hb; have BK279 := Aside0.mk (hbox); obtain ⟨GW279, nHB⟩ := geA hg hb; have GE279 := GW279; replace HB := nHB; clear nHB; clear hb hbox hg; have hcz8_0 := czZ BK279 0 (.bool true); have hcz8_1 := czZ BK279 1 (.int .i64 a0_1); have hcz8_2 := czZ BK279 2 (.int .i64 a0_2); have hcz8_3 := czZ BK279 3 (.int .i64 a0_3); have hcz8_4 := czZ BK279 4 (.int .i64 a0_4); have hcz8_5 := czZ BK279 5 (.int .i64 a0_5); have hfz8_0 := blk_frozen BK279.out 0; have hfz8_1 := blk_frozen BK279.out 1; have hfz8_2 := blk_frozen BK279.out 2; have hfz8_3 := blk_frozen BK279.out 3; have hfz8_4 := blk_frozen BK279.out 4; have hfz8_5 := blk_frozen BK279.out 5) | ((with_reducible refine gate_callee (f := 7) rfl ?_); refine goesLA_ (some 18) rfl rfl Tryz.func7 rfl #[.int .i64 a0_1, .int .i64 a0_2, .int .i64 a0_3] rfl ?_; (with_reducible refine (epoch_BeginS.calls a0_1 a0_2 a0_3 t280 t281 t282 t283 t284 t285 t286 _ A3.out ?hT_).mono ?_); (case hT_ => exact tensB hL (by repeat (first | (with_reducible first | exact HB.out | apply below_alloc | apply pw_below_drewN | apply below_drew1 | refine below_set ?_ (Aside0.out (by assumption))) | exact HB.out))); rintro e w9 ⟨rfl, hb⟩; refine ⟨_, rfl, ?_⟩; replace BK279 := bdZ BK279 hb; replace HB := stA hb; clear hb) | ((with_reducible refine gate_dst (N := 3) rfl ?_); refine box_event ?hg (N := 3) ?hd (cs := #[.bool false, .int .i64 0, .int .i64 0, .int .i64 0, .int .i64 0, .int .i64 0]) (t := 25) ?hr ?_; (case hd => rfl); (case hg => rfl); (case hr => first | (go_simp; done) | (go_simp; rfl)); intro gb287 hg w10 hbox hb; have BK287 := Aside0.mk (hbox); obtain ⟨GW287, nHB⟩ := geA hg hb; have GE287 := GW287; obtain ⟨NB279_287, NB287_279, nBK⟩ := nbA BK279 hg hb; replace BK279 := nBK; clear nBK; replace HB := nHB; clear nHB; clear hb hbox hg; have hnb11 := NB287_279.out; have hnc11 := NB279_287.out; have hcz12_0 := czZ BK287 0 (.bool false); have hcz12_1 := czZ BK287 1 (.int .i64 0); have hcz12_2 := czZ BK287 2 (.int .i64 0); have hcz12_3 := czZ BK287 3 (.int .i64 0); have hcz12_4 := czZ BK287 4 (.int .i64 0); have hcz12_5 := czZ BK287 5 (.int .i64 0); have hfz12_0 := blk_frozen BK287.out 0; have hfz12_1 := blk_frozen BK287.out 1; have hfz12_2 := blk_frozen BK287.out 2; have hfz12_3 := blk_frozen BK287.out 3; have hfz12_4 := blk_frozen BK287.out 4; have hfz12_5 := blk_frozen BK287.out 5; have hcz13_0 := czZ BK279 0 (.bool true); have hcz13_1 := czZ BK279 1 (.int .i64 a0_1); have hcz13_2 := czZ BK279 2 (.int .i64 a0_2); have hcz13_3 := czZ BK279 3 (.int .i64 a0_3); have hcz13_4 := czZ BK279 4 (.int .i64 a0_4); have hcz13_5 := czZ BK279 5 (.int .i64 a0_5); have hfz13_0 := blk_frozen BK279.out 0; have hfz13_1 := blk_frozen BK279.out 1; have hfz13_2 := blk_frozen BK279.out 2; have hfz13_3 := blk_frozen BK279.out 3; have hfz13_4 := blk_frozen BK279.out 4; have hfz13_5 := blk_frozen BK279.out 5) | (go_at_call 18; (with_reducible refine (epoch_windowS.calls a0_5 true _ A5.out).mono ?_); rintro e w14 ⟨rfl, hb⟩; replace BK279 := bfZ BK279 (fun h_ => by (with_reducible repeat first | apply blk_drewN | apply blk_drew | apply blk_alloc | refine farZ ?_ NB279_287 _); exact h_) hb; replace BK287 := Aside0.mk (blk_below (g := gb287) (o := .cells #[.bool t280, .int .i64 t281, .int .i64 t282, .int .i64 t283, .int .i64 t284, .int .i64 a0_5] 25 (0, 0)) (by (with_reducible repeat first | apply blk_drewN | apply blk_drew | apply blk_alloc); refine blk_put (cs := #[.bool t280, .int .i64 t281, .int .i64 t282, .int .i64 t283, .int .i64 t284, .int .i64 t285]) ?_ 5 _ rfl; (with_reducible repeat first | apply blk_drewN | apply blk_drew | apply blk_alloc); refine blk_put (cs := #[.bool t280, .int .i64 t281, .int .i64 t282, .int .i64 t283, .int .i64 t284, .int .i64 0]) ?_ 5 _ rfl; (with_reducible repeat first | apply blk_drewN | apply blk_drew | apply blk_alloc); refine blk_put (cs := #[.bool t280, .int .i64 t281, .int .i64 t282, .int .i64 t283, .int .i64 0, .int .i64 0]) ?_ 4 _ rfl; (with_reducible repeat first | apply blk_drewN | apply blk_drew | apply blk_alloc); refine blk_put (cs := #[.bool t280, .int .i64 t281, .int .i64 t282, .int .i64 0, .int .i64 0, .int .i64 0]) ?_ 3 _ rfl; (with_reducible repeat first | apply blk_drewN | apply blk_drew | apply blk_alloc); refine blk_put (cs := #[.bool t280, .int .i64 t281, .int .i64 0, .int .i64 0, .int .i64 0, .int .i64 0]) ?_ 2 _ rfl; (with_reducible repeat first | apply blk_drewN | apply blk_drew | apply blk_alloc); refine blk_put (cs := #[.bool t280, .int .i64 0, .int .i64 0, .int .i64 0, .int .i64 0, .int .i64 0]) ?_ 1 _ rfl; (with_reducible repeat first | apply blk_drewN | apply blk_drew | apply blk_alloc); refine blk_put (cs := #[.bool false, .int .i64 0, .int .i64 0, .int .i64 0, .int .i64 0, .int .i64 0]) ?_ 0 _ rfl; (with_reducible repeat first | apply blk_drewN | apply blk_drew | apply blk_alloc); exact BK287.out) hb); replace HB := stA hb; clear hb; have hcz15_0 := czZ BK279 0 (.bool true); have hcz15_1 := czZ BK279 1 (.int .i64 a0_1); have hcz15_2 := czZ BK279 2 (.int .i64 a0_2); have hcz15_3 := czZ BK279 3 (.int .i64 a0_3); have hcz15_4 := czZ BK279 4 (.int .i64 a0_4); have hcz15_5 := czZ BK279 5 (.int .i64 a0_5); have hfz15_0 := blk_frozen BK279.out 0; have hfz15_1 := blk_frozen BK279.out 1; have hfz15_2 := blk_frozen BK279.out 2; have hfz15_3 := blk_frozen BK279.out 3; have hfz15_4 := blk_frozen BK279.out 4; have hfz15_5 := blk_frozen BK279.out 5; have hcz16_0 := czZ BK287 0 (.bool t280); have hcz16_1 := czZ BK287 1 (.int .i64 t281); have hcz16_2 := czZ BK287 2 (.int .i64 t282); have hcz16_3 := czZ BK287 3 (.int .i64 t283); have hcz16_4 := czZ BK287 4 (.int .i64 t284); have hcz16_5 := czZ BK287 5 (.int .i64 a0_5); have hfz16_0 := blk_frozen BK287.out 0; have hfz16_1 := blk_frozen BK287.out 1; have hfz16_2 := blk_frozen BK287.out 2; have hfz16_3 := blk_frozen BK287.out 3; have hfz16_4 := blk_frozen BK287.out 4; have hfz16_5 := blk_frozen BK287.out 5))
    go_ret
    exact ⟨by first | rfl | (simp [errW_none, errW_some] <;> rfl) | (simp [*, errW_none, errW_some] <;> rfl), by repeat (first | (with_reducible first | exact HB.out | apply below_alloc | apply pw_below_drewN | apply below_drew1 | refine below_set ?_ (Aside0.out (by assumption))) | exact HB.out)⟩
   ·replace c6 := Bool.eq_false_iff.mpr c6
    subst c6
    have H1 : (some false) = some r := by rw [if_neg (show ¬ (false = true) by decide)] at H; exact H
    clear H; have H := H1; clear H1; obtain rfl := Option.some.inj H
    go_enter Tryz.func53, Tryz.ntmps53
    go_wp2_with (first | ((with_reducible refine gate_dst (N := 1) rfl ?_); refine box_event ?hg (N := 1) ?hd (cs := #[.bool true, .int .i64 a0_1, .int .i64 a0_2, .int .i64 a0_3, .int .i64 a0_4, .int .i64 a0_5]) (t := 25) ?hr ?_; (case hd => rfl); (case hg => rfl); (case hr => first | (go_simp; done) | (go_simp; rfl)); intro gb279 hg w17 hbox hb; have BK279 := Aside0.mk (hbox); obtain ⟨GW279, nHB⟩ := geA hg hb; have GE279 := GW279; replace HB := nHB; clear nHB; clear hb hbox hg; have hcz18_0 := czZ BK279 0 (.bool true); have hcz18_1 := czZ BK279 1 (.int .i64 a0_1); have hcz18_2 := czZ BK279 2 (.int .i64 a0_2); have hcz18_3 := czZ BK279 3 (.int .i64 a0_3); have hcz18_4 := czZ BK279 4 (.int .i64 a0_4); have hcz18_5 := czZ BK279 5 (.int .i64 a0_5); have hfz18_0 := blk_frozen BK279.out 0; have hfz18_1 := blk_frozen BK279.out 1; have hfz18_2 := blk_frozen BK279.out 2; have hfz18_3 := blk_frozen BK279.out 3; have hfz18_4 := blk_frozen BK279.out 4; have hfz18_5 := blk_frozen BK279.out 5) | ((with_reducible refine gate_callee (f := 7) rfl ?_); refine goesLA_ (some 18) rfl rfl Tryz.func7 rfl #[.int .i64 a0_1, .int .i64 a0_2, .int .i64 a0_3] rfl ?_; (with_reducible refine (epoch_BeginS.calls a0_1 a0_2 a0_3 t280 t281 t282 t283 t284 t285 t286 _ A3.out ?hT_).mono ?_); (case hT_ => exact tensB hL (by repeat (first | (with_reducible first | exact HB.out | apply below_alloc | apply pw_below_drewN | apply below_drew1 | refine below_set ?_ (Aside0.out (by assumption))) | exact HB.out))); rintro e w19 ⟨rfl, hb⟩; refine ⟨_, rfl, ?_⟩; replace BK279 := bdZ BK279 hb; replace HB := stA hb; clear hb) | ((with_reducible refine gate_dst (N := 3) rfl ?_); refine box_event ?hg (N := 3) ?hd (cs := #[.bool false, .int .i64 0, .int .i64 0, .int .i64 0, .int .i64 0, .int .i64 0]) (t := 25) ?hr ?_; (case hd => rfl); (case hg => rfl); (case hr => first | (go_simp; done) | (go_simp; rfl)); intro gb287 hg w20 hbox hb; have BK287 := Aside0.mk (hbox); obtain ⟨GW287, nHB⟩ := geA hg hb; have GE287 := GW287; obtain ⟨NB279_287, NB287_279, nBK⟩ := nbA BK279 hg hb; replace BK279 := nBK; clear nBK; replace HB := nHB; clear nHB; clear hb hbox hg; have hnb21 := NB287_279.out; have hnc21 := NB279_287.out; have hcz22_0 := czZ BK287 0 (.bool false); have hcz22_1 := czZ BK287 1 (.int .i64 0); have hcz22_2 := czZ BK287 2 (.int .i64 0); have hcz22_3 := czZ BK287 3 (.int .i64 0); have hcz22_4 := czZ BK287 4 (.int .i64 0); have hcz22_5 := czZ BK287 5 (.int .i64 0); have hfz22_0 := blk_frozen BK287.out 0; have hfz22_1 := blk_frozen BK287.out 1; have hfz22_2 := blk_frozen BK287.out 2; have hfz22_3 := blk_frozen BK287.out 3; have hfz22_4 := blk_frozen BK287.out 4; have hfz22_5 := blk_frozen BK287.out 5; have hcz23_0 := czZ BK279 0 (.bool true); have hcz23_1 := czZ BK279 1 (.int .i64 a0_1); have hcz23_2 := czZ BK279 2 (.int .i64 a0_2); have hcz23_3 := czZ BK279 3 (.int .i64 a0_3); have hcz23_4 := czZ BK279 4 (.int .i64 a0_4); have hcz23_5 := czZ BK279 5 (.int .i64 a0_5); have hfz23_0 := blk_frozen BK279.out 0; have hfz23_1 := blk_frozen BK279.out 1; have hfz23_2 := blk_frozen BK279.out 2; have hfz23_3 := blk_frozen BK279.out 3; have hfz23_4 := blk_frozen BK279.out 4; have hfz23_5 := blk_frozen BK279.out 5) | (go_at_call 18; (with_reducible refine (epoch_windowS.calls a0_5 false _ A5.out).mono ?_); rintro e w24 ⟨rfl, hb⟩; replace BK279 := bfZ BK279 (fun h_ => by (with_reducible repeat first | apply blk_drewN | apply blk_drew | apply blk_alloc | refine farZ ?_ NB279_287 _); exact h_) hb; replace BK287 := Aside0.mk (blk_below (g := gb287) (o := .cells #[.bool t280, .int .i64 t281, .int .i64 t282, .int .i64 t283, .int .i64 t284, .int .i64 a0_5] 25 (0, 0)) (by (with_reducible repeat first | apply blk_drewN | apply blk_drew | apply blk_alloc); refine blk_put (cs := #[.bool t280, .int .i64 t281, .int .i64 t282, .int .i64 t283, .int .i64 t284, .int .i64 t285]) ?_ 5 _ rfl; (with_reducible repeat first | apply blk_drewN | apply blk_drew | apply blk_alloc); refine blk_put (cs := #[.bool t280, .int .i64 t281, .int .i64 t282, .int .i64 t283, .int .i64 t284, .int .i64 0]) ?_ 5 _ rfl; (with_reducible repeat first | apply blk_drewN | apply blk_drew | apply blk_alloc); refine blk_put (cs := #[.bool t280, .int .i64 t281, .int .i64 t282, .int .i64 t283, .int .i64 0, .int .i64 0]) ?_ 4 _ rfl; (with_reducible repeat first | apply blk_drewN | apply blk_drew | apply blk_alloc); refine blk_put (cs := #[.bool t280, .int .i64 t281, .int .i64 t282, .int .i64 0, .int .i64 0, .int .i64 0]) ?_ 3 _ rfl; (with_reducible repeat first | apply blk_drewN | apply blk_drew | apply blk_alloc); refine blk_put (cs := #[.bool t280, .int .i64 t281, .int .i64 0, .int .i64 0, .int .i64 0, .int .i64 0]) ?_ 2 _ rfl; (with_reducible repeat first | apply blk_drewN | apply blk_drew | apply blk_alloc); refine blk_put (cs := #[.bool t280, .int .i64 0, .int .i64 0, .int .i64 0, .int .i64 0, .int .i64 0]) ?_ 1 _ rfl; (with_reducible repeat first | apply blk_drewN | apply blk_drew | apply blk_alloc); refine blk_put (cs := #[.bool false, .int .i64 0, .int .i64 0, .int .i64 0, .int .i64 0, .int .i64 0]) ?_ 0 _ rfl; (with_reducible repeat first | apply blk_drewN | apply blk_drew | apply blk_alloc); exact BK287.out) hb); replace HB := stA hb; clear hb))
    go_ret
    exact ⟨by first | rfl | (simp [errW_none, errW_some] <;> rfl) | (simp [*, errW_none, errW_some] <;> rfl), by repeat (first | (with_reducible first | exact HB.out | apply below_alloc | apply pw_below_drewN | apply below_drew1 | refine below_set ?_ (Aside0.out (by assumption))) | exact HB.out)⟩
  ·rw [if_neg c4] at H
   have c4b0 : (t286 == 0) = false := beq_eq_false_iff_ne.mpr c4; have c4b1 : (t286 != 0) = true := bne_iff_ne.mpr c4; obtain rfl := Option.some.inj H
   go_enter Tryz.func53, Tryz.ntmps53
   go_wp2_with (first | ((with_reducible refine gate_dst (N := 1) rfl ?_); refine box_event ?hg (N := 1) ?hd (cs := #[.bool true, .int .i64 a0_1, .int .i64 a0_2, .int .i64 a0_3, .int .i64 a0_4, .int .i64 a0_5]) (t := 25) ?hr ?_; (case hd => rfl); (case hg => rfl); (case hr => first | (go_simp; done) | (go_simp; rfl)); intro gb279 hg w25 hbox hb; have BK279 := Aside0.mk (hbox); obtain ⟨GW279, nHB⟩ := geA hg hb; have GE279 := GW279; replace HB := nHB; clear nHB; clear hb hbox hg; have hcz26_0 := czZ BK279 0 (.bool true); have hcz26_1 := czZ BK279 1 (.int .i64 a0_1); have hcz26_2 := czZ BK279 2 (.int .i64 a0_2); have hcz26_3 := czZ BK279 3 (.int .i64 a0_3); have hcz26_4 := czZ BK279 4 (.int .i64 a0_4); have hcz26_5 := czZ BK279 5 (.int .i64 a0_5); have hfz26_0 := blk_frozen BK279.out 0; have hfz26_1 := blk_frozen BK279.out 1; have hfz26_2 := blk_frozen BK279.out 2; have hfz26_3 := blk_frozen BK279.out 3; have hfz26_4 := blk_frozen BK279.out 4; have hfz26_5 := blk_frozen BK279.out 5) | ((with_reducible refine gate_callee (f := 7) rfl ?_); refine goesLA_ (some 18) rfl rfl Tryz.func7 rfl #[.int .i64 a0_1, .int .i64 a0_2, .int .i64 a0_3] rfl ?_; (with_reducible refine (epoch_BeginS.calls a0_1 a0_2 a0_3 t280 t281 t282 t283 t284 t285 t286 _ A3.out ?hT_).mono ?_); (case hT_ => exact tensB hL (by repeat (first | (with_reducible first | exact HB.out | apply below_alloc | apply pw_below_drewN | apply below_drew1 | refine below_set ?_ (Aside0.out (by assumption))) | exact HB.out))); rintro e w27 ⟨rfl, hb⟩; refine ⟨_, rfl, ?_⟩; replace BK279 := bdZ BK279 hb; replace HB := stA hb; clear hb) | ((with_reducible refine gate_dst (N := 3) rfl ?_); refine box_event ?hg (N := 3) ?hd (cs := #[.bool false, .int .i64 0, .int .i64 0, .int .i64 0, .int .i64 0, .int .i64 0]) (t := 25) ?hr ?_; (case hd => rfl); (case hg => rfl); (case hr => first | (go_simp; done) | (go_simp; rfl)); intro gb287 hg w28 hbox hb; have BK287 := Aside0.mk (hbox); obtain ⟨GW287, nHB⟩ := geA hg hb; have GE287 := GW287; obtain ⟨NB279_287, NB287_279, nBK⟩ := nbA BK279 hg hb; replace BK279 := nBK; clear nBK; replace HB := nHB; clear nHB; clear hb hbox hg; have hnb29 := NB287_279.out; have hnc29 := NB279_287.out; have hcz30_0 := czZ BK287 0 (.bool false); have hcz30_1 := czZ BK287 1 (.int .i64 0); have hcz30_2 := czZ BK287 2 (.int .i64 0); have hcz30_3 := czZ BK287 3 (.int .i64 0); have hcz30_4 := czZ BK287 4 (.int .i64 0); have hcz30_5 := czZ BK287 5 (.int .i64 0); have hfz30_0 := blk_frozen BK287.out 0; have hfz30_1 := blk_frozen BK287.out 1; have hfz30_2 := blk_frozen BK287.out 2; have hfz30_3 := blk_frozen BK287.out 3; have hfz30_4 := blk_frozen BK287.out 4; have hfz30_5 := blk_frozen BK287.out 5; have hcz31_0 := czZ BK279 0 (.bool true); have hcz31_1 := czZ BK279 1 (.int .i64 a0_1); have hcz31_2 := czZ BK279 2 (.int .i64 a0_2); have hcz31_3 := czZ BK279 3 (.int .i64 a0_3); have hcz31_4 := czZ BK279 4 (.int .i64 a0_4); have hcz31_5 := czZ BK279 5 (.int .i64 a0_5); have hfz31_0 := blk_frozen BK279.out 0; have hfz31_1 := blk_frozen BK279.out 1; have hfz31_2 := blk_frozen BK279.out 2; have hfz31_3 := blk_frozen BK279.out 3; have hfz31_4 := blk_frozen BK279.out 4; have hfz31_5 := blk_frozen BK279.out 5))
   go_ret
   exact ⟨by first | rfl | (simp [errW_none, errW_some] <;> rfl) | (simp [*, errW_none, errW_some] <;> rfl), by repeat (first | (with_reducible first | exact HB.out | apply below_alloc | apply pw_below_drewN | apply below_drew1 | refine below_set ?_ (Aside0.out (by assumption))) | exact HB.out)⟩
 ·replace c2 := Bool.eq_false_iff.mpr c2
  subst c2
  have H1 : (some (!false && (a0_1 == 0 && (a0_2 == 0 && (a0_3 == 0 && (a0_4 == 0 && (a0_5 == 0))))))) = some r := by rw [if_neg (show ¬ (false = true) by decide)] at H; exact H
  clear H; have H := H1; clear H1; obtain rfl := Option.some.inj H
  go_enter Tryz.func53, Tryz.ntmps53
  go_wp2_with (first | ((with_reducible refine gate_dst (N := 1) rfl ?_); refine box_event ?hg (N := 1) ?hd (cs := #[.bool false, .int .i64 a0_1, .int .i64 a0_2, .int .i64 a0_3, .int .i64 a0_4, .int .i64 a0_5]) (t := 25) ?hr ?_; (case hd => rfl); (case hg => rfl); (case hr => first | (go_simp; done) | (go_simp; rfl)); intro gb279 hg w32 hbox hb; have BK279 := Aside0.mk (hbox); obtain ⟨GW279, nHB⟩ := geA hg hb; have GE279 := GW279; replace HB := nHB; clear nHB; clear hb hbox hg; have hcz33_0 := czZ BK279 0 (.bool false); have hcz33_1 := czZ BK279 1 (.int .i64 a0_1); have hcz33_2 := czZ BK279 2 (.int .i64 a0_2); have hcz33_3 := czZ BK279 3 (.int .i64 a0_3); have hcz33_4 := czZ BK279 4 (.int .i64 a0_4); have hcz33_5 := czZ BK279 5 (.int .i64 a0_5); have hfz33_0 := blk_frozen BK279.out 0; have hfz33_1 := blk_frozen BK279.out 1; have hfz33_2 := blk_frozen BK279.out 2; have hfz33_3 := blk_frozen BK279.out 3; have hfz33_4 := blk_frozen BK279.out 4; have hfz33_5 := blk_frozen BK279.out 5))
  go_ret
  exact ⟨by first | rfl | (simp [errW_none, errW_some] <;> rfl) | (simp [*, errW_none, errW_some] <;> rfl), by repeat (first | (with_reducible first | exact HB.out | apply below_alloc | apply pw_below_drewN | apply below_drew1 | refine below_set ?_ GE279.out) | exact HB.out)⟩

/-! ### epoch_CheckS: pure, behind function 53 -/
section
open Go.Proofs.YtfahbgkoldoflaaGreatDoor.Sp
noncomputable def epoch_CheckS.f (on : Bool) (s : Int) (f : Int) (m : Int) (k : Int) (e : Int) : Option (Bool) := need ((I s) ∧ (I f) ∧ (I m)) (some (eOk on s f m k e))
theorem epoch_CheckS.eq {on : Bool} {s : Int} {f : Int} {m : Int} {k : Int} {e : Int} (h1 : I s) (h2 : I f) (h3 : I m) : epoch_CheckS.f on s f m k e = some (eOk on s f m k e) := need_pos ⟨h1, h2, h3⟩
theorem epoch_Check.main {on : Bool} {s : Int} {f : Int} {m : Int} {k : Int} {e : Int} (h1 : I s) (h2 : I f) (h3 : I m) : epoch_Check.f on s f m k e = some (eOk on s f m k e) := by
 unfold epoch_Check.f
 cases on
 ·rw [if_neg (by simp)]
  congr 1
  refine eOk_of (fun x => by cases x) (fun _ => ?_)
  simp
 ·rw [if_pos rfl, epoch_BeginS.eq h1 h2 h3, epoch_windowS.eq]
  simp only [Option.bind_some]
  unfold beginQ winOk
  by_cases c : 0 ≤ s ∧ s ≤ 1099511627776 ∧ 0 ≤ f ∧ f ≤ 68719476736 ∧ 0 ≤ m ∧ m ≤ 68719476736
  ·rw [if_pos c]
   simp only [if_true]
   by_cases c1 : 0 ≤ e ∧ e ≤ 68719476736
   ·rw [if_pos (decide_eq_true c1)]
    congr 1
    refine eOk_of (fun _ => ?_) (fun x => by cases x)
    unfold eOn
    by_cases c3 : f ≤ m
    ·have q : max2 m f = m := by unfold max2; rw [if_neg (by omega)]
     rw [q]; simp; omega
    ·have q : max2 m f = f := by unfold max2; rw [if_pos (by omega)]
     rw [q]; simp; omega
   ·rw [if_neg (show ¬ decide (0 ≤ e ∧ e ≤ 68719476736) = true by rw [decide_eq_true_iff]; exact c1)]
    congr 1
    refine eOk_of (fun _ => ?_) (fun x => by cases x)
    unfold eOn
    simp; omega
  ·rw [if_neg c]
   simp only
   rw [if_neg (by omega)]
   congr 1
   refine eOk_of (fun _ => ?_) (fun x => by cases x)
   unfold eOn
   simp; omega
end
theorem epoch_CheckS.calls (a0_0 : Bool) (a0_1 : Int) (a0_2 : Int) (a0_3 : Int) (a0_4 : Int) (a0_5 : Int) (r : Bool) (w : World) (h : epoch_CheckS.f a0_0 a0_1 a0_2 a0_3 a0_4 a0_5 = some r) (hL : Tens w) :
  Calls Tryz.prog 53 #[.agg #[.bool a0_0, .int .i64 a0_1, .int .i64 a0_2, .int .i64 a0_3, .int .i64 a0_4, .int .i64 a0_5]] w fun e w' => e = .returned (.bool r) ∧ Below w.heap.size w w' := by
 obtain ⟨hc, h⟩ := Sp.need_some h; obtain ⟨h1, h2, h3⟩ := hc; exact epoch_Check.calls a0_0 a0_1 a0_2 a0_3 a0_4 a0_5 r w (by rw [epoch_Check.main h1 h2 h3]; exact h) hL

/-! ### cubic_is: function 21 -/
noncomputable def cubic_is.f (a0_0 : Bool) (a0_1 : Int) (a0_2 : Int) (a0_3 : Int) (a0_4 : Int) (a0_5 : Int) : Option (Bool) := if a0_0 = true then ((epoch_CheckS.f a0_0 a0_1 a0_2 a0_3 a0_4 a0_5).bind fun t290 => (some t290)) else (some false)
set_option maxHeartbeats 8000000 in
set_option maxRecDepth 100000 in
theorem cubic_is.calls (a0_0 : Bool) (a0_1 : Int) (a0_2 : Int) (a0_3 : Int) (a0_4 : Int) (a0_5 : Int) (r : Bool) (w : World) (h : cubic_is.f a0_0 a0_1 a0_2 a0_3 a0_4 a0_5 = some r) (hL : Tens w) :
  Calls Tryz.prog 21 #[.agg #[.bool a0_0, .int .i64 a0_1, .int .i64 a0_2, .int .i64 a0_3, .int .i64 a0_4, .int .i64 a0_5]] w fun e w' => e = .returned (.bool r) ∧ Below w.heap.size w w' := by
 have hu25 := Tryz.underlying25; have HB := Aside0.mk (Below.refl w.heap.size w); have H : (if a0_0 = true then ((epoch_CheckS.f a0_0 a0_1 a0_2 a0_3 a0_4 a0_5).bind fun t290 => (some t290)) else (some false)) = some r := h; clear h
 by_cases c2 : a0_0 = true
 ·subst c2
  have H1 : ((epoch_CheckS.f true a0_1 a0_2 a0_3 a0_4 a0_5).bind fun t290 => (some t290)) = some r := by rw [if_pos rfl] at H; exact H
  clear H; have H := H1; clear H1; replace H := Option.bind_eq_some_iff.mp H; obtain ⟨t290, A30, H⟩ := H; replace H : (some t290) = some r := H; have A3 := Aside0.mk A30; clear A30; obtain rfl := Option.some.inj H
  go_enter Tryz.func21, Tryz.ntmps21
  go_wp2_with (first | ((with_reducible refine gate_dst (N := 1) rfl ?_); refine box_event ?hg (N := 1) ?hd (cs := #[.bool true, .int .i64 a0_1, .int .i64 a0_2, .int .i64 a0_3, .int .i64 a0_4, .int .i64 a0_5]) (t := 25) ?hr ?_; (case hd => rfl); (case hg => rfl); (case hr => first | (go_simp; done) | (go_simp; rfl)); intro gb289 hg w4 hbox hb; have BK289 := Aside0.mk (hbox); obtain ⟨GW289, nHB⟩ := geA hg hb; have GE289 := GW289; replace HB := nHB; clear nHB; clear hb hbox hg; have hcz5_0 := czZ BK289 0 (.bool true); have hcz5_1 := czZ BK289 1 (.int .i64 a0_1); have hcz5_2 := czZ BK289 2 (.int .i64 a0_2); have hcz5_3 := czZ BK289 3 (.int .i64 a0_3); have hcz5_4 := czZ BK289 4 (.int .i64 a0_4); have hcz5_5 := czZ BK289 5 (.int .i64 a0_5); have hfz5_0 := blk_frozen BK289.out 0; have hfz5_1 := blk_frozen BK289.out 1; have hfz5_2 := blk_frozen BK289.out 2; have hfz5_3 := blk_frozen BK289.out 3; have hfz5_4 := blk_frozen BK289.out 4; have hfz5_5 := blk_frozen BK289.out 5) | (go_at_call 53; (with_reducible refine (epoch_CheckS.calls true a0_1 a0_2 a0_3 a0_4 a0_5 t290 _ A3.out ?hT_).mono ?_); (case hT_ => exact tensB hL (by repeat (first | (with_reducible first | exact HB.out | apply below_alloc | apply pw_below_drewN | apply below_drew1 | refine below_set ?_ (Aside0.out (by assumption))) | exact HB.out))); rintro e w6 ⟨rfl, hb⟩; replace BK289 := bdZ BK289 hb; replace HB := stA hb; clear hb))
  go_ret
  exact ⟨by first | rfl | (simp [errW_none, errW_some] <;> rfl) | (simp [*, errW_none, errW_some] <;> rfl), by repeat (first | (with_reducible first | exact HB.out | apply below_alloc | apply pw_below_drewN | apply below_drew1 | refine below_set ?_ GE289.out) | exact HB.out)⟩
 ·replace c2 := Bool.eq_false_iff.mpr c2
  subst c2
  have H1 : (some false) = some r := by rw [if_neg (show ¬ (false = true) by decide)] at H; exact H
  clear H; have H := H1; clear H1; obtain rfl := Option.some.inj H
  go_enter Tryz.func21, Tryz.ntmps21
  go_wp2_with (first | ((with_reducible refine gate_dst (N := 1) rfl ?_); refine box_event ?hg (N := 1) ?hd (cs := #[.bool false, .int .i64 a0_1, .int .i64 a0_2, .int .i64 a0_3, .int .i64 a0_4, .int .i64 a0_5]) (t := 25) ?hr ?_; (case hd => rfl); (case hg => rfl); (case hr => first | (go_simp; done) | (go_simp; rfl)); intro gb289 hg w7 hbox hb; have BK289 := Aside0.mk (hbox); obtain ⟨GW289, nHB⟩ := geA hg hb; have GE289 := GW289; replace HB := nHB; clear nHB; clear hb hbox hg; have hcz8_0 := czZ BK289 0 (.bool false); have hcz8_1 := czZ BK289 1 (.int .i64 a0_1); have hcz8_2 := czZ BK289 2 (.int .i64 a0_2); have hcz8_3 := czZ BK289 3 (.int .i64 a0_3); have hcz8_4 := czZ BK289 4 (.int .i64 a0_4); have hcz8_5 := czZ BK289 5 (.int .i64 a0_5); have hfz8_0 := blk_frozen BK289.out 0; have hfz8_1 := blk_frozen BK289.out 1; have hfz8_2 := blk_frozen BK289.out 2; have hfz8_3 := blk_frozen BK289.out 3; have hfz8_4 := blk_frozen BK289.out 4; have hfz8_5 := blk_frozen BK289.out 5))
  go_ret
  exact ⟨by first | rfl | (simp [errW_none, errW_some] <;> rfl) | (simp [*, errW_none, errW_some] <;> rfl), by repeat (first | (with_reducible first | exact HB.out | apply below_alloc | apply pw_below_drewN | apply below_drew1 | refine below_set ?_ GE289.out) | exact HB.out)⟩

/-! ### cubic_isS: pure, behind function 21 -/
section
open Go.Proofs.YtfahbgkoldoflaaGreatDoor.Sp
noncomputable def cubic_isS.f (on : Bool) (s : Int) (f : Int) (m : Int) (k : Int) (e : Int) : Option (Bool) := need ((I s) ∧ (I f) ∧ (I m)) (some (on && eOk on s f m k e))
theorem cubic_isS.eq {on : Bool} {s : Int} {f : Int} {m : Int} {k : Int} {e : Int} (h1 : I s) (h2 : I f) (h3 : I m) : cubic_isS.f on s f m k e = some (on && eOk on s f m k e) := need_pos ⟨h1, h2, h3⟩
theorem cubic_is.main {on : Bool} {s : Int} {f : Int} {m : Int} {k : Int} {e : Int} (h1 : I s) (h2 : I f) (h3 : I m) : cubic_is.f on s f m k e = some (on && eOk on s f m k e) := by
 unfold cubic_is.f
 cases on
 ·rfl
 ·rw [if_pos rfl, epoch_CheckS.eq h1 h2 h3]
  simp
end
theorem cubic_isS.calls (a0_0 : Bool) (a0_1 : Int) (a0_2 : Int) (a0_3 : Int) (a0_4 : Int) (a0_5 : Int) (r : Bool) (w : World) (h : cubic_isS.f a0_0 a0_1 a0_2 a0_3 a0_4 a0_5 = some r) (hL : Tens w) :
  Calls Tryz.prog 21 #[.agg #[.bool a0_0, .int .i64 a0_1, .int .i64 a0_2, .int .i64 a0_3, .int .i64 a0_4, .int .i64 a0_5]] w fun e w' => e = .returned (.bool r) ∧ Below w.heap.size w w' := by
 obtain ⟨hc, h⟩ := Sp.need_some h; obtain ⟨h1, h2, h3⟩ := hc; exact cubic_is.calls a0_0 a0_1 a0_2 a0_3 a0_4 a0_5 r w (by rw [cubic_is.main h1 h2 h3]; exact h) hL

/-! ### safe_unit: function 114 -/
noncomputable def safe_unit.f (a0 : Int) : Option (Int) := if a0 < 0 then (some 1) else (some 0)
set_option maxHeartbeats 8000000 in
set_option maxRecDepth 100000 in
theorem safe_unit.calls (a0 : Int) (r : Int) (w : World) (h : safe_unit.f a0 = some r) :
  Calls Tryz.prog 114 #[.int .i64 a0] w fun e w' => e = .returned (.int .i64 r) ∧ Drawn0 w w' := by
 have H : (if a0 < 0 then (some 1) else (some 0)) = some r := h; clear h
 by_cases c2 : a0 < 0
 ·rw [if_pos c2] at H
  have c2b0 : decide (a0 < 0) = true := decide_eq_true c2; clear c2; obtain rfl := Option.some.inj H
  go_enter Tryz.func114, Tryz.ntmps114
  go_wp2
  go_ret
  exact ⟨by first | rfl | (simp; done) | (simp [*]; done), by repeat (first | exact Drawn0.refl _ | apply Drawn0.step)⟩
 ·rw [if_neg c2] at H
  have c2b0 : decide (a0 < 0) = false := decide_eq_false c2; clear c2; obtain rfl := Option.some.inj H
  go_enter Tryz.func114, Tryz.ntmps114
  go_wp2
  go_ret
  exact ⟨by first | rfl | (simp; done) | (simp [*]; done), by repeat (first | exact Drawn0.refl _ | apply Drawn0.step)⟩

/-! ### safe_Sub: function 55 -/
noncomputable def safe_Sub.f (a0 : Int) (a1 : Int) : Option (Int) := if a1 = (-9223372036854775808) then ((safe_Add.f a0 9223372036854775807).bind fun t291 => ((safe_unit.f a0).bind fun t292 => ((safe_Add.f t291 (wrap64 t292)).bind fun t293 => (some t293)))) else ((safe_Add.f a0 (wrap64 (-a1))).bind fun t294 => (some t294))
set_option maxHeartbeats 8000000 in
set_option maxRecDepth 100000 in
theorem safe_Sub.calls (a0 : Int) (a1 : Int) (r : Int) (w : World) (h : safe_Sub.f a0 a1 = some r) :
  Calls Tryz.prog 55 #[.int .i64 a0, .int .i64 a1] w fun e w' => e = .returned (.int .i64 r) ∧ Below w.heap.size w w' := by
 have HB := Aside0.mk (Below.refl w.heap.size w); have H : (if a1 = (-9223372036854775808) then ((safe_Add.f a0 9223372036854775807).bind fun t291 => ((safe_unit.f a0).bind fun t292 => ((safe_Add.f t291 (wrap64 t292)).bind fun t293 => (some t293)))) else ((safe_Add.f a0 (wrap64 (-a1))).bind fun t294 => (some t294))) = some r := h; clear h
 by_cases c3 : a1 = (-9223372036854775808)
 ·rw [if_pos c3] at H
  have c3b0 : (a1 == (-9223372036854775808)) = true := beq_iff_eq.mpr c3; have c3b1 : (a1 != (-9223372036854775808)) = false := bne_eq_false_iff_eq.mpr c3; clear c3; replace H := Option.bind_eq_some_iff.mp H; obtain ⟨t291, A40, H⟩ := H; replace H : ((safe_unit.f a0).bind fun t292 => ((safe_Add.f t291 (wrap64 t292)).bind fun t293 => (some t293))) = some r := H; have A4 := Aside0.mk A40; clear A40; replace H := Option.bind_eq_some_iff.mp H; obtain ⟨t292, A50, H⟩ := H; replace H : ((safe_Add.f t291 (wrap64 t292)).bind fun t293 => (some t293)) = some r := H; have A5 := Aside0.mk A50; clear A50; replace H := Option.bind_eq_some_iff.mp H; obtain ⟨t293, A60, H⟩ := H; replace H : (some t293) = some r := H; have A6 := Aside0.mk A60; clear A60; obtain rfl := Option.some.inj H
  go_enter Tryz.func55, Tryz.ntmps55
  go_wp2_with (first | ((with_reducible refine gate_callee (f := 24) rfl ?_); refine goesLA_ (some 8) rfl rfl Tryz.func24 rfl #[.int .i64 a0, .int .i64 9223372036854775807] rfl ?_; (with_reducible refine (safe_Add.calls a0 9223372036854775807 t291 _ A4.out).mono ?_); rintro e w7 ⟨rfl, hb⟩; refine ⟨_, rfl, ?_⟩; replace HB := stA hb; clear hb) | ((with_reducible refine gate_callee (f := 114) rfl ?_); refine goesLA_ (some 10) rfl rfl Tryz.func114 rfl #[.int .i64 a0] rfl ?_; (with_reducible refine (safe_unit.calls a0 t292 _ A5.out).mono ?_); rintro e w' ⟨rfl, ⟨nd, rfl⟩⟩; refine ⟨_, rfl, ?_⟩) | ((with_reducible refine gate_callee (f := 24) rfl ?_); refine goesLA_ (some 12) rfl rfl Tryz.func24 rfl #[.int .i64 t291, .int .i64 (wrap64 t292)] rfl ?_; (with_reducible refine (safe_Add.calls t291 (wrap64 t292) t293 _ A6.out).mono ?_); rintro e w8 ⟨rfl, hb⟩; refine ⟨_, rfl, ?_⟩; replace HB := stA hb; clear hb))
  go_ret
  exact ⟨by first | rfl | (simp [errW_none, errW_some] <;> rfl) | (simp [*, errW_none, errW_some] <;> rfl), by repeat (first | (with_reducible first | exact HB.out | apply below_alloc | apply pw_below_drewN | apply below_drew1) | exact HB.out)⟩
 ·rw [if_neg c3] at H
  have c3b0 : (a1 == (-9223372036854775808)) = false := beq_eq_false_iff_ne.mpr c3; have c3b1 : (a1 != (-9223372036854775808)) = true := bne_iff_ne.mpr c3; replace H := Option.bind_eq_some_iff.mp H; obtain ⟨t294, A90, H⟩ := H; replace H : (some t294) = some r := H; have A9 := Aside0.mk A90; clear A90; obtain rfl := Option.some.inj H
  go_enter Tryz.func55, Tryz.ntmps55
  go_wp2_with (first | ((with_reducible refine gate_callee (f := 24) rfl ?_); refine goesLA_ (some 16) rfl rfl Tryz.func24 rfl #[.int .i64 a0, .int .i64 (wrap64 (-a1))] rfl ?_; (with_reducible refine (safe_Add.calls a0 (wrap64 (-a1)) t294 _ A9.out).mono ?_); rintro e w10 ⟨rfl, hb⟩; refine ⟨_, rfl, ?_⟩; replace HB := stA hb; clear hb))
  go_ret
  exact ⟨by first | rfl | (simp [errW_none, errW_some] <;> rfl) | (simp [*, errW_none, errW_some] <;> rfl), by repeat (first | (with_reducible first | exact HB.out | apply below_alloc | apply pw_below_drewN | apply below_drew1) | exact HB.out)⟩

/-! ### safe_SubS: pure, behind function 55 -/
section
open Go.Proofs.YtfahbgkoldoflaaGreatDoor.Sp
noncomputable def safe_SubS.f (a : Int) (b : Int) : Option (Int) := need (I a ∧ I b) (some (near (a - b)))
theorem safe_SubS.eq {a : Int} {b : Int} (h1 : I a) (h2 : I b) : safe_SubS.f a b = some (near (a - b)) := need_pos ⟨h1, h2⟩
theorem safe_Sub.main {a : Int} {b : Int} (h1 : I a) (h2 : I b) : safe_Sub.f a b = some (near (a - b)) := by
 unfold safe_Sub.f safe_unit.f
 by_cases hb : b = -9223372036854775808
 ·rw [if_pos hb, safe_Add.eq h1 (by omega)]
  simp only [Option.bind_some]
  by_cases ha : a < 0
  ·rw [if_pos ha]
   simp only [Option.bind_some]
   rw [w64 (x := 1) (by omega), safe_Add.eq (near_I _) (by omega)]
   simp only [Option.bind_some]
   rw [near_in (v := a + 9223372036854775807) (by omega)]
   congr 2; omega
  ·rw [if_neg ha]
   simp only [Option.bind_some]
   rw [w64 (x := 0) (by omega), safe_Add.eq (near_I _) (by omega)]
   simp only [Option.bind_some]; have e1 : near (a - b) = 9223372036854775807 := near_hi (by omega)
   have e2 : near (a + 9223372036854775807) = 9223372036854775807 := by unfold near; split <;> (try split) <;> omega
   rw [e1, e2, near_in (by omega)]
   rfl
 ·rw [if_neg hb, w64 (x := -b) (by omega), safe_Add.eq h1 (by omega)]
  simp only [Option.bind_some]
  congr 2
end
theorem safe_SubS.calls (a0 : Int) (a1 : Int) (r : Int) (w : World) (h : safe_SubS.f a0 a1 = some r) :
  Calls Tryz.prog 55 #[.int .i64 a0, .int .i64 a1] w fun e w' => e = .returned (.int .i64 r) ∧ Below w.heap.size w w' := by
 obtain ⟨hc, h⟩ := Sp.need_some h; obtain ⟨h1, h2⟩ := hc; exact safe_Sub.calls a0 a1 r w (by rw [safe_Sub.main h1 h2]; exact h)

/-! ### safe_Abs: function 153 -/
noncomputable def safe_Abs.f (a0 : Int) : Option (Int) := (safe_SubS.f 0 a0).bind fun t295 => (some (mx a0 t295))
set_option maxHeartbeats 8000000 in
set_option maxRecDepth 100000 in
theorem safe_Abs.calls (a0 : Int) (r : Int) (w : World) (h : safe_Abs.f a0 = some r) :
  Calls Tryz.prog 153 #[.int .i64 a0] w fun e w' => e = .returned (.int .i64 r) ∧ Below w.heap.size w w' := by
 have HB := Aside0.mk (Below.refl w.heap.size w); have H : ((safe_SubS.f 0 a0).bind fun t295 => (some (mx a0 t295))) = some r := h; clear h; replace H := Option.bind_eq_some_iff.mp H; obtain ⟨t295, A20, H⟩ := H; replace H : (some (mx a0 t295)) = some r := H; have A2 := Aside0.mk A20; clear A20
 obtain ⟨ji3, hji3⟩ : ∃ j_ : Int, (mx a0 t295) = j_ := ⟨_, rfl⟩
 replace H : (some ji3) = some r := by first | (rw [hji3] at H; exact H) | (simp only [hji3] at H ⊢; exact H)
 (try rw [hji3] at A2)
 have hji3_ : (if a0 < t295 then t295 else a0) = ji3 := hji3; obtain rfl := Option.some.inj H
 go_enter Tryz.func153, Tryz.ntmps153
 go_wp2_with (first | ((with_reducible refine gate_callee (f := 55) rfl ?_); refine goesLA_ (some 5) rfl rfl Tryz.func55 rfl #[.int .i64 0, .int .i64 a0] rfl ?_; (with_reducible refine (safe_SubS.calls 0 a0 t295 _ A2.out).mono ?_); rintro e w4 ⟨rfl, hb⟩; refine ⟨_, rfl, ?_⟩; replace HB := stA hb; clear hb))
 go_ret
 exact ⟨by first | rfl | (simp [errW_none, errW_some] <;> rfl) | (simp only [← hji3]; first | rfl | (simp [errW_none, errW_some] <;> rfl)) | (simp [*, errW_none, errW_some] <;> rfl), by repeat (first | (with_reducible first | exact HB.out | apply below_alloc | apply pw_below_drewN | apply below_drew1) | exact HB.out)⟩

/-! ### safe_AbsS: pure, behind function 153 -/
section
open Go.Proofs.YtfahbgkoldoflaaGreatDoor.Sp
noncomputable def safe_AbsS.f (a : Int) : Option (Int) := need ((I a)) (some (near (a.natAbs : Int)))
theorem safe_AbsS.eq {a : Int} (h1 : I a) : safe_AbsS.f a = some (near (a.natAbs : Int)) := need_pos h1
theorem safe_Abs.main {a : Int} (h1 : I a) : safe_Abs.f a = some (near (a.natAbs : Int)) := by
 unfold safe_Abs.f
 rw [safe_SubS.eq (by omega) h1]
 simp only [Option.bind_some]
 congr 1
 unfold mx near
 (repeat' split) <;> omega
end
theorem safe_AbsS.calls (a0 : Int) (r : Int) (w : World) (h : safe_AbsS.f a0 = some r) :
  Calls Tryz.prog 153 #[.int .i64 a0] w fun e w' => e = .returned (.int .i64 r) ∧ Below w.heap.size w w' := by
 obtain ⟨hc, h⟩ := Sp.need_some h; have h1 := hc; exact safe_Abs.calls a0 r w (by rw [safe_Abs.main h1]; exact h)

/-! ### cubic_Rise: function 113 -/
noncomputable def cubic_Rise.f (a0 : Int) : Option (Int) := (safe_ClampS.f a0 (-2147483648) 2147483648).bind fun t296 => ((safe_AbsS.f t296).bind fun t297 => ((root_CubeS.f (IntKind.u64.wrap (t297))).bind fun bt298 => ((big_ScaleS.f (decide (t296 < 0)) bt298.2.1 bt298.2.2.1 262144).bind fun bt303 => ((big_DivS.f bt303.1 bt303.2.1 bt303.2.2.1 10000000000000000000).bind fun bt308 => ((big_IntS.f bt308.1 bt308.2.1 bt308.2.2.1).bind fun t314 => (some t314))))))
set_option maxHeartbeats 8000000 in
set_option maxRecDepth 100000 in
theorem cubic_Rise.calls (a0 : Int) (r : Int) (w : World) (h : cubic_Rise.f a0 = some r) :
  Calls Tryz.prog 113 #[.int .i64 a0] w fun e w' => e = .returned (.int .i64 r) ∧ Below w.heap.size w w' := by
 have hu99 := Tryz.underlying99; have HB := Aside0.mk (Below.refl w.heap.size w); have H : ((safe_ClampS.f a0 (-2147483648) 2147483648).bind fun t296 => ((safe_AbsS.f t296).bind fun t297 => ((root_CubeS.f (IntKind.u64.wrap (t297))).bind fun bt298 => ((big_ScaleS.f (decide (t296 < 0)) bt298.2.1 bt298.2.2.1 262144).bind fun bt303 => ((big_DivS.f bt303.1 bt303.2.1 bt303.2.2.1 10000000000000000000).bind fun bt308 => ((big_IntS.f bt308.1 bt308.2.1 bt308.2.2.1).bind fun t314 => (some t314))))))) = some r := h; clear h; replace H := Option.bind_eq_some_iff.mp H; obtain ⟨t296, A20, H⟩ := H; (try dsimp only at H); have A2 := Aside0.mk A20; clear A20; replace H := Option.bind_eq_some_iff.mp H; obtain ⟨t297, A30, H⟩ := H; (try dsimp only at H); have A3 := Aside0.mk A30; clear A30; replace H := Option.bind_eq_some_iff.mp H; obtain ⟨⟨t298, t299, t300, t301⟩, A40, H⟩ := H; (try dsimp only at H); have A4 := Aside0.mk A40; clear A40; replace H := Option.bind_eq_some_iff.mp H; obtain ⟨⟨t303, t304, t305, t306⟩, A50, H⟩ := H; replace H : ((big_DivS.f t303 t304 t305 10000000000000000000).bind fun bt308 => ((big_IntS.f bt308.1 bt308.2.1 bt308.2.2.1).bind fun t314 => (some t314))) = some r := H; have A5 := Aside0.mk A50; clear A50; replace H := Option.bind_eq_some_iff.mp H; obtain ⟨⟨t308, t309, t310, t311, t312⟩, A60, H⟩ := H; replace H : ((big_IntS.f t308 t309 t310).bind fun t314 => (some t314)) = some r := H; have A6 := Aside0.mk A60; clear A60; replace H := Option.bind_eq_some_iff.mp H; obtain ⟨t314, A70, H⟩ := H; replace H : (some t314) = some r := H; have A7 := Aside0.mk A70; clear A70; obtain rfl := Option.some.inj H
 go_enter Tryz.func113, Tryz.ntmps113
 go_wp2_with (first | ((with_reducible refine gate_callee (f := 22) rfl ?_); refine goesLA_ (some 11) rfl rfl Tryz.func22 rfl #[.int .i64 a0, .int .i64 (-2147483648), .int .i64 2147483648] rfl ?_; (with_reducible refine (safe_ClampS.calls a0 (-2147483648) 2147483648 t296 _ A2.out).mono ?_); rintro e w8 ⟨rfl, hb⟩; refine ⟨_, rfl, ?_⟩; replace HB := stA hb; clear hb) | ((with_reducible refine gate_callee (f := 153) rfl ?_); refine goesLA_ (some 14) rfl rfl Tryz.func153 rfl #[.int .i64 t296] rfl ?_; (with_reducible refine (safe_AbsS.calls t296 t297 _ A3.out).mono ?_); rintro e w9 ⟨rfl, hb⟩; refine ⟨_, rfl, ?_⟩; replace HB := stA hb; clear hb) | ((with_reducible refine gate_callee (f := 111) rfl ?_); refine goesLA_ (some 16) rfl rfl Tryz.func111 rfl #[.int .u64 (IntKind.u64.wrap (t297))] rfl ?_; (with_reducible refine (root_CubeS.calls (IntKind.u64.wrap (t297)) t298 t299 t300 t301 _ A4.out).mono ?_); rintro e w10 ⟨rfl, hb⟩; refine ⟨_, rfl, ?_⟩; replace HB := stA hb; clear hb) | ((with_reducible refine gate_dst (N := 3) rfl ?_); refine box_event ?hg (N := 3) ?hd (cs := #[.bool false, .int .u64 0, .int .u64 0]) (t := 99) ?hr ?_; (case hd => rfl); (case hg => rfl); (case hr => first | (go_simp; done) | (go_simp; rfl)); intro gb302 hg w11 hbox hb; have BK302 := Aside0.mk (hbox); obtain ⟨GW302, nHB⟩ := geA hg hb; have GE302 := GW302; replace HB := nHB; clear nHB; clear hb hbox hg; have hcz12_0 := czZ BK302 0 (.bool false); have hcz12_1 := czZ BK302 1 (.int .u64 0); have hcz12_2 := czZ BK302 2 (.int .u64 0); have hfz12_0 := blk_frozen BK302.out 0; have hfz12_1 := blk_frozen BK302.out 1; have hfz12_2 := blk_frozen BK302.out 2) | ((with_reducible refine gate_callee (f := 49) rfl ?_); refine goesLA_ (some 24) rfl rfl Tryz.func49 rfl #[.agg #[.bool (decide (t296 < 0)), .int .u64 t299, .int .u64 t300], .int .u64 262144] rfl ?_; (with_reducible refine (big_ScaleS.calls (decide (t296 < 0)) t299 t300 262144 t303 t304 t305 t306 _ A5.out).mono ?_); rintro e w13 ⟨rfl, hb⟩; refine ⟨_, rfl, ?_⟩; replace BK302 := Aside0.mk (blk_below (g := gb302) (o := .cells #[.bool (decide (t296 < 0)), .int .u64 t299, .int .u64 t300] 99 (0, 0)) (by (with_reducible repeat first | apply blk_drewN | apply blk_drew | apply blk_alloc); refine blk_put (cs := #[.bool t298, .int .u64 t299, .int .u64 t300]) ?_ 0 _ rfl; (with_reducible repeat first | apply blk_drewN | apply blk_drew | apply blk_alloc); refine blk_put (cs := #[.bool t298, .int .u64 t299, .int .u64 0]) ?_ 2 _ rfl; (with_reducible repeat first | apply blk_drewN | apply blk_drew | apply blk_alloc); refine blk_put (cs := #[.bool t298, .int .u64 0, .int .u64 0]) ?_ 1 _ rfl; (with_reducible repeat first | apply blk_drewN | apply blk_drew | apply blk_alloc); refine blk_put (cs := #[.bool false, .int .u64 0, .int .u64 0]) ?_ 0 _ rfl; (with_reducible repeat first | apply blk_drewN | apply blk_drew | apply blk_alloc); exact BK302.out) hb); replace HB := stA hb; clear hb) | ((with_reducible refine gate_dst (N := 5) rfl ?_); refine box_event ?hg (N := 5) ?hd (cs := #[.bool false, .int .u64 0, .int .u64 0]) (t := 99) ?hr ?_; (case hd => rfl); (case hg => rfl); (case hr => first | (go_simp; done) | (go_simp; rfl)); intro gb307 hg w14 hbox hb; have BK307 := Aside0.mk (hbox); obtain ⟨GW307, nHB⟩ := geA hg hb; have GE307 := GW307; obtain ⟨NB302_307, NB307_302, nBK⟩ := nbA BK302 hg hb; replace BK302 := nBK; clear nBK; replace HB := nHB; clear nHB; clear hb hbox hg; have hnb15 := NB307_302.out; have hnc15 := NB302_307.out; have hcz16_0 := czZ BK307 0 (.bool false); have hcz16_1 := czZ BK307 1 (.int .u64 0); have hcz16_2 := czZ BK307 2 (.int .u64 0); have hfz16_0 := blk_frozen BK307.out 0; have hfz16_1 := blk_frozen BK307.out 1; have hfz16_2 := blk_frozen BK307.out 2) | ((with_reducible refine gate_callee (f := 50) rfl ?_); refine goesLA_ (some 29) rfl rfl Tryz.func50 rfl #[.agg #[.bool t303, .int .u64 t304, .int .u64 t305], .int .u64 10000000000000000000] rfl ?_; (with_reducible refine (big_DivS.calls t303 t304 t305 10000000000000000000 t308 t309 t310 t311 t312 _ A6.out).mono ?_); rintro e w17 ⟨rfl, hb⟩; refine ⟨_, rfl, ?_⟩; replace BK302 := bfZ BK302 (fun h_ => by (with_reducible repeat first | apply blk_drewN | apply blk_drew | apply blk_alloc | refine farZ ?_ NB302_307 _); exact h_) hb; replace BK307 := Aside0.mk (blk_below (g := gb307) (o := .cells #[.bool t303, .int .u64 t304, .int .u64 t305] 99 (0, 0)) (by (with_reducible repeat first | apply blk_drewN | apply blk_drew | apply blk_alloc); refine blk_put (cs := #[.bool t303, .int .u64 t304, .int .u64 0]) ?_ 2 _ rfl; (with_reducible repeat first | apply blk_drewN | apply blk_drew | apply blk_alloc); refine blk_put (cs := #[.bool t303, .int .u64 0, .int .u64 0]) ?_ 1 _ rfl; (with_reducible repeat first | apply blk_drewN | apply blk_drew | apply blk_alloc); refine blk_put (cs := #[.bool false, .int .u64 0, .int .u64 0]) ?_ 0 _ rfl; (with_reducible repeat first | apply blk_drewN | apply blk_drew | apply blk_alloc); exact BK307.out) hb); replace HB := stA hb; clear hb) | ((with_reducible refine gate_dst (N := 7) rfl ?_); refine box_event ?hg (N := 7) ?hd (cs := #[.bool false, .int .u64 0, .int .u64 0]) (t := 99) ?hr ?_; (case hd => rfl); (case hg => rfl); (case hr => first | (go_simp; done) | (go_simp; rfl)); intro gb313 hg w18 hbox hb; have BK313 := Aside0.mk (hbox); obtain ⟨GW313, nHB⟩ := geA hg hb; have GE313 := GW313; obtain ⟨NB302_313, NB313_302, nBK⟩ := nbA BK302 hg hb; replace BK302 := nBK; clear nBK; obtain ⟨NB307_313, NB313_307, nBK⟩ := nbA BK307 hg hb; replace BK307 := nBK; clear nBK; replace HB := nHB; clear nHB; clear hb hbox hg; have hnb19 := NB313_302.out; have hnc19 := NB302_313.out; have hnb20 := NB313_307.out; have hnc20 := NB307_313.out; have hcz21_0 := czZ BK313 0 (.bool false); have hcz21_1 := czZ BK313 1 (.int .u64 0); have hcz21_2 := czZ BK313 2 (.int .u64 0); have hfz21_0 := blk_frozen BK313.out 0; have hfz21_1 := blk_frozen BK313.out 1; have hfz21_2 := blk_frozen BK313.out 2) | ((with_reducible refine gate_callee (f := 145) rfl ?_); refine goesLA_ (some 34) rfl rfl Tryz.func145 rfl #[.agg #[.bool t308, .int .u64 t309, .int .u64 t310]] rfl ?_; (with_reducible refine (big_IntS.calls t308 t309 t310 t314 _ A7.out).mono ?_); rintro e w22 ⟨rfl, hb⟩; refine ⟨_, rfl, ?_⟩; replace BK302 := bfZ BK302 (fun h_ => by (with_reducible repeat first | apply blk_drewN | apply blk_drew | apply blk_alloc | refine farZ ?_ NB302_313 _); exact h_) hb; replace BK307 := bfZ BK307 (fun h_ => by (with_reducible repeat first | apply blk_drewN | apply blk_drew | apply blk_alloc | refine farZ ?_ NB307_313 _); exact h_) hb; replace BK313 := Aside0.mk (blk_below (g := gb313) (o := .cells #[.bool t308, .int .u64 t309, .int .u64 t310] 99 (0, 0)) (by (with_reducible repeat first | apply blk_drewN | apply blk_drew | apply blk_alloc); refine blk_put (cs := #[.bool t308, .int .u64 t309, .int .u64 0]) ?_ 2 _ rfl; (with_reducible repeat first | apply blk_drewN | apply blk_drew | apply blk_alloc); refine blk_put (cs := #[.bool t308, .int .u64 0, .int .u64 0]) ?_ 1 _ rfl; (with_reducible repeat first | apply blk_drewN | apply blk_drew | apply blk_alloc); refine blk_put (cs := #[.bool false, .int .u64 0, .int .u64 0]) ?_ 0 _ rfl; (with_reducible repeat first | apply blk_drewN | apply blk_drew | apply blk_alloc); exact BK313.out) hb); replace HB := stA hb; clear hb))
 go_ret
 exact ⟨by first | rfl | (simp [errW_none, errW_some] <;> rfl) | (simp [*, errW_none, errW_some] <;> rfl), by repeat (first | (with_reducible first | exact HB.out | apply below_alloc | apply pw_below_drewN | apply below_drew1 | refine below_set ?_ (Aside0.out (by assumption))) | exact HB.out)⟩

/-! ### cubic_RiseS: pure, behind function 113 -/
section
open Go.Proofs.YtfahbgkoldoflaaGreatDoor.Sp
noncomputable def cubic_RiseS.f (d : Int) : Option (Int) := need ((I d)) (some (riseQ d))
theorem cubic_RiseS.eq {d : Int} (h1 : I d) : cubic_RiseS.f d = some (riseQ d) := need_pos h1
theorem cubic_Rise.main {d : Int} (h1 : I d) : cubic_Rise.f d = some (riseQ d) := by
 unfold cubic_Rise.f
 rw [safe_ClampS.eq h1 (by omega) (by omega)]
 simp only [Option.bind_some]; have b := c31_bd d; have cb := c31_cube d; have rb := riseQ_bd d; have e0 : riseQ d = c31 d * c31 d * c31 d * 262144 / 10000000000000000000 := rfl
 rw [show clamp d (-2147483648) 2147483648 = c31 d from rfl, safe_AbsS.eq (by omega)]
 simp only [Option.bind_some]
 generalize c31 d = x at *
 rw [near_in (v := (x.natAbs : Int)) (by omega), u64w_in (x := (x.natAbs : Int)) (by omega), root_CubeS.eq (by omega)]
 have an : (x.natAbs : Int) * (x.natAbs : Int) * (x.natAbs : Int) = if x < 0 then -(x * x * x) else x * x * x := by
  by_cases h : x < 0
  ·rw [if_pos h, show (x.natAbs : Int) = -x by omega, Int.neg_mul_neg, Int.mul_neg]
  ·rw [if_neg h, show (x.natAbs : Int) = x by omega]
 have ap : 0 ≤ (x.natAbs : Int) * (x.natAbs : Int) * (x.natAbs : Int) := Int.mul_nonneg (Int.mul_nonneg (by omega) (by omega)) (by omega)
 have au : (x.natAbs : Int) * (x.natAbs : Int) * (x.natAbs : Int) ≤ 9903520314283042199192993792 := by rw [an]; split <;> omega
 generalize (x.natAbs : Int) * (x.natAbs : Int) * (x.natAbs : Int) = y at *
 rw [held_in (by omega)]
 simp only [Option.bind_some]; have ev := @val_enc y
 rw [encN_pos ap, val_f] at ev
 have es : val (decide (x < 0)) (encH y) (encL y) = x * x * x := by
  by_cases h : x < 0
  ·rw [decide_eq_true h, val_t, ev, an, if_pos h]; omega
  ·rw [decide_eq_false h, val_f, ev, an, if_neg h]
 rw [big_ScaleS.eq (encH_U (by omega)) encL_U (by omega), es, held_in (by omega)]
 simp only [Option.bind_some]
 rw [big_DivS.enc (by omega) (by omega), quo_pos (by omega)]
 simp only [Option.bind_some]
 rw [← e0, big_IntS.enc (by omega), near_in (by omega)]
 rfl
end
theorem cubic_RiseS.calls (a0 : Int) (r : Int) (w : World) (h : cubic_RiseS.f a0 = some r) :
  Calls Tryz.prog 113 #[.int .i64 a0] w fun e w' => e = .returned (.int .i64 r) ∧ Below w.heap.size w w' := by
 obtain ⟨hc, h⟩ := Sp.need_some h; have h1 := hc; exact cubic_Rise.calls a0 r w (by rw [cubic_Rise.main h1]; exact h)

end Go.Proofs.YtfahbgkoldoflaaGreatDoor.Px
