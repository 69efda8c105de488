/- Printed by px.py, over the kit's print. Conditions: none beside the theorems' own. -/
import Derived.Test.YtfahbgkoldoflaaGreatDoorPx0
import Derived.Test.YtfahbgkoldoflaaGreatDoorPx12
import Derived.Test.YtfahbgkoldoflaaGreatDoorPx20
import Derived.Test.YtfahbgkoldoflaaGreatDoorPx26
import Derived.Test.YtfahbgkoldoflaaGreatDoorSpec
namespace Go.Proofs.YtfahbgkoldoflaaGreatDoor.Px
open Go.RowKit Go.Proofs.YtfahbgkoldoflaaGreatDoorW.PrintWords Go.Proofs.YtfahbgkoldoflaaGreatDoorW.PrintLast Go.Proofs.YtfahbgkoldoflaaGreatDoorW.PrintMore
attribute [local go_sem] max2_int min2_int max_two min_two max_three min_three max_four min_four
set_option linter.unusedVariables false
set_option linter.unusedSimpArgs false

/-! ### frac_Segs: function 90 -/
noncomputable def frac_Segs.f (a0 : Int) (a1 : Int) : Option (Int × Int) := (frac_FloorS.f a0 65536 a1).bind fun bt377 => (some (bt377.1, bt377.2))
set_option maxHeartbeats 8000000 in
set_option maxRecDepth 100000 in
theorem frac_Segs.calls (a0 : Int) (a1 : Int) (r1 : Int) (r2 : Int) (w : World) (h : frac_Segs.f a0 a1 = some (r1, r2)) :
  Calls Tryz.prog 90 #[.int .i64 a0, .int .i64 a1] w fun e w' => e = .returned (.tuple #[.int .i64 r1, .int .i64 r2]) ∧ Below w.heap.size w w' := by
 have HB := Aside0.mk (Below.refl w.heap.size w); have H : ((frac_FloorS.f a0 65536 a1).bind fun bt377 => (some (bt377.1, bt377.2))) = some (r1, r2) := h; clear h; replace H := Option.bind_eq_some_iff.mp H; obtain ⟨⟨t377, t378⟩, A30, H⟩ := H; replace H : (some (t377, t378)) = some (r1, r2) := H; have A3 := Aside0.mk A30; clear A30; simp only [Option.some.injEq, Prod.mk.injEq] at H; obtain ⟨rfl, rfl⟩ := H
 go_enter Tryz.func90, Tryz.ntmps90
 go_wp2_with (first | ((with_reducible refine gate_callee (f := 45) rfl ?_); refine goesLA_ (some 8) rfl rfl Tryz.func45 rfl #[.int .i64 a0, .int .i64 65536, .int .i64 a1] rfl ?_; (with_reducible refine (frac_FloorS.calls a0 65536 a1 t377 t378 _ A3.out).mono ?_); rintro e w4 ⟨rfl, hb⟩; refine ⟨_, rfl, ?_⟩; replace HB := stA hb; clear hb))
 go_ret2
 exact ⟨by first | rfl | (rw [Int.tdiv_eq_ediv_of_nonneg] <;> first | rfl | assumption | omega) | (simp [errW_none, errW_some] <;> rfl) | (simp [*, errW_none, errW_some] <;> rfl), by repeat (first | (with_reducible first | exact HB.out | apply below_alloc | apply pw_below_drewN | apply below_drew1) | exact HB.out)⟩

/-! ### frac_SegsS: pure, behind function 90 -/
noncomputable def frac_SegsS.f (a c : Int) : Option (Int × Int) := Sp.need (Sp.I a ∧ Sp.I c) (Sp.floorQ a 65536 c)
theorem frac_SegsS.eq {a c : Int} (h1 : Sp.I a) (h2 : Sp.I c) : frac_SegsS.f a c = Sp.floorQ a 65536 c := Sp.need_pos ⟨h1, h2⟩
theorem frac_SegsS.calls (a0 a1 r1 r2 : Int) (w : World) (h : frac_SegsS.f a0 a1 = some (r1, r2)) :
  Calls Tryz.prog 90 #[.int .i64 a0, .int .i64 a1] w fun e w' => e = .returned (.tuple #[.int .i64 r1, .int .i64 r2]) ∧ Below w.heap.size w w' := by
 obtain ⟨hc, h⟩ := Sp.need_some h; refine frac_Segs.calls a0 a1 r1 r2 w ?_
 unfold frac_Segs.f
 rw [frac_FloorS.eq (by omega) (by omega) (by omega), h]
 rfl

/-! ### grow_given: function 52 -/
noncomputable def grow_given.f (a0 : Int) : Option (Int) := (safe_ClampS.f a0 131072 68719476736).bind fun t379 => (some t379)
set_option maxHeartbeats 8000000 in
set_option maxRecDepth 100000 in
theorem grow_given.calls (a0 : Int) (r : Int) (w : World) (h : grow_given.f a0 = some r) :
  Calls Tryz.prog 52 #[.int .i64 a0] w fun e w' => e = .returned (.int .i64 r) ∧ Below w.heap.size w w' := by
 have HB := Aside0.mk (Below.refl w.heap.size w); have H : ((safe_ClampS.f a0 131072 68719476736).bind fun t379 => (some t379)) = some r := h; clear h; replace H := Option.bind_eq_some_iff.mp H; obtain ⟨t379, A20, H⟩ := H; replace H : (some t379) = some r := H; have A2 := Aside0.mk A20; clear A20; obtain rfl := Option.some.inj H
 go_enter Tryz.func52, Tryz.ntmps52
 go_wp2_with (first | ((with_reducible refine gate_callee (f := 22) rfl ?_); refine goesLA_ (some 4) rfl rfl Tryz.func22 rfl #[.int .i64 a0, .int .i64 131072, .int .i64 68719476736] rfl ?_; (with_reducible refine (safe_ClampS.calls a0 131072 68719476736 t379 _ A2.out).mono ?_); rintro e w3 ⟨rfl, hb⟩; refine ⟨_, rfl, ?_⟩; replace HB := stA hb; clear hb))
 go_ret
 exact ⟨by first | rfl | (rw [Int.tdiv_eq_ediv_of_nonneg] <;> first | rfl | assumption | omega) | (simp [errW_none, errW_some] <;> rfl) | (simp [*, errW_none, errW_some] <;> rfl), by repeat (first | (with_reducible first | exact HB.out | apply below_alloc | apply pw_below_drewN | apply below_drew1) | exact HB.out)⟩

/-! ### grow_givenS: a window that is given: pure, behind function 52 -/
noncomputable def grow_givenS.f (a : Int) : Option Int := Sp.need (Sp.I a) (some (Sp.win a))
section
open Go.Proofs.YtfahbgkoldoflaaGreatDoor.Sp
theorem grow_givenS.eq {a : Int} (h1 : I a) : grow_givenS.f a = some (win a) := need_pos h1
theorem grow_given.main {a : Int} (h1 : I a) : grow_given.f a = some (win a) := by
 unfold grow_given.f
 rw [safe_ClampS.eq h1 (by omega) (by omega)]
 rfl
end
theorem grow_givenS.calls (a r1 : Int) (w : World) (h : grow_givenS.f a = some r1) :
  Calls Tryz.prog 52 #[.int .i64 a] w fun e w' => e = .returned (.int .i64 r1) ∧ Below w.heap.size w w' := by
 obtain ⟨h1, h⟩ := Sp.need_some h; exact grow_given.calls a r1 w (by rw [grow_given.main h1]; exact h)

/-! ### grow_Limit: function 91 -/
noncomputable def grow_Limit.f (a0 : Int) (a1 : Int) : Option (Int) := (grow_givenS.f a0).bind fun t380 => ((grow_givenS.f a1).bind fun t381 => (some (mn t380 t381)))
set_option maxHeartbeats 8000000 in
set_option maxRecDepth 100000 in
theorem grow_Limit.calls (a0 : Int) (a1 : Int) (r : Int) (w : World) (h : grow_Limit.f a0 a1 = some r) :
  Calls Tryz.prog 91 #[.int .i64 a0, .int .i64 a1] w fun e w' => e = .returned (.int .i64 r) ∧ Below w.heap.size w w' := by
 have HB := Aside0.mk (Below.refl w.heap.size w); have H : ((grow_givenS.f a0).bind fun t380 => ((grow_givenS.f a1).bind fun t381 => (some (mn t380 t381)))) = some r := h; clear h; replace H := Option.bind_eq_some_iff.mp H; obtain ⟨t380, A30, H⟩ := H; replace H : ((grow_givenS.f a1).bind fun t381 => (some (mn t380 t381))) = some r := H; have A3 := Aside0.mk A30; clear A30; replace H := Option.bind_eq_some_iff.mp H; obtain ⟨t381, A40, H⟩ := H; replace H : (some (mn t380 t381)) = some r := H; have A4 := Aside0.mk A40; clear A40
 obtain ⟨ji5, hji5⟩ : ∃ j_ : Int, (mn t380 t381) = j_ := ⟨_, rfl⟩
 replace H : (some ji5) = some r := by first | (rw [hji5] at H; exact H) | (simp only [hji5] at H ⊢; exact H)
 (try rw [hji5] at A3)
 (try rw [hji5] at A4)
 have hji5_ : (if t381 < t380 then t381 else t380) = ji5 := hji5; obtain rfl := Option.some.inj H
 go_enter Tryz.func91, Tryz.ntmps91
 go_wp2_with (first | ((with_reducible refine gate_callee (f := 52) rfl ?_); refine goesLA_ (some 6) rfl rfl Tryz.func52 rfl #[.int .i64 a0] rfl ?_; (with_reducible refine (grow_givenS.calls a0 t380 _ A3.out).mono ?_); rintro e w6 ⟨rfl, hb⟩; refine ⟨_, rfl, ?_⟩; replace HB := stA hb; clear hb) | ((with_reducible refine gate_callee (f := 52) rfl ?_); refine goesLA_ (some 8) rfl rfl Tryz.func52 rfl #[.int .i64 a1] rfl ?_; (with_reducible refine (grow_givenS.calls a1 t381 _ A4.out).mono ?_); rintro e w7 ⟨rfl, hb⟩; refine ⟨_, rfl, ?_⟩; replace HB := stA hb; clear hb))
 go_ret
 exact ⟨by first | rfl | (rw [Int.tdiv_eq_ediv_of_nonneg] <;> first | rfl | assumption | omega) | (simp [errW_none, errW_some] <;> rfl) | (simp only [← hji5]; first | rfl | (simp [errW_none, errW_some] <;> rfl)) | (simp [*, errW_none, errW_some] <;> rfl), by repeat (first | (with_reducible first | exact HB.out | apply below_alloc | apply pw_below_drewN | apply below_drew1) | exact HB.out)⟩

/-! ### grow_LimitS: one between bounds: pure, behind function 91 -/
noncomputable def grow_LimitS.f (a b : Int) : Option Int := Sp.need (Sp.I a ∧ Sp.I b) (some (Sp.min2 (Sp.win a) (Sp.win b)))
theorem grow_LimitS.eq {a b : Int} (h1 : Sp.I a) (h2 : Sp.I b) : grow_LimitS.f a b = some (Sp.min2 (Sp.win a) (Sp.win b)) := Sp.need_pos ⟨h1, h2⟩
theorem grow_LimitS.calls (a0 a1 r : Int) (w : World) (h : grow_LimitS.f a0 a1 = some r) :
  Calls Tryz.prog 91 #[.int .i64 a0, .int .i64 a1] w fun e w' => e = .returned (.int .i64 r) ∧ Below w.heap.size w w' := by
 obtain ⟨⟨h1, h2⟩, h⟩ := Sp.need_some h; refine grow_Limit.calls a0 a1 r w ?_
 unfold grow_Limit.f
 rw [grow_givenS.eq h1, grow_givenS.eq h2, ← h]
 simp only [Option.bind_some]
 first | rfl | (congr 1; unfold mn Sp.min2; (repeat' split) <;> omega)

-- NOT PRINTED: function 20 (grow_after)

/-! ### hystart_Part: function 193 -/
noncomputable def hystart_Part.f (a0_0 : Int) (a0_1 : Int) (a0_2 : Int) (a0_3 : Bool) (a0_4 : Bool) (a0_5 : Int) (a0_6 : Int) (a1 : Int) : Option (Int) := (hystart_state_phase.f a0_0 a0_1 a0_2 a0_3 a0_4 a0_5 a0_6).bind fun t383 => (if t383 = 3 then (some 0) else (if t383 = 2 then (some (wrap64 ((mx a1 0) / 4))) else (some (mx a1 0))))
set_option maxHeartbeats 8000000 in
set_option maxRecDepth 100000 in
theorem hystart_Part.calls (a0_0 : Int) (a0_1 : Int) (a0_2 : Int) (a0_3 : Bool) (a0_4 : Bool) (a0_5 : Int) (a0_6 : Int) (a1 : Int) (r : Int) (w : World) (h : hystart_Part.f a0_0 a0_1 a0_2 a0_3 a0_4 a0_5 a0_6 a1 = some r) :
  Calls Tryz.prog 193 #[.agg #[.int .i64 a0_0, .int .i64 a0_1, .int .i64 a0_2, .bool a0_3, .bool a0_4, .int .i64 a0_5, .int .i64 a0_6], .int .i64 a1] w fun e w' => e = .returned (.int .i64 r) ∧ Below w.heap.size w w' := by
 have hu44 := Tryz.underlying44; have HB := Aside0.mk (Below.refl w.heap.size w); have H : ((hystart_state_phase.f a0_0 a0_1 a0_2 a0_3 a0_4 a0_5 a0_6).bind fun t383 => (if t383 = 3 then (some 0) else (if t383 = 2 then (some (wrap64 ((mx a1 0) / 4))) else (some (mx a1 0))))) = some r := h; clear h; replace H := Option.bind_eq_some_iff.mp H; obtain ⟨t383, A30, H⟩ := H; replace H : (if t383 = 3 then (some 0) else (if t383 = 2 then (some (wrap64 ((mx a1 0) / 4))) else (some (mx a1 0)))) = some r := H; have A3 := Aside0.mk A30; clear A30
 by_cases c4 : t383 = 3
 ·rw [if_pos c4] at H
  have c4b0 : (t383 == 3) = true := beq_iff_eq.mpr c4; have c4b1 : (t383 != 3) = false := bne_eq_false_iff_eq.mpr c4; clear c4; obtain rfl := Option.some.inj H
  go_enter Tryz.func193, Tryz.ntmps193
  go_wp2_with (first | ((with_reducible refine gate_dst (N := 2) rfl ?_); refine box_event ?hg (N := 2) ?hd (cs := #[.int .i64 a0_0, .int .i64 a0_1, .int .i64 a0_2, .bool a0_3, .bool a0_4, .int .i64 a0_5, .int .i64 a0_6]) (t := 44) ?hr ?_; (case hd => rfl); (case hg => rfl); (case hr => first | (go_simp; done) | (go_simp; rfl)); intro gb382 hg w5 hbox hb; have BK382 := Aside0.mk (hbox); obtain ⟨GW382, nHB⟩ := geA hg hb; have GE382 := GW382; replace HB := nHB; clear nHB; clear hb hbox hg; have hcz6_0 := czZ BK382 0 (.int .i64 a0_0); have hcz6_1 := czZ BK382 1 (.int .i64 a0_1); have hcz6_2 := czZ BK382 2 (.int .i64 a0_2); have hcz6_3 := czZ BK382 3 (.bool a0_3); have hcz6_4 := czZ BK382 4 (.bool a0_4); have hcz6_5 := czZ BK382 5 (.int .i64 a0_5); have hcz6_6 := czZ BK382 6 (.int .i64 a0_6); have hfz6_0 := blk_frozen BK382.out 0; have hfz6_1 := blk_frozen BK382.out 1; have hfz6_2 := blk_frozen BK382.out 2; have hfz6_3 := blk_frozen BK382.out 3; have hfz6_4 := blk_frozen BK382.out 4; have hfz6_5 := blk_frozen BK382.out 5; have hfz6_6 := blk_frozen BK382.out 6) | ((with_reducible refine gate_callee (f := 121) rfl ?_); refine goesLA_ (some 6) rfl rfl Tryz.func121 rfl #[.agg #[.int .i64 a0_0, .int .i64 a0_1, .int .i64 a0_2, .bool a0_3, .bool a0_4, .int .i64 a0_5, .int .i64 a0_6]] rfl ?_; (with_reducible refine (hystart_state_phase.calls a0_0 a0_1 a0_2 a0_3 a0_4 a0_5 a0_6 t383 _ A3.out).mono ?_); rintro e w7 ⟨rfl, hb⟩; refine ⟨_, rfl, ?_⟩; replace BK382 := bdZ BK382 hb; replace HB := stA hb; clear hb))
  go_ret
  exact ⟨by first | rfl | (rw [Int.tdiv_eq_ediv_of_nonneg] <;> first | rfl | assumption | omega) | (simp [errW_none, errW_some] <;> rfl) | (simp [*, errW_none, errW_some] <;> rfl), by repeat (first | (with_reducible first | exact HB.out | apply below_alloc | apply pw_below_drewN | apply below_drew1 | refine below_set ?_ GE382.out) | exact HB.out)⟩
 ·rw [if_neg c4] at H
  have c4b0 : (t383 == 3) = false := beq_eq_false_iff_ne.mpr c4; have c4b1 : (t383 != 3) = true := bne_iff_ne.mpr c4
  by_cases c8 : t383 = 2
  ·rw [if_pos c8] at H
   have c8b0 : (t383 == 2) = true := beq_iff_eq.mpr c8; have c8b1 : (t383 != 2) = false := bne_eq_false_iff_eq.mpr c8; clear c8
   obtain ⟨ji9, hji9⟩ : ∃ j_ : Int, (mx a1 0) = j_ := ⟨_, rfl⟩
   replace H : (some (wrap64 ((ji9) / 4))) = some r := by first | (rw [hji9] at H; exact H) | (simp only [hji9] at H ⊢; exact H)
   (try rw [hji9] at A3)
   (try (have hji9l : 0 ≤ ji9 := by (rw [← hji9]; unfold mx; (repeat' split) <;> omega)))
   (try (have hji9m : 0 ≤ ji9 := by omega))
   have hji9_ : (if a1 < 0 then 0 else a1) = ji9 := hji9; obtain rfl := Option.some.inj H
   go_enter Tryz.func193, Tryz.ntmps193
   go_wp2_with (first | ((with_reducible refine gate_dst (N := 2) rfl ?_); refine box_event ?hg (N := 2) ?hd (cs := #[.int .i64 a0_0, .int .i64 a0_1, .int .i64 a0_2, .bool a0_3, .bool a0_4, .int .i64 a0_5, .int .i64 a0_6]) (t := 44) ?hr ?_; (case hd => rfl); (case hg => rfl); (case hr => first | (go_simp; done) | (go_simp; rfl)); intro gb382 hg w10 hbox hb; have BK382 := Aside0.mk (hbox); obtain ⟨GW382, nHB⟩ := geA hg hb; have GE382 := GW382; replace HB := nHB; clear nHB; clear hb hbox hg; have hcz11_0 := czZ BK382 0 (.int .i64 a0_0); have hcz11_1 := czZ BK382 1 (.int .i64 a0_1); have hcz11_2 := czZ BK382 2 (.int .i64 a0_2); have hcz11_3 := czZ BK382 3 (.bool a0_3); have hcz11_4 := czZ BK382 4 (.bool a0_4); have hcz11_5 := czZ BK382 5 (.int .i64 a0_5); have hcz11_6 := czZ BK382 6 (.int .i64 a0_6); have hfz11_0 := blk_frozen BK382.out 0; have hfz11_1 := blk_frozen BK382.out 1; have hfz11_2 := blk_frozen BK382.out 2; have hfz11_3 := blk_frozen BK382.out 3; have hfz11_4 := blk_frozen BK382.out 4; have hfz11_5 := blk_frozen BK382.out 5; have hfz11_6 := blk_frozen BK382.out 6) | ((with_reducible refine gate_callee (f := 121) rfl ?_); refine goesLA_ (some 6) rfl rfl Tryz.func121 rfl #[.agg #[.int .i64 a0_0, .int .i64 a0_1, .int .i64 a0_2, .bool a0_3, .bool a0_4, .int .i64 a0_5, .int .i64 a0_6]] rfl ?_; (with_reducible refine (hystart_state_phase.calls a0_0 a0_1 a0_2 a0_3 a0_4 a0_5 a0_6 t383 _ A3.out).mono ?_); rintro e w12 ⟨rfl, hb⟩; refine ⟨_, rfl, ?_⟩; replace BK382 := bdZ BK382 hb; replace HB := stA hb; clear hb))
   go_ret
   exact ⟨by first | rfl | (rw [Int.tdiv_eq_ediv_of_nonneg] <;> first | rfl | assumption | omega) | (simp [errW_none, errW_some] <;> rfl) | (simp only [← hji9]; first | rfl | (simp [errW_none, errW_some] <;> rfl)) | (simp [*, errW_none, errW_some] <;> rfl), by repeat (first | (with_reducible first | exact HB.out | apply below_alloc | apply pw_below_drewN | apply below_drew1 | refine below_set ?_ GE382.out) | exact HB.out)⟩
  ·rw [if_neg c8] at H
   have c8b0 : (t383 == 2) = false := beq_eq_false_iff_ne.mpr c8; have c8b1 : (t383 != 2) = true := bne_iff_ne.mpr c8
   obtain ⟨ji13, hji13⟩ : ∃ j_ : Int, (mx a1 0) = j_ := ⟨_, rfl⟩
   replace H : (some ji13) = some r := by first | (rw [hji13] at H; exact H) | (simp only [hji13] at H ⊢; exact H)
   (try rw [hji13] at A3)
   (try (have hji13l : 0 ≤ ji13 := by (rw [← hji13]; unfold mx; (repeat' split) <;> omega)))
   (try (have hji13m : 0 ≤ ji13 := by omega))
   have hji13_ : (if a1 < 0 then 0 else a1) = ji13 := hji13; obtain rfl := Option.some.inj H
   go_enter Tryz.func193, Tryz.ntmps193
   go_wp2_with (first | ((with_reducible refine gate_dst (N := 2) rfl ?_); refine box_event ?hg (N := 2) ?hd (cs := #[.int .i64 a0_0, .int .i64 a0_1, .int .i64 a0_2, .bool a0_3, .bool a0_4, .int .i64 a0_5, .int .i64 a0_6]) (t := 44) ?hr ?_; (case hd => rfl); (case hg => rfl); (case hr => first | (go_simp; done) | (go_simp; rfl)); intro gb382 hg w14 hbox hb; have BK382 := Aside0.mk (hbox); obtain ⟨GW382, nHB⟩ := geA hg hb; have GE382 := GW382; replace HB := nHB; clear nHB; clear hb hbox hg; have hcz15_0 := czZ BK382 0 (.int .i64 a0_0); have hcz15_1 := czZ BK382 1 (.int .i64 a0_1); have hcz15_2 := czZ BK382 2 (.int .i64 a0_2); have hcz15_3 := czZ BK382 3 (.bool a0_3); have hcz15_4 := czZ BK382 4 (.bool a0_4); have hcz15_5 := czZ BK382 5 (.int .i64 a0_5); have hcz15_6 := czZ BK382 6 (.int .i64 a0_6); have hfz15_0 := blk_frozen BK382.out 0; have hfz15_1 := blk_frozen BK382.out 1; have hfz15_2 := blk_frozen BK382.out 2; have hfz15_3 := blk_frozen BK382.out 3; have hfz15_4 := blk_frozen BK382.out 4; have hfz15_5 := blk_frozen BK382.out 5; have hfz15_6 := blk_frozen BK382.out 6) | ((with_reducible refine gate_callee (f := 121) rfl ?_); refine goesLA_ (some 6) rfl rfl Tryz.func121 rfl #[.agg #[.int .i64 a0_0, .int .i64 a0_1, .int .i64 a0_2, .bool a0_3, .bool a0_4, .int .i64 a0_5, .int .i64 a0_6]] rfl ?_; (with_reducible refine (hystart_state_phase.calls a0_0 a0_1 a0_2 a0_3 a0_4 a0_5 a0_6 t383 _ A3.out).mono ?_); rintro e w16 ⟨rfl, hb⟩; refine ⟨_, rfl, ?_⟩; replace BK382 := bdZ BK382 hb; replace HB := stA hb; clear hb))
   go_ret
   exact ⟨by first | rfl | (rw [Int.tdiv_eq_ediv_of_nonneg] <;> first | rfl | assumption | omega) | (simp [errW_none, errW_some] <;> rfl) | (simp only [← hji13]; first | rfl | (simp [errW_none, errW_some] <;> rfl)) | (simp [*, errW_none, errW_some] <;> rfl), by repeat (first | (with_reducible first | exact HB.out | apply below_alloc | apply pw_below_drewN | apply below_drew1 | refine below_set ?_ GE382.out) | exact HB.out)⟩

/-! ### grow_slow_by: function 192 -/
noncomputable def grow_slow_by.f (a0_0 : Int) (a0_1 : Int) (a0_2 : Int) (a0_3 : Bool) (a0_4 : Bool) (a0_5 : Int) (a0_6 : Int) (a1 : Int) (a2 : Int) : Option (Int) := (hystart_Part.f a0_0 a0_1 a0_2 a0_3 a0_4 a0_5 a0_6 (mn a2 524288)).bind fun t385 => (some t385)
set_option maxHeartbeats 8000000 in
set_option maxRecDepth 100000 in
theorem grow_slow_by.calls (a0_0 : Int) (a0_1 : Int) (a0_2 : Int) (a0_3 : Bool) (a0_4 : Bool) (a0_5 : Int) (a0_6 : Int) (a1 : Int) (a2 : Int) (r : Int) (w : World) (h : grow_slow_by.f a0_0 a0_1 a0_2 a0_3 a0_4 a0_5 a0_6 a1 a2 = some r) :
  Calls Tryz.prog 192 #[.agg #[.int .i64 a0_0, .int .i64 a0_1, .int .i64 a0_2, .bool a0_3, .bool a0_4, .int .i64 a0_5, .int .i64 a0_6], .int .i64 a1, .int .i64 a2] w fun e w' => e = .returned (.int .i64 r) ∧ Below w.heap.size w w' := by
 have hu190 := Tryz.underlying190; have hu44 := Tryz.underlying44; have HB := Aside0.mk (Below.refl w.heap.size w); have H : ((hystart_Part.f a0_0 a0_1 a0_2 a0_3 a0_4 a0_5 a0_6 (mn a2 524288)).bind fun t385 => (some t385)) = some r := h; clear h
 obtain ⟨ji4, hji4⟩ : ∃ j_ : Int, (mn a2 524288) = j_ := ⟨_, rfl⟩
 replace H : ((hystart_Part.f a0_0 a0_1 a0_2 a0_3 a0_4 a0_5 a0_6 (ji4)).bind fun t385 => (some t385)) = some r := by first | (rw [hji4] at H; exact H) | (simp only [hji4] at H ⊢; exact H)
 (try (have hji4h : ji4 ≤ 524288 := by (rw [← hji4]; unfold mn; (repeat' split) <;> omega)))
 (try (have hji4g : ji4 ≤ 64 := by omega))
 have hji4_ : (if 524288 < a2 then 524288 else a2) = ji4 := hji4; replace H := Option.bind_eq_some_iff.mp H; obtain ⟨t385, A50, H⟩ := H; replace H : (some t385) = some r := H; have A5 := Aside0.mk A50; clear A50; obtain rfl := Option.some.inj H
 go_enter Tryz.func192, Tryz.ntmps192
 go_wp2_with (first | ((with_reducible refine gate_dst (N := 3) rfl ?_); refine box_event ?hg (N := 3) ?hd (cs := #[.int .i64 a0_0, .int .i64 a0_1, .int .i64 a0_2, .bool a0_3, .bool a0_4, .int .i64 a0_5, .int .i64 a0_6]) (t := 190) ?hr ?_; (case hd => rfl); (case hg => rfl); (case hr => first | (go_simp; done) | (go_simp; rfl)); intro gb384 hg w6 hbox hb; have BK384 := Aside0.mk (hbox); obtain ⟨GW384, nHB⟩ := geA hg hb; have GE384 := GW384; replace HB := nHB; clear nHB; clear hb hbox hg; have hcz7_0 := czZ BK384 0 (.int .i64 a0_0); have hcz7_1 := czZ BK384 1 (.int .i64 a0_1); have hcz7_2 := czZ BK384 2 (.int .i64 a0_2); have hcz7_3 := czZ BK384 3 (.bool a0_3); have hcz7_4 := czZ BK384 4 (.bool a0_4); have hcz7_5 := czZ BK384 5 (.int .i64 a0_5); have hcz7_6 := czZ BK384 6 (.int .i64 a0_6); have hfz7_0 := blk_frozen BK384.out 0; have hfz7_1 := blk_frozen BK384.out 1; have hfz7_2 := blk_frozen BK384.out 2; have hfz7_3 := blk_frozen BK384.out 3; have hfz7_4 := blk_frozen BK384.out 4; have hfz7_5 := blk_frozen BK384.out 5; have hfz7_6 := blk_frozen BK384.out 6) | ((with_reducible refine gate_callee (f := 193) rfl ?_); refine goesL_ (some 11) rfl rfl Tryz.func193 (by kernel_rfl) rfl #[.agg #[.int .i64 a0_0, .int .i64 a0_1, .int .i64 a0_2, .bool a0_3, .bool a0_4, .int .i64 a0_5, .int .i64 a0_6], .int .i64 ji4] rfl (by (try simp only [List.map_toArray, List.map_cons, List.map_nil]); first | done | (simp only [hji4]; rfl) | rfl | (simp only [List.length_drop, List.length_take]; rfl)) ?_; (with_reducible refine (hystart_Part.calls a0_0 a0_1 a0_2 a0_3 a0_4 a0_5 a0_6 ji4 t385 _ A5.out).mono ?_); rintro e w8 ⟨rfl, hb⟩; refine ⟨_, rfl, ?_⟩; replace BK384 := bdZ BK384 hb; replace HB := stA hb; clear hb))
 go_ret
 exact ⟨by first | rfl | (rw [Int.tdiv_eq_ediv_of_nonneg] <;> first | rfl | assumption | omega) | (simp [errW_none, errW_some] <;> rfl) | (simp only [← hji4]; first | rfl | (simp [errW_none, errW_some] <;> rfl)) | (simp [*, errW_none, errW_some] <;> rfl), by repeat (first | (with_reducible first | exact HB.out | apply below_alloc | apply pw_below_drewN | apply below_drew1 | refine below_set ?_ GE384.out) | exact HB.out)⟩

/-! ### grow_Slow: function 92 -/
theorem grow_by_slow (v : Value) (w : World) : (method 329 190 v "sawtooth/grow.by").run Tryz.prog w = .ok (192, v) w := by kernel_rfl
theorem grow_is_old_slow (v : Value) (w : World) : (Instr.typeAssert (.iface 190 v) 71 73 true).run Tryz.prog w = .ok (.tuple #[.agg #[.nilIface, .int .i64 0], .bool false]) w := by kernel_rfl
theorem grow_is_calm_slow (v : Value) (w : World) : (Instr.typeAssert (.iface 190 v) 71 69 true).run Tryz.prog w = .ok (.tuple #[.agg #[.int .i64 0], .bool false]) w := by kernel_rfl
set_option maxHeartbeats 1000000 in
set_option maxRecDepth 100000 in
theorem grow_after_slow.calls (a0 a1 l0 l1 l2 : Int) (g d : Bool) (b0 b1 W T p m r : Int) (HW : Aside0 (grow_givenS.f a0 = some W)) (HT : Aside0 (safe_ClampS.f a1 0 68719476736 = some T)) (HP : Aside0 (grow_slow_by.f l0 l1 l2 g d b0 b1 W T = some p)) (HA : Aside0 (safe_Add.f W p = some m)) (HG : Aside0 (grow_givenS.f m = some r)) (w : World) :
  Calls Tryz.prog 20 #[.int .i64 a0, .int .i64 a1, .iface 190 (.agg #[.int .i64 l0, .int .i64 l1, .int .i64 l2, .bool g, .bool d, .int .i64 b0, .int .i64 b1])] w fun e w' => e = .returned (.int .i64 r) ∧ Below w.heap.size w w' := by
 have hm := grow_by_slow; have t1 := grow_is_old_slow; have t2 := grow_is_calm_slow; have hu73 := Tryz.underlying190; have hu76 := Tryz.underlying69; have hu80 := Tryz.underlying73
 go_enter Tryz.func20, Tryz.ntmps20
 go_wp2_with (first
  | (go_at_call 52; refine (grow_givenS.calls a0 W _ HW.out).mono ?_; rintro e w1 ⟨rfl, hb⟩; clear HW; have HB := Aside0.mk hb; clear hb)
  | (go_at_call 22; refine (safe_ClampS.calls a1 0 68719476736 T _ HT.out).mono ?_; rintro e w2 ⟨rfl, hb2⟩; replace HB := Aside0.mk (Go.Proofs.YtfahbgkoldoflaaGreatDoorW.PrintWords.below_then HB.out HB.out.size hb2); clear hb2)
  | (go_at_call 192; refine (grow_slow_by.calls l0 l1 l2 g d b0 b1 W T p _ HP.out).mono ?_; rintro e w3 ⟨rfl, hb3⟩; replace HB := Aside0.mk (Go.Proofs.YtfahbgkoldoflaaGreatDoorW.PrintWords.below_then HB.out HB.out.size hb3); clear hb3)
  | (go_at_call 24; refine (safe_Add.calls W p m _ HA.out).mono ?_; rintro e w4 ⟨rfl, hb4⟩; replace HB := Aside0.mk (Go.Proofs.YtfahbgkoldoflaaGreatDoorW.PrintWords.below_then HB.out HB.out.size hb4); clear hb4)
  | (go_at_call 52; refine (grow_givenS.calls m r _ HG.out).mono ?_; rintro e w5 ⟨rfl, hb5⟩; have HZ := Aside0.mk hb5; clear hb5)
  | fail)
 go_ret
 exact ⟨rfl, by first | exact below_step HB.out HZ.out | exact Go.Proofs.YtfahbgkoldoflaaGreatDoorW.PrintWords.below_then (by repeat (with_reducible first | exact HB.out | apply below_alloc | apply pw_below_drewN)) (by have := HB.out.size; simp at *; omega) HZ.out⟩
noncomputable def grow_Slow.f (a0 a1 l0 l1 l2 : Int) (g d : Bool) (b0 b1 : Int) : Option Int := Sp.need (Sp.I a0 ∧ Sp.I a1) (some (Sp.slowQ a0 a1 g d))
theorem grow_Slow.eq {a0 a1 l0 l1 l2 : Int} {g d : Bool} {b0 b1 : Int} (h1 : Sp.I a0) (h2 : Sp.I a1) : grow_Slow.f a0 a1 l0 l1 l2 g d b0 b1 = some (Sp.slowQ a0 a1 g d) := Sp.need_pos ⟨h1, h2⟩
section
open Go.Proofs.YtfahbgkoldoflaaGreatDoor.Sp
theorem grow_slow_by.part (l0 l1 l2 : Int) (g d : Bool) (b0 b1 W t : Int) : grow_slow_by.f l0 l1 l2 g d b0 b1 W (clamp t 0 68719476736) = some (partQ t g d) := by
 have b := clamp_bd (a := t) (low := 0) (high := 68719476736) (by omega)
 unfold grow_slow_by.f hystart_Part.f hystart_state_phase.f partQ
 have e : mn (clamp t 0 68719476736) 524288 = Sp.min2 (clamp t 0 68719476736) 524288 := by unfold mn Sp.min2; (repeat' split) <;> omega
 have m : 0 ≤ Sp.min2 (clamp t 0 68719476736) 524288 := by unfold Sp.min2; split <;> omega
 have m2 : Sp.min2 (clamp t 0 68719476736) 524288 ≤ 524288 := by unfold Sp.min2; split <;> omega
 rw [e]
 generalize Sp.min2 (clamp t 0 68719476736) 524288 = z at *
 have e2 : mx z 0 = z := by unfold mx; rw [if_neg (by omega)]
 rw [e2]
 cases d <;> cases g <;> simp [w64 (x := z / 4) (by omega)]
end
set_option maxHeartbeats 1000000 in
set_option maxRecDepth 100000 in
theorem grow_Slow.walk (a0 a1 l0 l1 l2 : Int) (g d : Bool) (b0 b1 W T p m r : Int) (HW : Aside0 (grow_givenS.f a0 = some W)) (HT : Aside0 (safe_ClampS.f a1 0 68719476736 = some T)) (HP : Aside0 (grow_slow_by.f l0 l1 l2 g d b0 b1 W T = some p)) (HA : Aside0 (safe_Add.f W p = some m)) (HG : Aside0 (grow_givenS.f m = some r)) (w : World) :
  Calls Tryz.prog 92 #[.int .i64 a0, .int .i64 a1, .agg #[.int .i64 l0, .int .i64 l1, .int .i64 l2, .bool g, .bool d, .int .i64 b0, .int .i64 b1]] w fun e w' => e = .returned (.int .i64 r) ∧ Below w.heap.size w w' := by
 have hu73 := Tryz.underlying190; have hu43 := Tryz.underlying44; have HB := Aside0.mk (Below.refl w.heap.size w)
 go_enter Tryz.func92, Tryz.ntmps92
 go_wp2_with (first
  | (go_at_call 20; refine (grow_after_slow.calls a0 a1 l0 l1 l2 g d b0 b1 W T p m r HW HT HP HA HG _).mono ?_; rintro e w1 ⟨rfl, hb⟩; have HZ := Aside0.mk hb; clear hb)
  | fail)
 go_ret
 exact ⟨rfl, by first | exact Go.Proofs.YtfahbgkoldoflaaGreatDoorW.PrintWords.below_then (by repeat (with_reducible first | exact HB.out | apply below_alloc | apply pw_below_drewN)) (by simp) HZ.out⟩
theorem grow_Slow.calls (a0 a1 l0 l1 l2 : Int) (g d : Bool) (b0 b1 r : Int) (w : World) (h : grow_Slow.f a0 a1 l0 l1 l2 g d b0 b1 = some r) :
  Calls Tryz.prog 92 #[.int .i64 a0, .int .i64 a1, .agg #[.int .i64 l0, .int .i64 l1, .int .i64 l2, .bool g, .bool d, .int .i64 b0, .int .i64 b1]] w fun e w' => e = .returned (.int .i64 r) ∧ Below w.heap.size w w' := by
 obtain ⟨⟨h1, h2⟩, h⟩ := Sp.need_some h; obtain rfl := Option.some.inj h; have a := Sp.win_bd a0; have b := Sp.partQ_bd a1 g d; refine grow_Slow.walk a0 a1 l0 l1 l2 g d b0 b1 (Sp.win a0) (Sp.clamp a1 0 68719476736) (Sp.partQ a1 g d) (Sp.win a0 + Sp.partQ a1 g d) _ ⟨grow_givenS.eq h1⟩ ⟨safe_ClampS.eq h2 (by omega) (by omega)⟩ ⟨grow_slow_by.part l0 l1 l2 g d b0 b1 _ a1⟩ ⟨?_⟩ ⟨?_⟩ w
 ·rw [safe_Add.eq (by omega) (by omega), Sp.near_in (by omega)]
 ·rw [grow_givenS.eq (by omega)]; rfl

end Go.Proofs.YtfahbgkoldoflaaGreatDoor.Px
