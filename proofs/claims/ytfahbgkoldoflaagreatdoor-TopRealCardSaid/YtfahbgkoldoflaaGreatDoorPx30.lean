/- Printed by px.py, over the kit's print. Conditions: none beside the theorems' own. -/
import Derived.Test.YtfahbgkoldoflaaGreatDoorPx0
import Derived.Test.YtfahbgkoldoflaaGreatDoorPx3
import Derived.Test.YtfahbgkoldoflaaGreatDoorPx6
import Derived.Test.YtfahbgkoldoflaaGreatDoorPx12
import Derived.Test.YtfahbgkoldoflaaGreatDoorPx17
import Derived.Test.YtfahbgkoldoflaaGreatDoorPx18
import Derived.Test.YtfahbgkoldoflaaGreatDoorPx20
import Derived.Test.YtfahbgkoldoflaaGreatDoorPx24
import Derived.Test.YtfahbgkoldoflaaGreatDoorSpec
namespace Go.Proofs.YtfahbgkoldoflaaGreatDoor.Px
open Go.RowKit Go.Proofs.YtfahbgkoldoflaaGreatDoorW.PrintWords Go.Proofs.YtfahbgkoldoflaaGreatDoorW.PrintLast Go.Proofs.YtfahbgkoldoflaaGreatDoorW.PrintMore
attribute [local go_sem] max2_int min2_int max_two min_two max_three min_three max_four min_four
set_option linter.unusedVariables false
set_option linter.unusedSimpArgs false

attribute [local go_sem high] eqA46
/-! ### frac_Bytes: function 14 -/
noncomputable def frac_Bytes.f (a0 : Int) (a1 : Int) : Option (Int × Int) := (frac_FloorS.f a0 a1 65536).bind fun bt328 => (some (bt328.1, bt328.2))
set_option maxHeartbeats 8000000 in
set_option maxRecDepth 100000 in
theorem frac_Bytes.calls (a0 : Int) (a1 : Int) (r1 : Int) (r2 : Int) (w : World) (h : frac_Bytes.f a0 a1 = some (r1, r2)) :
  Calls Tryz.prog 14 #[.int .i64 a0, .int .i64 a1] w fun e w' => e = .returned (.tuple #[.int .i64 r1, .int .i64 r2]) ∧ Below w.heap.size w w' := by
 have HB := Aside0.mk (Below.refl w.heap.size w); have H : ((frac_FloorS.f a0 a1 65536).bind fun bt328 => (some (bt328.1, bt328.2))) = some (r1, r2) := h; clear h; replace H := Option.bind_eq_some_iff.mp H; obtain ⟨⟨t328, t329⟩, A30, H⟩ := H; replace H : (some (t328, t329)) = some (r1, r2) := H; have A3 := Aside0.mk A30; clear A30; simp only [Option.some.injEq, Prod.mk.injEq] at H; obtain ⟨rfl, rfl⟩ := H
 go_enter Tryz.func14, Tryz.ntmps14
 go_wp2_with (first | ((with_reducible refine gate_callee (f := 45) rfl ?_); refine goesLA_ (some 8) rfl rfl Tryz.func45 rfl #[.int .i64 a0, .int .i64 a1, .int .i64 65536] rfl ?_; (with_reducible refine (frac_FloorS.calls a0 a1 65536 t328 t329 _ A3.out).mono ?_); rintro e w4 ⟨rfl, hb⟩; refine ⟨_, rfl, ?_⟩; replace HB := stA hb; clear hb))
 go_ret2
 exact ⟨by first | rfl | (simp [errW_none, errW_some] <;> rfl) | (simp [*, errW_none, errW_some] <;> rfl), by repeat (first | (with_reducible first | exact HB.out | apply below_alloc | apply pw_below_drewN | apply below_drew1) | exact HB.out)⟩

/-! ### frac_BytesS: pure, behind function 14 -/
noncomputable def frac_BytesS.f (a c : Int) : Option (Int × Int) := Sp.need (Sp.I a ∧ Sp.I c) (Sp.floorQ a c 65536)
theorem frac_BytesS.eq {a c : Int} (h1 : Sp.I a) (h2 : Sp.I c) : frac_BytesS.f a c = Sp.floorQ a c 65536 := Sp.need_pos ⟨h1, h2⟩
theorem frac_BytesS.calls (a0 a1 r1 r2 : Int) (w : World) (h : frac_BytesS.f a0 a1 = some (r1, r2)) :
  Calls Tryz.prog 14 #[.int .i64 a0, .int .i64 a1] w fun e w' => e = .returned (.tuple #[.int .i64 r1, .int .i64 r2]) ∧ Below w.heap.size w w' := by
 obtain ⟨hc, h⟩ := Sp.need_some h; refine frac_Bytes.calls a0 a1 r1 r2 w ?_
 unfold frac_Bytes.f
 rw [frac_FloorS.eq (by omega) (by omega) (by omega), h]
 rfl

/-! ### safe_unit: function 114 -/
noncomputable def safe_unit.f (a0 : Int) : Option (Int) := if a0 < 0 then (some 1) else (some 0)
set_option maxHeartbeats 8000000 in
set_option maxRecDepth 100000 in
theorem safe_unit.calls (a0 : Int) (r : Int) (w : World) (h : safe_unit.f a0 = some r) :
  Calls Tryz.prog 114 #[.int .i64 a0] w fun e w' => e = .returned (.int .i64 r) ∧ Drawn0 w w' := by
 have H : (if a0 < 0 then (some 1) else (some 0)) = some r := h; clear h
 by_cases c2 : a0 < 0
 ·rw [if_pos c2] at H
  have c2b0 : decide (a0 < 0) = true := decide_eq_true c2; clear c2; obtain rfl := Option.some.inj H
  go_enter Tryz.func114, Tryz.ntmps114
  go_wp2
  go_ret
  exact ⟨by first | rfl | (simp; done) | (simp [*]; done), by repeat (first | exact Drawn0.refl _ | apply Drawn0.step)⟩
 ·rw [if_neg c2] at H
  have c2b0 : decide (a0 < 0) = false := decide_eq_false c2; clear c2; obtain rfl := Option.some.inj H
  go_enter Tryz.func114, Tryz.ntmps114
  go_wp2
  go_ret
  exact ⟨by first | rfl | (simp; done) | (simp [*]; done), by repeat (first | exact Drawn0.refl _ | apply Drawn0.step)⟩

/-! ### safe_Sub: function 55 -/
noncomputable def safe_Sub.f (a0 : Int) (a1 : Int) : Option (Int) := if a1 = (-9223372036854775808) then ((safe_Add.f a0 9223372036854775807).bind fun t330 => ((safe_unit.f a0).bind fun t331 => ((safe_Add.f t330 (wrap64 t331)).bind fun t332 => (some t332)))) else ((safe_Add.f a0 (wrap64 (-a1))).bind fun t333 => (some t333))
set_option maxHeartbeats 8000000 in
set_option maxRecDepth 100000 in
theorem safe_Sub.calls (a0 : Int) (a1 : Int) (r : Int) (w : World) (h : safe_Sub.f a0 a1 = some r) :
  Calls Tryz.prog 55 #[.int .i64 a0, .int .i64 a1] w fun e w' => e = .returned (.int .i64 r) ∧ Below w.heap.size w w' := by
 have HB := Aside0.mk (Below.refl w.heap.size w); have H : (if a1 = (-9223372036854775808) then ((safe_Add.f a0 9223372036854775807).bind fun t330 => ((safe_unit.f a0).bind fun t331 => ((safe_Add.f t330 (wrap64 t331)).bind fun t332 => (some t332)))) else ((safe_Add.f a0 (wrap64 (-a1))).bind fun t333 => (some t333))) = some r := h; clear h
 by_cases c3 : a1 = (-9223372036854775808)
 ·rw [if_pos c3] at H
  have c3b0 : (a1 == (-9223372036854775808)) = true := beq_iff_eq.mpr c3; have c3b1 : (a1 != (-9223372036854775808)) = false := bne_eq_false_iff_eq.mpr c3; clear c3; replace H := Option.bind_eq_some_iff.mp H; obtain ⟨t330, A40, H⟩ := H; replace H : ((safe_unit.f a0).bind fun t331 => ((safe_Add.f t330 (wrap64 t331)).bind fun t332 => (some t332))) = some r := H; have A4 := Aside0.mk A40; clear A40; replace H := Option.bind_eq_some_iff.mp H; obtain ⟨t331, A50, H⟩ := H; replace H : ((safe_Add.f t330 (wrap64 t331)).bind fun t332 => (some t332)) = some r := H; have A5 := Aside0.mk A50; clear A50; replace H := Option.bind_eq_some_iff.mp H; obtain ⟨t332, A60, H⟩ := H; replace H : (some t332) = some r := H; have A6 := Aside0.mk A60; clear A60; obtain rfl := Option.some.inj H
  go_enter Tryz.func55, Tryz.ntmps55
  go_wp2_with (first | ((with_reducible refine gate_callee (f := 24) rfl ?_); refine goesLA_ (some 8) rfl rfl Tryz.func24 rfl #[.int .i64 a0, .int .i64 9223372036854775807] rfl ?_; (with_reducible refine (safe_Add.calls a0 9223372036854775807 t330 _ A4.out).mono ?_); rintro e w7 ⟨rfl, hb⟩; refine ⟨_, rfl, ?_⟩; replace HB := stA hb; clear hb) | ((with_reducible refine gate_callee (f := 114) rfl ?_); refine goesLA_ (some 10) rfl rfl Tryz.func114 rfl #[.int .i64 a0] rfl ?_; (with_reducible refine (safe_unit.calls a0 t331 _ A5.out).mono ?_); rintro e w' ⟨rfl, ⟨nd, rfl⟩⟩; refine ⟨_, rfl, ?_⟩) | ((with_reducible refine gate_callee (f := 24) rfl ?_); refine goesLA_ (some 12) rfl rfl Tryz.func24 rfl #[.int .i64 t330, .int .i64 (wrap64 t331)] rfl ?_; (with_reducible refine (safe_Add.calls t330 (wrap64 t331) t332 _ A6.out).mono ?_); rintro e w8 ⟨rfl, hb⟩; refine ⟨_, rfl, ?_⟩; replace HB := stA hb; clear hb))
  go_ret
  exact ⟨by first | rfl | (simp [errW_none, errW_some] <;> rfl) | (simp [*, errW_none, errW_some] <;> rfl), by repeat (first | (with_reducible first | exact HB.out | apply below_alloc | apply pw_below_drewN | apply below_drew1) | exact HB.out)⟩
 ·rw [if_neg c3] at H
  have c3b0 : (a1 == (-9223372036854775808)) = false := beq_eq_false_iff_ne.mpr c3; have c3b1 : (a1 != (-9223372036854775808)) = true := bne_iff_ne.mpr c3; replace H := Option.bind_eq_some_iff.mp H; obtain ⟨t333, A90, H⟩ := H; replace H : (some t333) = some r := H; have A9 := Aside0.mk A90; clear A90; obtain rfl := Option.some.inj H
  go_enter Tryz.func55, Tryz.ntmps55
  go_wp2_with (first | ((with_reducible refine gate_callee (f := 24) rfl ?_); refine goesLA_ (some 16) rfl rfl Tryz.func24 rfl #[.int .i64 a0, .int .i64 (wrap64 (-a1))] rfl ?_; (with_reducible refine (safe_Add.calls a0 (wrap64 (-a1)) t333 _ A9.out).mono ?_); rintro e w10 ⟨rfl, hb⟩; refine ⟨_, rfl, ?_⟩; replace HB := stA hb; clear hb))
  go_ret
  exact ⟨by first | rfl | (simp [errW_none, errW_some] <;> rfl) | (simp [*, errW_none, errW_some] <;> rfl), by repeat (first | (with_reducible first | exact HB.out | apply below_alloc | apply pw_below_drewN | apply below_drew1) | exact HB.out)⟩

/-! ### safe_SubS: pure, behind function 55 -/
section
open Go.Proofs.YtfahbgkoldoflaaGreatDoor.Sp
noncomputable def safe_SubS.f (a : Int) (b : Int) : Option (Int) := need (I a ∧ I b) (some (near (a - b)))
theorem safe_SubS.eq {a : Int} {b : Int} (h1 : I a) (h2 : I b) : safe_SubS.f a b = some (near (a - b)) := need_pos ⟨h1, h2⟩
theorem safe_Sub.main {a : Int} {b : Int} (h1 : I a) (h2 : I b) : safe_Sub.f a b = some (near (a - b)) := by
 unfold safe_Sub.f safe_unit.f
 by_cases hb : b = -9223372036854775808
 ·rw [if_pos hb, safe_Add.eq h1 (by omega)]
  simp only [Option.bind_some]
  by_cases ha : a < 0
  ·rw [if_pos ha]
   simp only [Option.bind_some]
   rw [w64 (x := 1) (by omega), safe_Add.eq (near_I _) (by omega)]
   simp only [Option.bind_some]
   rw [near_in (v := a + 9223372036854775807) (by omega)]
   congr 2; omega
  ·rw [if_neg ha]
   simp only [Option.bind_some]
   rw [w64 (x := 0) (by omega), safe_Add.eq (near_I _) (by omega)]
   simp only [Option.bind_some]; have e1 : near (a - b) = 9223372036854775807 := near_hi (by omega)
   have e2 : near (a + 9223372036854775807) = 9223372036854775807 := by unfold near; split <;> (try split) <;> omega
   rw [e1, e2, near_in (by omega)]
   rfl
 ·rw [if_neg hb, w64 (x := -b) (by omega), safe_Add.eq h1 (by omega)]
  simp only [Option.bind_some]
  congr 2
end
theorem safe_SubS.calls (a0 : Int) (a1 : Int) (r : Int) (w : World) (h : safe_SubS.f a0 a1 = some r) :
  Calls Tryz.prog 55 #[.int .i64 a0, .int .i64 a1] w fun e w' => e = .returned (.int .i64 r) ∧ Below w.heap.size w w' := by
 obtain ⟨hc, h⟩ := Sp.need_some h; obtain ⟨h1, h2⟩ := hc; exact safe_Sub.calls a0 a1 r w (by rw [safe_Sub.main h1 h2]; exact h)

/-! ### guide_Idle: function 77 -/
noncomputable def guide_Idle.f (a0 : Int) (a1 : Int) (a2 : Int) (a3 : Int) (a4_0 : Int) (a4_1 : Int) (a4_2 : Int) (a4_3 : Int) (a4_4 : Int) (a4_5 : Int) (a4_6 : Int) : Option (Int) := (safe_SubS.f a2 a1).bind fun t335 => (if t335 ≤ a3 then (some a0) else ((guide_First.f a4_0 a4_1 a4_2 a4_3 a4_4 a4_5 a4_6).bind fun t336 => (some (mx (mn a0 t336) 131072))))
set_option maxHeartbeats 8000000 in
set_option maxRecDepth 100000 in
theorem guide_Idle.calls (a0 : Int) (a1 : Int) (a2 : Int) (a3 : Int) (a4_0 : Int) (a4_1 : Int) (a4_2 : Int) (a4_3 : Int) (a4_4 : Int) (a4_5 : Int) (a4_6 : Int) (r : Int) (w : World) (h : guide_Idle.f a0 a1 a2 a3 a4_0 a4_1 a4_2 a4_3 a4_4 a4_5 a4_6 = some r) :
  Calls Tryz.prog 77 #[.int .i64 a0, .int .i64 a1, .int .i64 a2, .int .i64 a3, .agg #[.int .i64 a4_0, .int .i64 a4_1, .int .i64 a4_2, .int .i64 a4_3, .int .i64 a4_4, .int .i64 a4_5, .int .i64 a4_6]] w fun e w' => e = .returned (.int .i64 r) ∧ Below w.heap.size w w' := by
 have hu33 := Tryz.underlying33; have HB := Aside0.mk (Below.refl w.heap.size w); have H : ((safe_SubS.f a2 a1).bind fun t335 => (if t335 ≤ a3 then (some a0) else ((guide_First.f a4_0 a4_1 a4_2 a4_3 a4_4 a4_5 a4_6).bind fun t336 => (some (mx (mn a0 t336) 131072))))) = some r := h; clear h; replace H := Option.bind_eq_some_iff.mp H; obtain ⟨t335, A60, H⟩ := H; replace H : (if t335 ≤ a3 then (some a0) else ((guide_First.f a4_0 a4_1 a4_2 a4_3 a4_4 a4_5 a4_6).bind fun t336 => (some (mx (mn a0 t336) 131072)))) = some r := H; have A6 := Aside0.mk A60; clear A60
 by_cases c7 : t335 ≤ a3
 ·rw [if_pos c7] at H
  have c7b0 : decide (t335 ≤ a3) = true := decide_eq_true c7; clear c7; obtain rfl := Option.some.inj H
  go_enter Tryz.func77, Tryz.ntmps77
  go_wp2_with (first | ((with_reducible refine gate_dst (N := 9) rfl ?_); refine box_event ?hg (N := 9) ?hd (cs := #[.int .i64 a4_0, .int .i64 a4_1, .int .i64 a4_2, .int .i64 a4_3, .int .i64 a4_4, .int .i64 a4_5, .int .i64 a4_6]) (t := 33) ?hr ?_; (case hd => rfl); (case hg => rfl); (case hr => first | (go_simp; done) | (go_simp; rfl)); intro gb334 hg w8 hbox hb; have BK334 := Aside0.mk (hbox); obtain ⟨GW334, nHB⟩ := geA hg hb; have GE334 := GW334; replace HB := nHB; clear nHB; clear hb hbox hg) | ((with_reducible refine gate_callee (f := 55) rfl ?_); refine goesLA_ (some 13) rfl rfl Tryz.func55 rfl #[.int .i64 a2, .int .i64 a1] rfl ?_; (with_reducible refine (safe_SubS.calls a2 a1 t335 _ A6.out).mono ?_); rintro e w9 ⟨rfl, hb⟩; refine ⟨_, rfl, ?_⟩; replace BK334 := bdZ BK334 hb; replace HB := stA hb; clear hb))
  go_ret
  exact ⟨by first | rfl | (simp [errW_none, errW_some] <;> rfl) | (simp [*, errW_none, errW_some] <;> rfl), by repeat (first | (with_reducible first | exact HB.out | apply below_alloc | apply pw_below_drewN | apply below_drew1 | refine below_set ?_ GE334.out) | exact HB.out)⟩
 ·rw [if_neg c7] at H
  have c7b0 : decide (t335 ≤ a3) = false := decide_eq_false c7; clear c7; replace H := Option.bind_eq_some_iff.mp H; obtain ⟨t336, A100, H⟩ := H; replace H : (some (mx (mn a0 t336) 131072)) = some r := H; have A10 := Aside0.mk A100; clear A100
  obtain ⟨ji11, hji11⟩ : ∃ j_ : Int, (mn a0 t336) = j_ := ⟨_, rfl⟩
  replace H : (some (mx (ji11) 131072)) = some r := by first | (rw [hji11] at H; exact H) | (simp only [hji11] at H ⊢; exact H)
  (try rw [hji11] at A6)
  (try rw [hji11] at A10)
  have hji11_ : (if t336 < a0 then t336 else a0) = ji11 := hji11
  obtain ⟨ji12, hji12⟩ : ∃ j_ : Int, (mx (ji11) 131072) = j_ := ⟨_, rfl⟩
  replace H : (some ji12) = some r := by first | (rw [hji12] at H; exact H) | (simp only [hji12] at H ⊢; exact H)
  (try rw [hji12] at A6)
  (try rw [hji12] at A10)
  have hji12_ : (if (ji11) < 131072 then 131072 else (ji11)) = ji12 := hji12; obtain rfl := Option.some.inj H
  go_enter Tryz.func77, Tryz.ntmps77
  go_wp2_with (first | ((with_reducible refine gate_dst (N := 9) rfl ?_); refine box_event ?hg (N := 9) ?hd (cs := #[.int .i64 a4_0, .int .i64 a4_1, .int .i64 a4_2, .int .i64 a4_3, .int .i64 a4_4, .int .i64 a4_5, .int .i64 a4_6]) (t := 33) ?hr ?_; (case hd => rfl); (case hg => rfl); (case hr => first | (go_simp; done) | (go_simp; rfl)); intro gb334 hg w13 hbox hb; have BK334 := Aside0.mk (hbox); obtain ⟨GW334, nHB⟩ := geA hg hb; have GE334 := GW334; replace HB := nHB; clear nHB; clear hb hbox hg) | ((with_reducible refine gate_callee (f := 55) rfl ?_); refine goesLA_ (some 13) rfl rfl Tryz.func55 rfl #[.int .i64 a2, .int .i64 a1] rfl ?_; (with_reducible refine (safe_SubS.calls a2 a1 t335 _ A6.out).mono ?_); rintro e w14 ⟨rfl, hb⟩; refine ⟨_, rfl, ?_⟩; replace BK334 := bdZ BK334 hb; replace HB := stA hb; clear hb; have hcz15_0 := czZ BK334 0 (.int .i64 a4_0); have hcz15_1 := czZ BK334 1 (.int .i64 a4_1); have hcz15_2 := czZ BK334 2 (.int .i64 a4_2); have hcz15_3 := czZ BK334 3 (.int .i64 a4_3); have hcz15_4 := czZ BK334 4 (.int .i64 a4_4); have hcz15_5 := czZ BK334 5 (.int .i64 a4_5); have hcz15_6 := czZ BK334 6 (.int .i64 a4_6); have hfz15_0 := blk_frozen BK334.out 0; have hfz15_1 := blk_frozen BK334.out 1; have hfz15_2 := blk_frozen BK334.out 2; have hfz15_3 := blk_frozen BK334.out 3; have hfz15_4 := blk_frozen BK334.out 4; have hfz15_5 := blk_frozen BK334.out 5; have hfz15_6 := blk_frozen BK334.out 6) | ((with_reducible refine gate_callee (f := 26) rfl ?_); refine goesLA_ (some 19) rfl rfl Tryz.func26 rfl #[.agg #[.int .i64 a4_0, .int .i64 a4_1, .int .i64 a4_2, .int .i64 a4_3, .int .i64 a4_4, .int .i64 a4_5, .int .i64 a4_6]] rfl ?_; (with_reducible refine (guide_First.calls a4_0 a4_1 a4_2 a4_3 a4_4 a4_5 a4_6 t336 _ A10.out).mono ?_); rintro e w16 ⟨rfl, hb⟩; refine ⟨_, rfl, ?_⟩; replace BK334 := bdZ BK334 hb; replace HB := stA hb; clear hb))
  go_ret
  exact ⟨by first | rfl | (simp [errW_none, errW_some] <;> rfl) | (simp only [← hji11, ← hji12]; first | rfl | (simp [errW_none, errW_some] <;> rfl)) | (simp [*, errW_none, errW_some] <;> rfl), by repeat (first | (with_reducible first | exact HB.out | apply below_alloc | apply pw_below_drewN | apply below_drew1 | refine below_set ?_ GE334.out) | exact HB.out)⟩

/-! ### epoch_Shift: function 128 -/
noncomputable def epoch_Shift.f (a0_0 : Bool) (a0_1 : Int) (a0_2 : Int) (a0_3 : Int) (a0_4 : Int) (a0_5 : Int) (a1 : Int) : Option (Bool × Int × Int × Int × Int × Int) := if a0_0 = true then (if a1 > 0 then ((safe_Add.f a0_1 a1).bind fun t339 => (some (a0_0, mn t339 1099511627776, a0_2, a0_3, a0_4, a0_5))) else (some (a0_0, a0_1, a0_2, a0_3, a0_4, a0_5))) else (some (a0_0, a0_1, a0_2, a0_3, a0_4, a0_5))
set_option maxHeartbeats 8000000 in
set_option maxRecDepth 100000 in
theorem epoch_Shift.calls (a0_0 : Bool) (a0_1 : Int) (a0_2 : Int) (a0_3 : Int) (a0_4 : Int) (a0_5 : Int) (a1 : Int) (r1 : Bool) (r2 : Int) (r3 : Int) (r4 : Int) (r5 : Int) (r6 : Int) (w : World) (h : epoch_Shift.f a0_0 a0_1 a0_2 a0_3 a0_4 a0_5 a1 = some (r1, r2, r3, r4, r5, r6)) :
  Calls Tryz.prog 128 #[.agg #[.bool a0_0, .int .i64 a0_1, .int .i64 a0_2, .int .i64 a0_3, .int .i64 a0_4, .int .i64 a0_5], .int .i64 a1] w fun e w' => e = .returned (.agg #[.bool r1, .int .i64 r2, .int .i64 r3, .int .i64 r4, .int .i64 r5, .int .i64 r6]) ∧ Below w.heap.size w w' := by
 have hu25 := Tryz.underlying25; have HB := Aside0.mk (Below.refl w.heap.size w); have H : (if a0_0 = true then (if a1 > 0 then ((safe_Add.f a0_1 a1).bind fun t339 => (some (a0_0, mn t339 1099511627776, a0_2, a0_3, a0_4, a0_5))) else (some (a0_0, a0_1, a0_2, a0_3, a0_4, a0_5))) else (some (a0_0, a0_1, a0_2, a0_3, a0_4, a0_5))) = some (r1, r2, r3, r4, r5, r6) := h; clear h
 by_cases c3 : a0_0 = true
 ·subst c3
  have H1 : (if a1 > 0 then ((safe_Add.f a0_1 a1).bind fun t339 => (some (true, mn t339 1099511627776, a0_2, a0_3, a0_4, a0_5))) else (some (true, a0_1, a0_2, a0_3, a0_4, a0_5))) = some (r1, r2, r3, r4, r5, r6) := by rw [if_pos rfl] at H; exact H
  clear H; have H := H1; clear H1
  by_cases c4 : a1 > 0
  ·rw [if_pos c4] at H
   have c4b0 : decide (0 < a1) = true := decide_eq_true c4; clear c4; replace H := Option.bind_eq_some_iff.mp H; obtain ⟨t339, A50, H⟩ := H; replace H : (some (true, mn t339 1099511627776, a0_2, a0_3, a0_4, a0_5)) = some (r1, r2, r3, r4, r5, r6) := H; have A5 := Aside0.mk A50; clear A50
   obtain ⟨ji6, hji6⟩ : ∃ j_ : Int, (mn t339 1099511627776) = j_ := ⟨_, rfl⟩
   replace H : (some (true, ji6, a0_2, a0_3, a0_4, a0_5)) = some (r1, r2, r3, r4, r5, r6) := by first | (rw [hji6] at H; exact H) | (simp only [hji6] at H ⊢; exact H)
   (try rw [hji6] at A5)
   (try (have hji6h : ji6 ≤ 1099511627776 := by (rw [← hji6]; unfold mn; (repeat' split) <;> omega)))
   (try (have hji6g : ji6 ≤ 64 := by omega))
   have hji6_ : (if 1099511627776 < t339 then 1099511627776 else t339) = ji6 := hji6; simp only [Option.some.injEq, Prod.mk.injEq] at H; obtain ⟨rfl, rfl, rfl, rfl, rfl, rfl⟩ := H
   go_enter Tryz.func128, Tryz.ntmps128
   go_wp2_with (first | ((with_reducible refine gate_dst (N := 2) rfl ?_); refine box_event ?hg (N := 2) ?hd (cs := #[.bool true, .int .i64 a0_1, .int .i64 a0_2, .int .i64 a0_3, .int .i64 a0_4, .int .i64 a0_5]) (t := 25) ?hr ?_; (case hd => rfl); (case hg => rfl); (case hr => first | (go_simp; done) | (go_simp; rfl)); intro gb337 hg w7 hbox hb; have BK337 := Aside0.mk (hbox); obtain ⟨GW337, nHB⟩ := geA hg hb; have GE337 := GW337; replace HB := nHB; clear nHB; clear hb hbox hg) | ((with_reducible refine gate_dst (N := 4) rfl ?_); refine box_event ?hg (N := 4) ?hd (cs := #[.bool false, .int .i64 0, .int .i64 0, .int .i64 0, .int .i64 0, .int .i64 0]) (t := 25) ?hr ?_; (case hd => rfl); (case hg => rfl); (case hr => first | (go_simp; done) | (go_simp; rfl)); intro gb338 hg w8 hbox hb; have BK338 := Aside0.mk (hbox); obtain ⟨GW338, nHB⟩ := geA hg hb; have GE338 := GW338; obtain ⟨NB337_338, NB338_337, nBK⟩ := nbA BK337 hg hb; replace BK337 := nBK; clear nBK; replace HB := nHB; clear nHB; clear hb hbox hg; have hnb9 := NB337_338.out; have hnc9 := NB338_337.out; have hcz10_0 := czZ BK337 0 (.bool true); have hcz10_1 := czZ BK337 1 (.int .i64 a0_1); have hcz10_2 := czZ BK337 2 (.int .i64 a0_2); have hcz10_3 := czZ BK337 3 (.int .i64 a0_3); have hcz10_4 := czZ BK337 4 (.int .i64 a0_4); have hcz10_5 := czZ BK337 5 (.int .i64 a0_5); have hfz10_0 := blk_frozen BK337.out 0; have hfz10_1 := blk_frozen BK337.out 1; have hfz10_2 := blk_frozen BK337.out 2; have hfz10_3 := blk_frozen BK337.out 3; have hfz10_4 := blk_frozen BK337.out 4; have hfz10_5 := blk_frozen BK337.out 5) | ((with_reducible refine gate_callee (f := 24) rfl ?_); refine goesLA_ (some 14) rfl rfl Tryz.func24 rfl #[.int .i64 a0_1, .int .i64 a1] rfl ?_; (with_reducible refine (safe_Add.calls a0_1 a1 t339 _ A5.out).mono ?_); rintro e w11 ⟨rfl, hb⟩; refine ⟨_, rfl, ?_⟩; replace BK337 := bdZ BK337 hb; replace BK338 := bdZ BK338 hb; replace HB := stA hb; clear hb; have hcz12_0 := czZ BK337 0 (.bool true); have hcz12_1 := czZ BK337 1 (.int .i64 a0_1); have hcz12_2 := czZ BK337 2 (.int .i64 a0_2); have hcz12_3 := czZ BK337 3 (.int .i64 a0_3); have hcz12_4 := czZ BK337 4 (.int .i64 a0_4); have hcz12_5 := czZ BK337 5 (.int .i64 a0_5); have hfz12_0 := blk_frozen BK337.out 0; have hfz12_1 := blk_frozen BK337.out 1; have hfz12_2 := blk_frozen BK337.out 2; have hfz12_3 := blk_frozen BK337.out 3; have hfz12_4 := blk_frozen BK337.out 4; have hfz12_5 := blk_frozen BK337.out 5; have hcz13_0 := czZ BK338 0 (.bool false); have hcz13_1 := czZ BK338 1 (.int .i64 0); have hcz13_2 := czZ BK338 2 (.int .i64 0); have hcz13_3 := czZ BK338 3 (.int .i64 0); have hcz13_4 := czZ BK338 4 (.int .i64 0); have hcz13_5 := czZ BK338 5 (.int .i64 0); have hfz13_0 := blk_frozen BK338.out 0; have hfz13_1 := blk_frozen BK338.out 1; have hfz13_2 := blk_frozen BK338.out 2; have hfz13_3 := blk_frozen BK338.out 3; have hfz13_4 := blk_frozen BK338.out 4; have hfz13_5 := blk_frozen BK338.out 5))
   refine bodyPost_ret (results_cell_row rfl _ _ gb338 25 #[.bool true, .int .i64 ji6, .int .i64 a0_2, .int .i64 a0_3, .int .i64 a0_4, .int .i64 a0_5] (0, 0) _ rfl (by (with_reducible repeat first | apply blk_drewN | apply blk_drew | apply blk_alloc); refine blk_put (cs := #[.bool true, .int .i64 ji6, .int .i64 a0_2, .int .i64 a0_3, .int .i64 a0_4, .int .i64 0]) ?_ 5 _ rfl; (with_reducible repeat first | apply blk_drewN | apply blk_drew | apply blk_alloc); refine blk_put (cs := #[.bool true, .int .i64 ji6, .int .i64 a0_2, .int .i64 a0_3, .int .i64 0, .int .i64 0]) ?_ 4 _ rfl; (with_reducible repeat first | apply blk_drewN | apply blk_drew | apply blk_alloc); refine blk_put (cs := #[.bool true, .int .i64 ji6, .int .i64 a0_2, .int .i64 0, .int .i64 0, .int .i64 0]) ?_ 3 _ rfl; (with_reducible repeat first | apply blk_drewN | apply blk_drew | apply blk_alloc); refine blk_put (cs := #[.bool true, .int .i64 ji6, .int .i64 0, .int .i64 0, .int .i64 0, .int .i64 0]) ?_ 2 _ rfl; (with_reducible repeat first | apply blk_drewN | apply blk_drew | apply blk_alloc); refine blk_put (cs := #[.bool true, .int .i64 0, .int .i64 0, .int .i64 0, .int .i64 0, .int .i64 0]) ?_ 1 _ rfl; (with_reducible repeat first | apply blk_drewN | apply blk_drew | apply blk_alloc); refine blk_put (cs := #[.bool false, .int .i64 0, .int .i64 0, .int .i64 0, .int .i64 0, .int .i64 0]) ?_ 0 _ rfl; (with_reducible repeat first | apply blk_drewN | apply blk_drew | apply blk_alloc); refine blk_far ?_ NB338_337.out _; (with_reducible repeat first | apply blk_drewN | apply blk_drew | apply blk_alloc); exact BK338.out) Tryz.underlying25 rfl (by kernel_rfl)) rfl ?_; exact ⟨by first | rfl | (simp [errW_none, errW_some] <;> rfl) | (simp only [← hji6]; first | rfl | (simp [errW_none, errW_some] <;> rfl)) | (simp [*, errW_none, errW_some] <;> rfl), by repeat (first | (with_reducible first | exact HB.out | apply below_alloc | apply pw_below_drewN | apply below_drew1 | refine below_set ?_ (Aside0.out (by assumption))) | exact HB.out)⟩
  ·rw [if_neg c4] at H
   have c4b0 : decide (0 < a1) = false := decide_eq_false c4; clear c4; simp only [Option.some.injEq, Prod.mk.injEq] at H; obtain ⟨rfl, rfl, rfl, rfl, rfl, rfl⟩ := H
   go_enter Tryz.func128, Tryz.ntmps128
   go_wp2_with (first | ((with_reducible refine gate_dst (N := 2) rfl ?_); refine box_event ?hg (N := 2) ?hd (cs := #[.bool true, .int .i64 a0_1, .int .i64 a0_2, .int .i64 a0_3, .int .i64 a0_4, .int .i64 a0_5]) (t := 25) ?hr ?_; (case hd => rfl); (case hg => rfl); (case hr => first | (go_simp; done) | (go_simp; rfl)); intro gb337 hg w14 hbox hb; have BK337 := Aside0.mk (hbox); obtain ⟨GW337, nHB⟩ := geA hg hb; have GE337 := GW337; replace HB := nHB; clear nHB; clear hb hbox hg) | ((with_reducible refine gate_dst (N := 4) rfl ?_); refine box_event ?hg (N := 4) ?hd (cs := #[.bool false, .int .i64 0, .int .i64 0, .int .i64 0, .int .i64 0, .int .i64 0]) (t := 25) ?hr ?_; (case hd => rfl); (case hg => rfl); (case hr => first | (go_simp; done) | (go_simp; rfl)); intro gb338 hg w15 hbox hb; have BK338 := Aside0.mk (hbox); obtain ⟨GW338, nHB⟩ := geA hg hb; have GE338 := GW338; obtain ⟨NB337_338, NB338_337, nBK⟩ := nbA BK337 hg hb; replace BK337 := nBK; clear nBK; replace HB := nHB; clear nHB; clear hb hbox hg; have hnb16 := NB337_338.out; have hnc16 := NB338_337.out; have hcz17_0 := czZ BK337 0 (.bool true); have hcz17_1 := czZ BK337 1 (.int .i64 a0_1); have hcz17_2 := czZ BK337 2 (.int .i64 a0_2); have hcz17_3 := czZ BK337 3 (.int .i64 a0_3); have hcz17_4 := czZ BK337 4 (.int .i64 a0_4); have hcz17_5 := czZ BK337 5 (.int .i64 a0_5); have hfz17_0 := blk_frozen BK337.out 0; have hfz17_1 := blk_frozen BK337.out 1; have hfz17_2 := blk_frozen BK337.out 2; have hfz17_3 := blk_frozen BK337.out 3; have hfz17_4 := blk_frozen BK337.out 4; have hfz17_5 := blk_frozen BK337.out 5; have hcz18_0 := czZ BK338 0 (.bool false); have hcz18_1 := czZ BK338 1 (.int .i64 0); have hcz18_2 := czZ BK338 2 (.int .i64 0); have hcz18_3 := czZ BK338 3 (.int .i64 0); have hcz18_4 := czZ BK338 4 (.int .i64 0); have hcz18_5 := czZ BK338 5 (.int .i64 0); have hfz18_0 := blk_frozen BK338.out 0; have hfz18_1 := blk_frozen BK338.out 1; have hfz18_2 := blk_frozen BK338.out 2; have hfz18_3 := blk_frozen BK338.out 3; have hfz18_4 := blk_frozen BK338.out 4; have hfz18_5 := blk_frozen BK338.out 5))
   refine bodyPost_ret (results_cell_row rfl _ _ gb338 25 #[.bool true, .int .i64 a0_1, .int .i64 a0_2, .int .i64 a0_3, .int .i64 a0_4, .int .i64 a0_5] (0, 0) _ rfl (by (with_reducible repeat first | apply blk_drewN | apply blk_drew | apply blk_alloc); refine blk_put (cs := #[.bool true, .int .i64 a0_1, .int .i64 a0_2, .int .i64 a0_3, .int .i64 a0_4, .int .i64 0]) ?_ 5 _ rfl; (with_reducible repeat first | apply blk_drewN | apply blk_drew | apply blk_alloc); refine blk_put (cs := #[.bool true, .int .i64 a0_1, .int .i64 a0_2, .int .i64 a0_3, .int .i64 0, .int .i64 0]) ?_ 4 _ rfl; (with_reducible repeat first | apply blk_drewN | apply blk_drew | apply blk_alloc); refine blk_put (cs := #[.bool true, .int .i64 a0_1, .int .i64 a0_2, .int .i64 0, .int .i64 0, .int .i64 0]) ?_ 3 _ rfl; (with_reducible repeat first | apply blk_drewN | apply blk_drew | apply blk_alloc); refine blk_put (cs := #[.bool true, .int .i64 a0_1, .int .i64 0, .int .i64 0, .int .i64 0, .int .i64 0]) ?_ 2 _ rfl; (with_reducible repeat first | apply blk_drewN | apply blk_drew | apply blk_alloc); refine blk_put (cs := #[.bool true, .int .i64 0, .int .i64 0, .int .i64 0, .int .i64 0, .int .i64 0]) ?_ 1 _ rfl; (with_reducible repeat first | apply blk_drewN | apply blk_drew | apply blk_alloc); refine blk_put (cs := #[.bool false, .int .i64 0, .int .i64 0, .int .i64 0, .int .i64 0, .int .i64 0]) ?_ 0 _ rfl; (with_reducible repeat first | apply blk_drewN | apply blk_drew | apply blk_alloc); exact BK338.out) Tryz.underlying25 rfl (by kernel_rfl)) rfl ?_; exact ⟨by first | rfl | (simp [errW_none, errW_some] <;> rfl) | (simp [*, errW_none, errW_some] <;> rfl), by repeat (first | (with_reducible first | exact HB.out | apply below_alloc | apply pw_below_drewN | apply below_drew1 | refine below_set ?_ (Aside0.out (by assumption))) | exact HB.out)⟩
 ·replace c3 := Bool.eq_false_iff.mpr c3
  subst c3
  have H1 : (some (false, a0_1, a0_2, a0_3, a0_4, a0_5)) = some (r1, r2, r3, r4, r5, r6) := by rw [if_neg (show ¬ (false = true) by decide)] at H; exact H
  clear H; have H := H1; clear H1; simp only [Option.some.injEq, Prod.mk.injEq] at H; obtain ⟨rfl, rfl, rfl, rfl, rfl, rfl⟩ := H
  go_enter Tryz.func128, Tryz.ntmps128
  go_wp2_with (first | ((with_reducible refine gate_dst (N := 2) rfl ?_); refine box_event ?hg (N := 2) ?hd (cs := #[.bool false, .int .i64 a0_1, .int .i64 a0_2, .int .i64 a0_3, .int .i64 a0_4, .int .i64 a0_5]) (t := 25) ?hr ?_; (case hd => rfl); (case hg => rfl); (case hr => first | (go_simp; done) | (go_simp; rfl)); intro gb337 hg w19 hbox hb; have BK337 := Aside0.mk (hbox); obtain ⟨GW337, nHB⟩ := geA hg hb; have GE337 := GW337; replace HB := nHB; clear nHB; clear hb hbox hg) | ((with_reducible refine gate_dst (N := 4) rfl ?_); refine box_event ?hg (N := 4) ?hd (cs := #[.bool false, .int .i64 0, .int .i64 0, .int .i64 0, .int .i64 0, .int .i64 0]) (t := 25) ?hr ?_; (case hd => rfl); (case hg => rfl); (case hr => first | (go_simp; done) | (go_simp; rfl)); intro gb338 hg w20 hbox hb; have BK338 := Aside0.mk (hbox); obtain ⟨GW338, nHB⟩ := geA hg hb; have GE338 := GW338; obtain ⟨NB337_338, NB338_337, nBK⟩ := nbA BK337 hg hb; replace BK337 := nBK; clear nBK; replace HB := nHB; clear nHB; clear hb hbox hg; have hnb21 := NB337_338.out; have hnc21 := NB338_337.out; have hcz22_0 := czZ BK337 0 (.bool false); have hcz22_1 := czZ BK337 1 (.int .i64 a0_1); have hcz22_2 := czZ BK337 2 (.int .i64 a0_2); have hcz22_3 := czZ BK337 3 (.int .i64 a0_3); have hcz22_4 := czZ BK337 4 (.int .i64 a0_4); have hcz22_5 := czZ BK337 5 (.int .i64 a0_5); have hfz22_0 := blk_frozen BK337.out 0; have hfz22_1 := blk_frozen BK337.out 1; have hfz22_2 := blk_frozen BK337.out 2; have hfz22_3 := blk_frozen BK337.out 3; have hfz22_4 := blk_frozen BK337.out 4; have hfz22_5 := blk_frozen BK337.out 5; have hcz23_0 := czZ BK338 0 (.bool false); have hcz23_1 := czZ BK338 1 (.int .i64 0); have hcz23_2 := czZ BK338 2 (.int .i64 0); have hcz23_3 := czZ BK338 3 (.int .i64 0); have hcz23_4 := czZ BK338 4 (.int .i64 0); have hcz23_5 := czZ BK338 5 (.int .i64 0); have hfz23_0 := blk_frozen BK338.out 0; have hfz23_1 := blk_frozen BK338.out 1; have hfz23_2 := blk_frozen BK338.out 2; have hfz23_3 := blk_frozen BK338.out 3; have hfz23_4 := blk_frozen BK338.out 4; have hfz23_5 := blk_frozen BK338.out 5))
  refine bodyPost_ret (results_cell_row rfl _ _ gb338 25 #[.bool false, .int .i64 a0_1, .int .i64 a0_2, .int .i64 a0_3, .int .i64 a0_4, .int .i64 a0_5] (0, 0) _ rfl (by (with_reducible repeat first | apply blk_drewN | apply blk_drew | apply blk_alloc); refine blk_put (cs := #[.bool false, .int .i64 a0_1, .int .i64 a0_2, .int .i64 a0_3, .int .i64 a0_4, .int .i64 0]) ?_ 5 _ rfl; (with_reducible repeat first | apply blk_drewN | apply blk_drew | apply blk_alloc); refine blk_put (cs := #[.bool false, .int .i64 a0_1, .int .i64 a0_2, .int .i64 a0_3, .int .i64 0, .int .i64 0]) ?_ 4 _ rfl; (with_reducible repeat first | apply blk_drewN | apply blk_drew | apply blk_alloc); refine blk_put (cs := #[.bool false, .int .i64 a0_1, .int .i64 a0_2, .int .i64 0, .int .i64 0, .int .i64 0]) ?_ 3 _ rfl; (with_reducible repeat first | apply blk_drewN | apply blk_drew | apply blk_alloc); refine blk_put (cs := #[.bool false, .int .i64 a0_1, .int .i64 0, .int .i64 0, .int .i64 0, .int .i64 0]) ?_ 2 _ rfl; (with_reducible repeat first | apply blk_drewN | apply blk_drew | apply blk_alloc); refine blk_put (cs := #[.bool false, .int .i64 0, .int .i64 0, .int .i64 0, .int .i64 0, .int .i64 0]) ?_ 1 _ rfl; (with_reducible repeat first | apply blk_drewN | apply blk_drew | apply blk_alloc); refine blk_put (cs := #[.bool false, .int .i64 0, .int .i64 0, .int .i64 0, .int .i64 0, .int .i64 0]) ?_ 0 _ rfl; (with_reducible repeat first | apply blk_drewN | apply blk_drew | apply blk_alloc); exact BK338.out) Tryz.underlying25 rfl (by kernel_rfl)) rfl ?_; exact ⟨by first | rfl | (simp [errW_none, errW_some] <;> rfl) | (simp [*, errW_none, errW_some] <;> rfl), by repeat (first | (with_reducible first | exact HB.out | apply below_alloc | apply pw_below_drewN | apply below_drew1 | refine below_set ?_ (Aside0.out (by assumption))) | exact HB.out)⟩

/-! ### epoch_ShiftS: pure, behind function 128 -/
section
open Go.Proofs.YtfahbgkoldoflaaGreatDoor.Sp
noncomputable def epoch_ShiftS.f (on : Bool) (s : Int) (f : Int) (m : Int) (k : Int) (e : Int) (d : Int) : Option (Bool × Int × Int × Int × Int × Int) := need ((I s) ∧ (I d)) (some (on, laterQ on s d, f, m, k, e))
theorem epoch_ShiftS.eq {on : Bool} {s : Int} {f : Int} {m : Int} {k : Int} {e : Int} {d : Int} (h1 : I s) (h2 : I d) : epoch_ShiftS.f on s f m k e d = some (on, laterQ on s d, f, m, k, e) := need_pos ⟨h1, h2⟩
theorem epoch_Shift.main {on : Bool} {s : Int} {f : Int} {m : Int} {k : Int} {e : Int} {d : Int} (h1 : I s) (h2 : I d) : epoch_Shift.f on s f m k e d = some (on, laterQ on s d, f, m, k, e) := by
 unfold epoch_Shift.f laterQ
 by_cases c1 : on = true
 ·by_cases c2 : d > 0
  ·rw [if_pos c1, if_pos c2, if_pos (show on = true ∧ 0 < d from ⟨c1, c2⟩), safe_Add.eq h1 h2]
   simp only [Option.bind_some]
   have q : mn (near (s + d)) 1099511627776 = if 1099511627776 < s + d then 1099511627776 else s + d := by unfold mn near; (repeat' split) <;> first | rfl | omega
   rw [q]
  ·rw [if_pos c1, if_neg c2, if_neg (show ¬ (on = true ∧ 0 < d) from fun x => c2 x.2)]
 ·rw [if_neg c1, if_neg (show ¬ (on = true ∧ 0 < d) from fun x => c1 x.1)]
end
theorem epoch_ShiftS.calls (a0_0 : Bool) (a0_1 : Int) (a0_2 : Int) (a0_3 : Int) (a0_4 : Int) (a0_5 : Int) (a1 : Int) (r1 : Bool) (r2 : Int) (r3 : Int) (r4 : Int) (r5 : Int) (r6 : Int) (w : World) (h : epoch_ShiftS.f a0_0 a0_1 a0_2 a0_3 a0_4 a0_5 a1 = some (r1, r2, r3, r4, r5, r6)) :
  Calls Tryz.prog 128 #[.agg #[.bool a0_0, .int .i64 a0_1, .int .i64 a0_2, .int .i64 a0_3, .int .i64 a0_4, .int .i64 a0_5], .int .i64 a1] w fun e w' => e = .returned (.agg #[.bool r1, .int .i64 r2, .int .i64 r3, .int .i64 r4, .int .i64 r5, .int .i64 r6]) ∧ Below w.heap.size w w' := by
 obtain ⟨hc, h⟩ := Sp.need_some h; obtain ⟨h1, h2⟩ := hc; exact epoch_Shift.calls a0_0 a0_1 a0_2 a0_3 a0_4 a0_5 a1 r1 r2 r3 r4 r5 r6 w (by rw [epoch_Shift.main h1 h2]; exact h)

/-! ### guide_Pause: function 78 -/
noncomputable def guide_Pause.f (a0_0 : Bool) (a0_1 : Int) (a0_2 : Int) (a0_3 : Int) (a0_4 : Int) (a0_5 : Int) (a1 : Int) (a2 : Int) : Option (Bool × Int × Int × Int × Int × Int) := (safe_SubS.f a2 a1).bind fun t342 => ((epoch_ShiftS.f a0_0 a0_1 a0_2 a0_3 a0_4 a0_5 t342).bind fun bt343 => (some (bt343.1, bt343.2.1, bt343.2.2.1, bt343.2.2.2.1, bt343.2.2.2.2.1, bt343.2.2.2.2.2)))
set_option maxHeartbeats 8000000 in
set_option maxRecDepth 100000 in
theorem guide_Pause.calls (a0_0 : Bool) (a0_1 : Int) (a0_2 : Int) (a0_3 : Int) (a0_4 : Int) (a0_5 : Int) (a1 : Int) (a2 : Int) (r1 : Bool) (r2 : Int) (r3 : Int) (r4 : Int) (r5 : Int) (r6 : Int) (w : World) (h : guide_Pause.f a0_0 a0_1 a0_2 a0_3 a0_4 a0_5 a1 a2 = some (r1, r2, r3, r4, r5, r6)) :
  Calls Tryz.prog 78 #[.agg #[.bool a0_0, .int .i64 a0_1, .int .i64 a0_2, .int .i64 a0_3, .int .i64 a0_4, .int .i64 a0_5], .int .i64 a1, .int .i64 a2] w fun e w' => e = .returned (.agg #[.bool r1, .int .i64 r2, .int .i64 r3, .int .i64 r4, .int .i64 r5, .int .i64 r6]) ∧ Below w.heap.size w w' := by
 have hu25 := Tryz.underlying25; have HB := Aside0.mk (Below.refl w.heap.size w); have H : ((safe_SubS.f a2 a1).bind fun t342 => ((epoch_ShiftS.f a0_0 a0_1 a0_2 a0_3 a0_4 a0_5 t342).bind fun bt343 => (some (bt343.1, bt343.2.1, bt343.2.2.1, bt343.2.2.2.1, bt343.2.2.2.2.1, bt343.2.2.2.2.2)))) = some (r1, r2, r3, r4, r5, r6) := h; clear h; replace H := Option.bind_eq_some_iff.mp H; obtain ⟨t342, A40, H⟩ := H; replace H : ((epoch_ShiftS.f a0_0 a0_1 a0_2 a0_3 a0_4 a0_5 t342).bind fun bt343 => (some (bt343.1, bt343.2.1, bt343.2.2.1, bt343.2.2.2.1, bt343.2.2.2.2.1, bt343.2.2.2.2.2))) = some (r1, r2, r3, r4, r5, r6) := H; have A4 := Aside0.mk A40; clear A40; replace H := Option.bind_eq_some_iff.mp H; obtain ⟨⟨t343, t344, t345, t346, t347, t348⟩, A50, H⟩ := H; replace H : (some (t343, t344, t345, t346, t347, t348)) = some (r1, r2, r3, r4, r5, r6) := H; have A5 := Aside0.mk A50; clear A50; simp only [Option.some.injEq, Prod.mk.injEq] at H; obtain ⟨rfl, rfl, rfl, rfl, rfl, rfl⟩ := H
 go_enter Tryz.func78, Tryz.ntmps78
 try go_wp2_with (first | ((with_reducible refine gate_dst (N := 3) rfl ?_); refine box_event ?hg (N := 3) ?hd (cs := #[.bool a0_0, .int .i64 a0_1, .int .i64 a0_2, .int .i64 a0_3, .int .i64 a0_4, .int .i64 a0_5]) (t := 25) ?hr ?_; (case hd => rfl); (case hg => rfl); (case hr => first | (go_simp; done) | (go_simp; rfl)); intro gb340 hg w6 hbox hb; have BK340 := Aside0.mk (hbox); obtain ⟨GW340, nHB⟩ := geA hg hb; have GE340 := GW340; replace HB := nHB; clear nHB; clear hb hbox hg) | ((with_reducible refine gate_dst (N := 6) rfl ?_); refine box_event ?hg (N := 6) ?hd (cs := #[.bool false, .int .i64 0, .int .i64 0, .int .i64 0, .int .i64 0, .int .i64 0]) (t := 25) ?hr ?_; (case hd => rfl); (case hg => rfl); (case hr => first | (go_simp; done) | (go_simp; rfl)); intro gb341 hg w7 hbox hb; have BK341 := Aside0.mk (hbox); obtain ⟨GW341, nHB⟩ := geA hg hb; have GE341 := GW341; obtain ⟨NB340_341, NB341_340, nBK⟩ := nbA BK340 hg hb; replace BK340 := nBK; clear nBK; replace HB := nHB; clear nHB; clear hb hbox hg))
 replace BK340 := Aside0.mk (blk_drew BK340.out); replace BK341 := Aside0.mk (blk_drew BK341.out); replace HB := Aside0.mk (below_drew1 HB.out); refine start_ (n := 6) (S := fun w' => w'.cell? ⟨gb340, 0, none⟩ = some (.bool a0_0) ∧ w'.cell? ⟨gb340, 1, none⟩ = some (.int .i64 a0_1) ∧ w'.cell? ⟨gb340, 2, none⟩ = some (.int .i64 a0_2) ∧ w'.cell? ⟨gb340, 3, none⟩ = some (.int .i64 a0_3) ∧ w'.cell? ⟨gb340, 4, none⟩ = some (.int .i64 a0_4) ∧ w'.cell? ⟨gb340, 5, none⟩ = some (.int .i64 a0_5)) (ds := []) #[N,N,N,N,N,N] (by kernel_rfl) rfl rfl ⟨(blk_cell BK340.out 0).trans rfl, (blk_cell BK340.out 1).trans rfl, (blk_cell BK340.out 2).trans rfl, (blk_cell BK340.out 3).trans rfl, (blk_cell BK340.out 4).trans rfl, (blk_cell BK340.out 5).trans rfl⟩ (fun hHeld => ?_)
 generalize w7.drew = w8 at BK340 BK341 HB hHeld ⊢
 refine pureA_ (i := 1) (N := some 8) #[N,Y,N,N,N,N] rfl rfl (by kernel_rfl) ?_
 refine pureA_ (i := 2) (N := some 9) #[N,Y,Y,N,N,N] rfl rfl (by kernel_rfl) ?_
 refine take_ (i := 0) (N := some 7) (v := ?_) (a' := ?_) #[Y,Y,Y,N,N,N] rfl rfl (by kernel_rfl) (fun _ _ _ h => h) (Or.inl ⟨by rfl, ?_⟩) hHeld ?_ ?_; rotate_left
 ·rintro w' ⟨s0, s1, s2, s3, s4, s5⟩; go_simp
  with_reducible rfl
 rotate_left
 ·simp only [Act.put, sA, sB, sC, i64_w, i32_w]
  rfl
 refine one_ (i := 3) (N := some 10) #[Y,Y,Y,Y,N,N] rfl rfl (by kernel_rfl) (by decide) (fun K hK => ?_); refine goesA_ Tryz.func55 rfl #[.int .i64 a2, .int .i64 a1] (by rfl) rfl rfl ?_
 with_reducible refine (safe_SubS.calls a2 a1 t342 _ A4.out).mono ?_
 rintro e w9 ⟨rfl, hb⟩; refine ⟨_, rfl, ?_⟩; replace BK340 := bbZ BK340 hb; replace BK341 := bbZ BK341 hb; replace HB := Aside0.mk (below_step HB.out hb); clear hb; refine hK.out _ _ ⟨(blk_cell BK340.out 0).trans rfl, (blk_cell BK340.out 1).trans rfl, (blk_cell BK340.out 2).trans rfl, (blk_cell BK340.out 3).trans rfl, (blk_cell BK340.out 4).trans rfl, (blk_cell BK340.out 5).trans rfl⟩ (fun hHeld => ?_); clear hK K; refine normA_ (some 10) ?_
 refine one_ (i := 4) (N := some 11) #[Y,Y,Y,Y,Y,N] rfl rfl (by kernel_rfl) (by decide) (fun K hK => ?_); refine goesA_ Tryz.func128 rfl #[.agg #[.bool a0_0, .int .i64 a0_1, .int .i64 a0_2, .int .i64 a0_3, .int .i64 a0_4, .int .i64 a0_5], .int .i64 t342] (by rfl) rfl rfl ?_
 with_reducible refine (epoch_ShiftS.calls a0_0 a0_1 a0_2 a0_3 a0_4 a0_5 t342 t343 t344 t345 t346 t347 t348 _ A5.out).mono ?_
 rintro e w10 ⟨rfl, hb⟩; refine ⟨_, rfl, ?_⟩; replace BK340 := bbZ BK340 hb; replace BK341 := bbZ BK341 hb; replace HB := Aside0.mk (below_step HB.out hb); clear hb; refine hK.out _ _ ⟨(blk_cell BK340.out 0).trans rfl, (blk_cell BK340.out 1).trans rfl, (blk_cell BK340.out 2).trans rfl, (blk_cell BK340.out 3).trans rfl, (blk_cell BK340.out 4).trans rfl, (blk_cell BK340.out 5).trans rfl⟩ (fun hHeld => ?_); clear hK K; refine normA_ (some 11) ?_
 refine one_ (i := 5) (N := none) #[Y,Y,Y,Y,Y,Y] rfl rfl (by kernel_rfl) (by decide) (fun K hK => ?_); have hs11 := czZ BK341 0 (.bool false); have hfs11 := blk_frozen BK341.out 0; have hns11_0 := NB340_341.out; have hms11_0 := NB341_340.out; have hs12 := czZ BK341 1 (.int .i64 0); have hfs12 := blk_frozen BK341.out 1; have hns12_0 := NB340_341.out; have hms12_0 := NB341_340.out; have hs13 := czZ BK341 2 (.int .i64 0); have hfs13 := blk_frozen BK341.out 2; have hns13_0 := NB340_341.out; have hms13_0 := NB341_340.out; have hs14 := czZ BK341 3 (.int .i64 0); have hfs14 := blk_frozen BK341.out 3; have hns14_0 := NB340_341.out; have hms14_0 := NB341_340.out; have hs15 := czZ BK341 4 (.int .i64 0); have hfs15 := blk_frozen BK341.out 4; have hns15_0 := NB340_341.out; have hms15_0 := NB341_340.out; have hs16 := czZ BK341 5 (.int .i64 0); have hfs16 := blk_frozen BK341.out 5; have hns16_0 := NB340_341.out; have hms16_0 := NB341_340.out; refine skip_ (w1 := ?_) (by rfl) rfl ?_ ?_; rotate_left
 ·go_simp
  rfl
 refine hK.out _ _ ⟨((cell_far (p := ⟨gb341, _, none⟩) NB340_341.out _).trans (((cell_far (p := ⟨gb341, _, none⟩) NB340_341.out _).trans (((cell_far (p := ⟨gb341, _, none⟩) NB340_341.out _).trans (((cell_far (p := ⟨gb341, _, none⟩) NB340_341.out _).trans (((cell_far (p := ⟨gb341, _, none⟩) NB340_341.out _).trans (((cell_far (p := ⟨gb341, _, none⟩) NB340_341.out _).trans (hHeld.1)))))))))))), ((cell_far (p := ⟨gb341, _, none⟩) NB340_341.out _).trans (((cell_far (p := ⟨gb341, _, none⟩) NB340_341.out _).trans (((cell_far (p := ⟨gb341, _, none⟩) NB340_341.out _).trans (((cell_far (p := ⟨gb341, _, none⟩) NB340_341.out _).trans (((cell_far (p := ⟨gb341, _, none⟩) NB340_341.out _).trans (((cell_far (p := ⟨gb341, _, none⟩) NB340_341.out _).trans (hHeld.2.1)))))))))))), ((cell_far (p := ⟨gb341, _, none⟩) NB340_341.out _).trans (((cell_far (p := ⟨gb341, _, none⟩) NB340_341.out _).trans (((cell_far (p := ⟨gb341, _, none⟩) NB340_341.out _).trans (((cell_far (p := ⟨gb341, _, none⟩) NB340_341.out _).trans (((cell_far (p := ⟨gb341, _, none⟩) NB340_341.out _).trans (((cell_far (p := ⟨gb341, _, none⟩) NB340_341.out _).trans (hHeld.2.2.1)))))))))))), ((cell_far (p := ⟨gb341, _, none⟩) NB340_341.out _).trans (((cell_far (p := ⟨gb341, _, none⟩) NB340_341.out _).trans (((cell_far (p := ⟨gb341, _, none⟩) NB340_341.out _).trans (((cell_far (p := ⟨gb341, _, none⟩) NB340_341.out _).trans (((cell_far (p := ⟨gb341, _, none⟩) NB340_341.out _).trans (((cell_far (p := ⟨gb341, _, none⟩) NB340_341.out _).trans (hHeld.2.2.2.1)))))))))))), ((cell_far (p := ⟨gb341, _, none⟩) NB340_341.out _).trans (((cell_far (p := ⟨gb341, _, none⟩) NB340_341.out _).trans (((cell_far (p := ⟨gb341, _, none⟩) NB340_341.out _).trans (((cell_far (p := ⟨gb341, _, none⟩) NB340_341.out _).trans (((cell_far (p := ⟨gb341, _, none⟩) NB340_341.out _).trans (((cell_far (p := ⟨gb341, _, none⟩) NB340_341.out _).trans (hHeld.2.2.2.2.1)))))))))))), ((cell_far (p := ⟨gb341, _, none⟩) NB340_341.out _).trans (((cell_far (p := ⟨gb341, _, none⟩) NB340_341.out _).trans (((cell_far (p := ⟨gb341, _, none⟩) NB340_341.out _).trans (((cell_far (p := ⟨gb341, _, none⟩) NB340_341.out _).trans (((cell_far (p := ⟨gb341, _, none⟩) NB340_341.out _).trans (((cell_far (p := ⟨gb341, _, none⟩) NB340_341.out _).trans (hHeld.2.2.2.2.2))))))))))))⟩ (fun hHeld => ?_); clear hK K; refine done_ (by kernel_rfl) ?_
 try go_wp2
 refine bodyPost_ret (results_cell_row rfl _ _ gb341 25 #[.bool t343, .int .i64 t344, .int .i64 t345, .int .i64 t346, .int .i64 t347, .int .i64 t348] (0, 0) _ rfl (by (with_reducible repeat first | apply blk_drewN | apply blk_drew | apply blk_alloc); refine blk_put (cs := #[.bool t343, .int .i64 t344, .int .i64 t345, .int .i64 t346, .int .i64 t347, .int .i64 0]) ?_ 5 _ rfl; (with_reducible repeat first | apply blk_drewN | apply blk_drew | apply blk_alloc); refine blk_put (cs := #[.bool t343, .int .i64 t344, .int .i64 t345, .int .i64 t346, .int .i64 0, .int .i64 0]) ?_ 4 _ rfl; (with_reducible repeat first | apply blk_drewN | apply blk_drew | apply blk_alloc); refine blk_put (cs := #[.bool t343, .int .i64 t344, .int .i64 t345, .int .i64 0, .int .i64 0, .int .i64 0]) ?_ 3 _ rfl; (with_reducible repeat first | apply blk_drewN | apply blk_drew | apply blk_alloc); refine blk_put (cs := #[.bool t343, .int .i64 t344, .int .i64 0, .int .i64 0, .int .i64 0, .int .i64 0]) ?_ 2 _ rfl; (with_reducible repeat first | apply blk_drewN | apply blk_drew | apply blk_alloc); refine blk_put (cs := #[.bool t343, .int .i64 0, .int .i64 0, .int .i64 0, .int .i64 0, .int .i64 0]) ?_ 1 _ rfl; (with_reducible repeat first | apply blk_drewN | apply blk_drew | apply blk_alloc); refine blk_put (cs := #[.bool false, .int .i64 0, .int .i64 0, .int .i64 0, .int .i64 0, .int .i64 0]) ?_ 0 _ rfl; (with_reducible repeat first | apply blk_drewN | apply blk_drew | apply blk_alloc); exact BK341.out) Tryz.underlying25 rfl (by kernel_rfl)) rfl ?_; exact ⟨by first | rfl | (simp [errW_none, errW_some] <;> rfl) | (simp [*, errW_none, errW_some] <;> rfl), by repeat (first | (with_reducible first | exact HB.out | apply below_alloc | apply pw_below_drewN | apply below_drew1 | refine below_set ?_ (Aside0.out (by assumption))) | exact HB.out)⟩

/-! ### flight_Room: function 129 -/
noncomputable def flight_Room.f (a0_0 : Int) (a0_1 : Int) (a0_2 : Int) (a1 : Int) : Option (Int) := (flight_Check.f a0_0 a0_1 a0_2).bind fun t350 => (if t350 = true then (if a1 < a0_2 then (some 0) else (some (wrap64 (a1 - a0_2)))) else (some 0))
set_option maxHeartbeats 8000000 in
set_option maxRecDepth 100000 in
theorem flight_Room.calls (a0_0 : Int) (a0_1 : Int) (a0_2 : Int) (a1 : Int) (r : Int) (w : World) (h : flight_Room.f a0_0 a0_1 a0_2 a1 = some r) :
  Calls Tryz.prog 129 #[.agg #[.int .i64 a0_0, .int .i64 a0_1, .int .i64 a0_2], .int .i64 a1] w fun e w' => e = .returned (.int .i64 r) ∧ Below w.heap.size w w' := by
 have hu37 := Tryz.underlying37; have HB := Aside0.mk (Below.refl w.heap.size w); have H : ((flight_Check.f a0_0 a0_1 a0_2).bind fun t350 => (if t350 = true then (if a1 < a0_2 then (some 0) else (some (wrap64 (a1 - a0_2)))) else (some 0))) = some r := h; clear h; replace H := Option.bind_eq_some_iff.mp H; obtain ⟨t350, A30, H⟩ := H; replace H : (if t350 = true then (if a1 < a0_2 then (some 0) else (some (wrap64 (a1 - a0_2)))) else (some 0)) = some r := H; have A3 := Aside0.mk A30; clear A30
 by_cases c4 : t350 = true
 ·subst c4
  have H1 : (if a1 < a0_2 then (some 0) else (some (wrap64 (a1 - a0_2)))) = some r := by rw [if_pos rfl] at H; exact H
  clear H; have H := H1; clear H1
  by_cases c5 : a1 < a0_2
  ·rw [if_pos c5] at H
   have c5b0 : decide (a1 < a0_2) = true := decide_eq_true c5; clear c5; obtain rfl := Option.some.inj H
   go_enter Tryz.func129, Tryz.ntmps129
   go_wp2_with (first | ((with_reducible refine gate_dst (N := 2) rfl ?_); refine box_event ?hg (N := 2) ?hd (cs := #[.int .i64 a0_0, .int .i64 a0_1, .int .i64 a0_2]) (t := 37) ?hr ?_; (case hd => rfl); (case hg => rfl); (case hr => first | (go_simp; done) | (go_simp; rfl)); intro gb349 hg w6 hbox hb; have BK349 := Aside0.mk (hbox); obtain ⟨GW349, nHB⟩ := geA hg hb; have GE349 := GW349; replace HB := nHB; clear nHB; clear hb hbox hg; have hcz7_0 := czZ BK349 0 (.int .i64 a0_0); have hcz7_1 := czZ BK349 1 (.int .i64 a0_1); have hcz7_2 := czZ BK349 2 (.int .i64 a0_2); have hfz7_0 := blk_frozen BK349.out 0; have hfz7_1 := blk_frozen BK349.out 1; have hfz7_2 := blk_frozen BK349.out 2) | ((with_reducible refine gate_callee (f := 65) rfl ?_); refine goesLA_ (some 6) rfl rfl Tryz.func65 rfl #[.agg #[.int .i64 a0_0, .int .i64 a0_1, .int .i64 a0_2]] rfl ?_; (with_reducible refine (flight_Check.calls a0_0 a0_1 a0_2 true _ A3.out).mono ?_); rintro e w8 ⟨rfl, hb⟩; refine ⟨_, rfl, ?_⟩; replace BK349 := bdZ BK349 hb; replace HB := stA hb; clear hb; have hcz9_0 := czZ BK349 0 (.int .i64 a0_0); have hcz9_1 := czZ BK349 1 (.int .i64 a0_1); have hcz9_2 := czZ BK349 2 (.int .i64 a0_2); have hfz9_0 := blk_frozen BK349.out 0; have hfz9_1 := blk_frozen BK349.out 1; have hfz9_2 := blk_frozen BK349.out 2))
   go_ret
   exact ⟨by first | rfl | (simp [errW_none, errW_some] <;> rfl) | (simp [*, errW_none, errW_some] <;> rfl), by repeat (first | (with_reducible first | exact HB.out | apply below_alloc | apply pw_below_drewN | apply below_drew1 | refine below_set ?_ GE349.out) | exact HB.out)⟩
  ·rw [if_neg c5] at H
   have c5b0 : decide (a1 < a0_2) = false := decide_eq_false c5; clear c5; obtain rfl := Option.some.inj H
   go_enter Tryz.func129, Tryz.ntmps129
   go_wp2_with (first | ((with_reducible refine gate_dst (N := 2) rfl ?_); refine box_event ?hg (N := 2) ?hd (cs := #[.int .i64 a0_0, .int .i64 a0_1, .int .i64 a0_2]) (t := 37) ?hr ?_; (case hd => rfl); (case hg => rfl); (case hr => first | (go_simp; done) | (go_simp; rfl)); intro gb349 hg w10 hbox hb; have BK349 := Aside0.mk (hbox); obtain ⟨GW349, nHB⟩ := geA hg hb; have GE349 := GW349; replace HB := nHB; clear nHB; clear hb hbox hg; have hcz11_0 := czZ BK349 0 (.int .i64 a0_0); have hcz11_1 := czZ BK349 1 (.int .i64 a0_1); have hcz11_2 := czZ BK349 2 (.int .i64 a0_2); have hfz11_0 := blk_frozen BK349.out 0; have hfz11_1 := blk_frozen BK349.out 1; have hfz11_2 := blk_frozen BK349.out 2) | ((with_reducible refine gate_callee (f := 65) rfl ?_); refine goesLA_ (some 6) rfl rfl Tryz.func65 rfl #[.agg #[.int .i64 a0_0, .int .i64 a0_1, .int .i64 a0_2]] rfl ?_; (with_reducible refine (flight_Check.calls a0_0 a0_1 a0_2 true _ A3.out).mono ?_); rintro e w12 ⟨rfl, hb⟩; refine ⟨_, rfl, ?_⟩; replace BK349 := bdZ BK349 hb; replace HB := stA hb; clear hb; have hcz13_0 := czZ BK349 0 (.int .i64 a0_0); have hcz13_1 := czZ BK349 1 (.int .i64 a0_1); have hcz13_2 := czZ BK349 2 (.int .i64 a0_2); have hfz13_0 := blk_frozen BK349.out 0; have hfz13_1 := blk_frozen BK349.out 1; have hfz13_2 := blk_frozen BK349.out 2))
   go_ret
   exact ⟨by first | rfl | (simp [errW_none, errW_some] <;> rfl) | (simp [*, errW_none, errW_some] <;> rfl), by repeat (first | (with_reducible first | exact HB.out | apply below_alloc | apply pw_below_drewN | apply below_drew1 | refine below_set ?_ GE349.out) | exact HB.out)⟩
 ·replace c4 := Bool.eq_false_iff.mpr c4
  subst c4
  have H1 : (some 0) = some r := by rw [if_neg (show ¬ (false = true) by decide)] at H; exact H
  clear H; have H := H1; clear H1; obtain rfl := Option.some.inj H
  go_enter Tryz.func129, Tryz.ntmps129
  go_wp2_with (first | ((with_reducible refine gate_dst (N := 2) rfl ?_); refine box_event ?hg (N := 2) ?hd (cs := #[.int .i64 a0_0, .int .i64 a0_1, .int .i64 a0_2]) (t := 37) ?hr ?_; (case hd => rfl); (case hg => rfl); (case hr => first | (go_simp; done) | (go_simp; rfl)); intro gb349 hg w14 hbox hb; have BK349 := Aside0.mk (hbox); obtain ⟨GW349, nHB⟩ := geA hg hb; have GE349 := GW349; replace HB := nHB; clear nHB; clear hb hbox hg; have hcz15_0 := czZ BK349 0 (.int .i64 a0_0); have hcz15_1 := czZ BK349 1 (.int .i64 a0_1); have hcz15_2 := czZ BK349 2 (.int .i64 a0_2); have hfz15_0 := blk_frozen BK349.out 0; have hfz15_1 := blk_frozen BK349.out 1; have hfz15_2 := blk_frozen BK349.out 2) | ((with_reducible refine gate_callee (f := 65) rfl ?_); refine goesLA_ (some 6) rfl rfl Tryz.func65 rfl #[.agg #[.int .i64 a0_0, .int .i64 a0_1, .int .i64 a0_2]] rfl ?_; (with_reducible refine (flight_Check.calls a0_0 a0_1 a0_2 false _ A3.out).mono ?_); rintro e w16 ⟨rfl, hb⟩; refine ⟨_, rfl, ?_⟩; replace BK349 := bdZ BK349 hb; replace HB := stA hb; clear hb))
  go_ret
  exact ⟨by first | rfl | (simp [errW_none, errW_some] <;> rfl) | (simp [*, errW_none, errW_some] <;> rfl), by repeat (first | (with_reducible first | exact HB.out | apply below_alloc | apply pw_below_drewN | apply below_drew1 | refine below_set ?_ GE349.out) | exact HB.out)⟩

/-! ### flight_Send: function 80 -/
noncomputable def flight_Send.j0 : Nat → Int → Int → Bool → Int → Int → Int → Option (Int × Int × Int × Int)
 | 0, _, _, _, _, _, _ => none
 | k + 1, x1, x2, x8, x352000, x352001, x352002 => if x8 = true then (some (x352000, x352001, x352002, 201)) else (if x352000 > (wrap64 (9223372036854775807 - x1)) then (some (x352000, x352001, x352002, 10)) else ((flight_Room.f x352000 x352001 x352002 x2).bind fun t354 => (if x1 > t354 then (some (x352000, x352001, x352002, 203)) else (some (wrap64 (x352000 + x1), x352001, wrap64 (x352002 + x1), 0)))))
noncomputable def flight_Send.f (k : Nat) (a0_0 : Int) (a0_1 : Int) (a0_2 : Int) (a1 : Int) (a2 : Int) : Option (Int × Int × Int × Int) := (flight_Check.f a0_0 a0_1 a0_2).bind fun t353 => (if t353 = true then (flight_Send.j0 k a1 a2 (decide (a1 < 1)) a0_0 a0_1 a0_2) else (flight_Send.j0 k a1 a2 true a0_0 a0_1 a0_2))
set_option maxHeartbeats 8000000 in
set_option maxRecDepth 100000 in
theorem flight_Send.calls (k : Nat) (a0_0 : Int) (a0_1 : Int) (a0_2 : Int) (a1 : Int) (a2 : Int) (r1 : Int) (r2 : Int) (r3 : Int) (r4 : Int) (w : World) (h : flight_Send.f k a0_0 a0_1 a0_2 a1 a2 = some (r1, r2, r3, r4)) :
  Calls Tryz.prog 80 #[.agg #[.int .i64 a0_0, .int .i64 a0_1, .int .i64 a0_2], .int .i64 a1, .int .i64 a2] w fun e w' => e = .returned (.tuple #[.agg #[.int .i64 r1, .int .i64 r2, .int .i64 r3], .int .i64 r4]) ∧ Below w.heap.size w w' := by
 have hu37 := Tryz.underlying37; have HB := Aside0.mk (Below.refl w.heap.size w); have H : ((flight_Check.f a0_0 a0_1 a0_2).bind fun t353 => (if t353 = true then (flight_Send.j0 k a1 a2 (decide (a1 < 1)) a0_0 a0_1 a0_2) else (flight_Send.j0 k a1 a2 true a0_0 a0_1 a0_2))) = some (r1, r2, r3, r4) := h; clear h; have HC4 := Aside0.mk H; clear H
 go_enter Tryz.func80, Tryz.ntmps80
 go_upto_region 1 with (first | ((with_reducible refine gate_dst (N := 3) rfl ?_); refine box_event ?hg (N := 3) ?hd (cs := #[.int .i64 a0_0, .int .i64 a0_1, .int .i64 a0_2]) (t := 37) ?hr ?_; (case hd => rfl); (case hg => rfl); (case hr => first | (go_simp; done) | (go_simp; rfl)); intro gb351 hg w5 hbox hb; have BK351 := Aside0.mk (hbox); obtain ⟨GW351, nHB⟩ := geA hg hb; have GE351 := GW351; replace HB := nHB; clear nHB; clear hb hbox hg) | ((with_reducible refine gate_dst (N := 6) rfl ?_); refine box_event ?hg (N := 6) ?hd (cs := #[.int .i64 0, .int .i64 0, .int .i64 0]) (t := 37) ?hr ?_; (case hd => rfl); (case hg => rfl); (case hr => first | (go_simp; done) | (go_simp; rfl)); intro gb352 hg w6 hbox hb; have BK352 := Aside0.mk (hbox); obtain ⟨GW352, nHB⟩ := geA hg hb; have GE352 := GW352; obtain ⟨NB351_352, NB352_351, nBK⟩ := nbA BK351 hg hb; replace BK351 := nBK; clear nBK; replace HB := nHB; clear nHB; clear hb hbox hg))
 (try simp only [Act.put, sA, sB, sC])
 go_cut [8] (fun v8 wc => ∃ (kq : Nat) (x8_3 : Bool), v8 = .bool x8_3 ∧ Aside0 (flight_Send.j0 kq a1 a2 x8_3 a0_0 a0_1 a0_2 = some (r1, r2, r3, r4)) ∧ Aside0 (kq ≤ k) ∧ Aside0 (wc.heap[gb351]? = some (.cells #[.int .i64 a0_0, .int .i64 a0_1, .int .i64 a0_2] 37 (0, 0))) ∧ Aside0 (wc.heap[gb352]? = some (.cells #[.int .i64 0, .int .i64 0, .int .i64 0] 37 (0, 0))) ∧ Aside0 (Below w.heap.size w wc))
 case first =>
  have H := HC4.out; clear HC4; replace H := Option.bind_eq_some_iff.mp H; obtain ⟨t353, A70, H⟩ := H; replace H : (if t353 = true then (flight_Send.j0 k a1 a2 (decide (a1 < 1)) a0_0 a0_1 a0_2) else (flight_Send.j0 k a1 a2 true a0_0 a0_1 a0_2)) = some (r1, r2, r3, r4) := H; have A7 := Aside0.mk A70; clear A70
  by_cases c8 : t353 = true
  ·subst c8
   have H1 : (flight_Send.j0 k a1 a2 (decide (a1 < 1)) a0_0 a0_1 a0_2) = some (r1, r2, r3, r4) := by rw [if_pos rfl] at H; exact H
   clear H; have H := H1; clear H1; have H' := Aside0.mk H; clear H; have hnb9 := NB351_352.out; have hnc9 := NB352_351.out; have hcz10_0 := czZ BK351 0 (.int .i64 a0_0); have hcz10_1 := czZ BK351 1 (.int .i64 a0_1); have hcz10_2 := czZ BK351 2 (.int .i64 a0_2); have hfz10_0 := blk_frozen BK351.out 0; have hfz10_1 := blk_frozen BK351.out 1; have hfz10_2 := blk_frozen BK351.out 2
   go_wp2_with (first | ((with_reducible refine gate_callee (f := 65) rfl ?_); refine goesLA_ (some 10) rfl rfl Tryz.func65 rfl #[.agg #[.int .i64 a0_0, .int .i64 a0_1, .int .i64 a0_2]] rfl ?_; (with_reducible refine (flight_Check.calls a0_0 a0_1 a0_2 true _ A7.out).mono ?_); rintro e w11 ⟨rfl, hb⟩; refine ⟨_, rfl, ?_⟩; replace BK351 := bdZ BK351 hb; replace BK352 := bdZ BK352 hb; replace HB := stA hb; clear hb))
   go_meet
   case rel => exact ⟨_, (decide (a1 < 1)), (by first | rfl | (simp; done) | (simp [*]; done)), H', ⟨by first | omega | exact Nat.le_refl _⟩, ⟨by (with_reducible repeat first | apply blk_drewN | apply blk_drew | apply blk_alloc); exact BK351.out⟩, ⟨by (with_reducible repeat first | apply blk_drewN | apply blk_drew | apply blk_alloc); exact BK352.out⟩, ⟨by repeat (first | (with_reducible first | exact HB.out | apply below_alloc | apply pw_below_drewN | apply below_drew1 | refine below_set ?_ (Aside0.out (by assumption))) | exact HB.out)⟩⟩
  ·replace c8 := Bool.eq_false_iff.mpr c8
   subst c8
   have H1 : (flight_Send.j0 k a1 a2 true a0_0 a0_1 a0_2) = some (r1, r2, r3, r4) := by rw [if_neg (show ¬ (false = true) by decide)] at H; exact H
   clear H; have H := H1; clear H1; have H' := Aside0.mk H; clear H; have hnb12 := NB351_352.out; have hnc12 := NB352_351.out; have hcz13_0 := czZ BK351 0 (.int .i64 a0_0); have hcz13_1 := czZ BK351 1 (.int .i64 a0_1); have hcz13_2 := czZ BK351 2 (.int .i64 a0_2); have hfz13_0 := blk_frozen BK351.out 0; have hfz13_1 := blk_frozen BK351.out 1; have hfz13_2 := blk_frozen BK351.out 2
   go_wp2_with (first | ((with_reducible refine gate_callee (f := 65) rfl ?_); refine goesLA_ (some 10) rfl rfl Tryz.func65 rfl #[.agg #[.int .i64 a0_0, .int .i64 a0_1, .int .i64 a0_2]] rfl ?_; (with_reducible refine (flight_Check.calls a0_0 a0_1 a0_2 false _ A7.out).mono ?_); rintro e w14 ⟨rfl, hb⟩; refine ⟨_, rfl, ?_⟩; replace BK351 := bdZ BK351 hb; replace BK352 := bdZ BK352 hb; replace HB := stA hb; clear hb))
   go_meet
   case rel => exact ⟨_, (true), (by first | rfl | (simp; done) | (simp [*]; done)), H', ⟨by first | omega | exact Nat.le_refl _⟩, ⟨by (with_reducible repeat first | apply blk_drewN | apply blk_drew | apply blk_alloc); exact BK351.out⟩, ⟨by (with_reducible repeat first | apply blk_drewN | apply blk_drew | apply blk_alloc); exact BK352.out⟩, ⟨by repeat (first | (with_reducible first | exact HB.out | apply below_alloc | apply pw_below_drewN | apply below_drew1 | refine below_set ?_ (Aside0.out (by assumption))) | exact HB.out)⟩⟩
 case rest =>
  clear HC4
  try clear c1
  try clear p2
  try clear c6
  try clear c8
  try clear c9
  try clear c12
  try clear hcz10_0
  try clear hcz10_1
  try clear hcz10_2
  try clear hcz13_0
  try clear hcz13_1
  try clear hcz13_2
  try clear hfz10_0
  try clear hfz10_1
  try clear hfz10_2
  try clear hfz13_0
  try clear hfz13_1
  try clear hfz13_2
  obtain ⟨kq, x8_3, rfl, HA, HJ3, BK351, BK352, HB⟩ := hcut
  cases kq with
  | zero => exact absurd HA.out (by simp [flight_Send.j0])
  | succ kj3 =>
   have H := HA.out; clear HA; simp only [flight_Send.j0] at H
   by_cases c15 : x8_3 = true
   ·subst c15
    have H1 : (some (a0_0, a0_1, a0_2, 201)) = some (r1, r2, r3, r4) := by rw [if_pos rfl] at H; exact H
    clear H; have H := H1; clear H1; simp only [Option.some.injEq, Prod.mk.injEq] at H; obtain ⟨rfl, rfl, rfl, rfl⟩ := H; have hnb16 := NB351_352.out; have hnc16 := NB352_351.out; have hcz17_0 : wc.cell? ⟨gb351, 0, none⟩ = some (.int .i64 a0_0) := (blk_cell BK351.out 0).trans rfl; have hcz17_1 : wc.cell? ⟨gb351, 1, none⟩ = some (.int .i64 a0_1) := (blk_cell BK351.out 1).trans rfl; have hcz17_2 : wc.cell? ⟨gb351, 2, none⟩ = some (.int .i64 a0_2) := (blk_cell BK351.out 2).trans rfl; have hfz17_0 := blk_frozen BK351.out 0; have hfz17_1 := blk_frozen BK351.out 1; have hfz17_2 := blk_frozen BK351.out 2; have hcz18_0 : wc.cell? ⟨gb352, 0, none⟩ = some (.int .i64 0) := (blk_cell BK352.out 0).trans rfl; have hcz18_1 : wc.cell? ⟨gb352, 1, none⟩ = some (.int .i64 0) := (blk_cell BK352.out 1).trans rfl; have hcz18_2 : wc.cell? ⟨gb352, 2, none⟩ = some (.int .i64 0) := (blk_cell BK352.out 2).trans rfl; have hfz18_0 := blk_frozen BK352.out 0; have hfz18_1 := blk_frozen BK352.out 1; have hfz18_2 := blk_frozen BK352.out 2
    go_wp2
    refine bodyPost_ret (results_ct rfl _ _ gb352 37 #[.int .i64 a0_0, .int .i64 a0_1, .int .i64 a0_2] (0, 0) _ rfl (by (with_reducible repeat first | apply blk_drewN | apply blk_drew | apply blk_alloc); refine blk_put (cs := #[.int .i64 a0_0, .int .i64 a0_1, .int .i64 0]) ?_ 2 _ rfl; (with_reducible repeat first | apply blk_drewN | apply blk_drew | apply blk_alloc); refine blk_put (cs := #[.int .i64 a0_0, .int .i64 0, .int .i64 0]) ?_ 1 _ rfl; (with_reducible repeat first | apply blk_drewN | apply blk_drew | apply blk_alloc); refine blk_put (cs := #[.int .i64 0, .int .i64 0, .int .i64 0]) ?_ 0 _ rfl; (with_reducible repeat first | apply blk_drewN | apply blk_drew | apply blk_alloc); exact BK352.out) Tryz.underlying37 rfl (by kernel_rfl)) rfl ?_; exact ⟨by first | rfl | (simp [errW_none, errW_some] <;> rfl) | (simp [*, errW_none, errW_some] <;> rfl), by repeat (first | (with_reducible first | exact HB.out | apply below_alloc | apply pw_below_drewN | apply below_drew1 | refine below_set ?_ (Aside0.out (by assumption))) | exact HB.out)⟩
   ·replace c15 := Bool.eq_false_iff.mpr c15
    subst c15
    have H1 : (if a0_0 > (wrap64 (9223372036854775807 - a1)) then (some (a0_0, a0_1, a0_2, 10)) else ((flight_Room.f a0_0 a0_1 a0_2 a2).bind fun t354 => (if a1 > t354 then (some (a0_0, a0_1, a0_2, 203)) else (some (wrap64 (a0_0 + a1), a0_1, wrap64 (a0_2 + a1), 0))))) = some (r1, r2, r3, r4) := by rw [if_neg (show ¬ (false = true) by decide)] at H; exact H
    clear H; have H := H1; clear H1
    by_cases c19 : a0_0 > (wrap64 (9223372036854775807 - a1))
    ·rw [if_pos c19] at H
     have c19b0 : decide ((wrap64 (9223372036854775807 - a1)) < a0_0) = true := decide_eq_true c19; clear c19; simp only [Option.some.injEq, Prod.mk.injEq] at H; obtain ⟨rfl, rfl, rfl, rfl⟩ := H; have hnb20 := NB351_352.out; have hnc20 := NB352_351.out; have hcz21_0 : wc.cell? ⟨gb351, 0, none⟩ = some (.int .i64 a0_0) := (blk_cell BK351.out 0).trans rfl; have hcz21_1 : wc.cell? ⟨gb351, 1, none⟩ = some (.int .i64 a0_1) := (blk_cell BK351.out 1).trans rfl; have hcz21_2 : wc.cell? ⟨gb351, 2, none⟩ = some (.int .i64 a0_2) := (blk_cell BK351.out 2).trans rfl; have hfz21_0 := blk_frozen BK351.out 0; have hfz21_1 := blk_frozen BK351.out 1; have hfz21_2 := blk_frozen BK351.out 2; have hcz22_0 : wc.cell? ⟨gb352, 0, none⟩ = some (.int .i64 0) := (blk_cell BK352.out 0).trans rfl; have hcz22_1 : wc.cell? ⟨gb352, 1, none⟩ = some (.int .i64 0) := (blk_cell BK352.out 1).trans rfl; have hcz22_2 : wc.cell? ⟨gb352, 2, none⟩ = some (.int .i64 0) := (blk_cell BK352.out 2).trans rfl; have hfz22_0 := blk_frozen BK352.out 0; have hfz22_1 := blk_frozen BK352.out 1; have hfz22_2 := blk_frozen BK352.out 2
     go_wp2
     refine bodyPost_ret (results_ct rfl _ _ gb352 37 #[.int .i64 a0_0, .int .i64 a0_1, .int .i64 a0_2] (0, 0) _ rfl (by (with_reducible repeat first | apply blk_drewN | apply blk_drew | apply blk_alloc); refine blk_put (cs := #[.int .i64 a0_0, .int .i64 a0_1, .int .i64 0]) ?_ 2 _ rfl; (with_reducible repeat first | apply blk_drewN | apply blk_drew | apply blk_alloc); refine blk_put (cs := #[.int .i64 a0_0, .int .i64 0, .int .i64 0]) ?_ 1 _ rfl; (with_reducible repeat first | apply blk_drewN | apply blk_drew | apply blk_alloc); refine blk_put (cs := #[.int .i64 0, .int .i64 0, .int .i64 0]) ?_ 0 _ rfl; (with_reducible repeat first | apply blk_drewN | apply blk_drew | apply blk_alloc); exact BK352.out) Tryz.underlying37 rfl (by kernel_rfl)) rfl ?_; exact ⟨by first | rfl | (simp [errW_none, errW_some] <;> rfl) | (simp [*, errW_none, errW_some] <;> rfl), by repeat (first | (with_reducible first | exact HB.out | apply below_alloc | apply pw_below_drewN | apply below_drew1 | refine below_set ?_ (Aside0.out (by assumption))) | exact HB.out)⟩
    ·rw [if_neg c19] at H
     have c19b0 : decide ((wrap64 (9223372036854775807 - a1)) < a0_0) = false := decide_eq_false c19; clear c19; replace H := Option.bind_eq_some_iff.mp H; obtain ⟨t354, A230, H⟩ := H; replace H : (if a1 > t354 then (some (a0_0, a0_1, a0_2, 203)) else (some (wrap64 (a0_0 + a1), a0_1, wrap64 (a0_2 + a1), 0))) = some (r1, r2, r3, r4) := H; have A23 := Aside0.mk A230; clear A230
     by_cases c24 : a1 > t354
     ·rw [if_pos c24] at H
      have c24b0 : decide (t354 < a1) = true := decide_eq_true c24; clear c24; simp only [Option.some.injEq, Prod.mk.injEq] at H; obtain ⟨rfl, rfl, rfl, rfl⟩ := H; have hnb25 := NB351_352.out; have hnc25 := NB352_351.out; have hcz26_0 : wc.cell? ⟨gb351, 0, none⟩ = some (.int .i64 a0_0) := (blk_cell BK351.out 0).trans rfl; have hcz26_1 : wc.cell? ⟨gb351, 1, none⟩ = some (.int .i64 a0_1) := (blk_cell BK351.out 1).trans rfl; have hcz26_2 : wc.cell? ⟨gb351, 2, none⟩ = some (.int .i64 a0_2) := (blk_cell BK351.out 2).trans rfl; have hfz26_0 := blk_frozen BK351.out 0; have hfz26_1 := blk_frozen BK351.out 1; have hfz26_2 := blk_frozen BK351.out 2
      go_wp2_with (first | ((with_reducible refine gate_callee (f := 129) rfl ?_); refine goesLA_ (some 28) rfl rfl Tryz.func129 rfl #[.agg #[.int .i64 a0_0, .int .i64 a0_1, .int .i64 a0_2], .int .i64 a2] rfl ?_; (with_reducible refine (flight_Room.calls a0_0 a0_1 a0_2 a2 t354 _ A23.out).mono ?_); rintro e w27 ⟨rfl, hb⟩; refine ⟨_, rfl, ?_⟩; replace BK351 := bdZ BK351 hb; replace BK352 := bdZ BK352 hb; replace HB := stA hb; clear hb; have hcz28_0 := czZ BK351 0 (.int .i64 a0_0); have hcz28_1 := czZ BK351 1 (.int .i64 a0_1); have hcz28_2 := czZ BK351 2 (.int .i64 a0_2); have hfz28_0 := blk_frozen BK351.out 0; have hfz28_1 := blk_frozen BK351.out 1; have hfz28_2 := blk_frozen BK351.out 2; have hcz29_0 := czZ BK352 0 (.int .i64 0); have hcz29_1 := czZ BK352 1 (.int .i64 0); have hcz29_2 := czZ BK352 2 (.int .i64 0); have hfz29_0 := blk_frozen BK352.out 0; have hfz29_1 := blk_frozen BK352.out 1; have hfz29_2 := blk_frozen BK352.out 2))
      refine bodyPost_ret (results_ct rfl _ _ gb352 37 #[.int .i64 a0_0, .int .i64 a0_1, .int .i64 a0_2] (0, 0) _ rfl (by (with_reducible repeat first | apply blk_drewN | apply blk_drew | apply blk_alloc); refine blk_put (cs := #[.int .i64 a0_0, .int .i64 a0_1, .int .i64 0]) ?_ 2 _ rfl; (with_reducible repeat first | apply blk_drewN | apply blk_drew | apply blk_alloc); refine blk_put (cs := #[.int .i64 a0_0, .int .i64 0, .int .i64 0]) ?_ 1 _ rfl; (with_reducible repeat first | apply blk_drewN | apply blk_drew | apply blk_alloc); refine blk_put (cs := #[.int .i64 0, .int .i64 0, .int .i64 0]) ?_ 0 _ rfl; (with_reducible repeat first | apply blk_drewN | apply blk_drew | apply blk_alloc); exact BK352.out) Tryz.underlying37 rfl (by kernel_rfl)) rfl ?_; exact ⟨by first | rfl | (simp [errW_none, errW_some] <;> rfl) | (simp [*, errW_none, errW_some] <;> rfl), by repeat (first | (with_reducible first | exact HB.out | apply below_alloc | apply pw_below_drewN | apply below_drew1 | refine below_set ?_ (Aside0.out (by assumption))) | exact HB.out)⟩
     ·rw [if_neg c24] at H
      have c24b0 : decide (t354 < a1) = false := decide_eq_false c24; clear c24; simp only [Option.some.injEq, Prod.mk.injEq] at H; obtain ⟨rfl, rfl, rfl, rfl⟩ := H; have hnb30 := NB351_352.out; have hnc30 := NB352_351.out; have hcz31_0 : wc.cell? ⟨gb351, 0, none⟩ = some (.int .i64 a0_0) := (blk_cell BK351.out 0).trans rfl; have hcz31_1 : wc.cell? ⟨gb351, 1, none⟩ = some (.int .i64 a0_1) := (blk_cell BK351.out 1).trans rfl; have hcz31_2 : wc.cell? ⟨gb351, 2, none⟩ = some (.int .i64 a0_2) := (blk_cell BK351.out 2).trans rfl; have hfz31_0 := blk_frozen BK351.out 0; have hfz31_1 := blk_frozen BK351.out 1; have hfz31_2 := blk_frozen BK351.out 2
      go_wp2_with (first | ((with_reducible refine gate_callee (f := 129) rfl ?_); refine goesLA_ (some 28) rfl rfl Tryz.func129 rfl #[.agg #[.int .i64 a0_0, .int .i64 a0_1, .int .i64 a0_2], .int .i64 a2] rfl ?_; (with_reducible refine (flight_Room.calls a0_0 a0_1 a0_2 a2 t354 _ A23.out).mono ?_); rintro e w32 ⟨rfl, hb⟩; refine ⟨_, rfl, ?_⟩; replace BK351 := bdZ BK351 hb; replace BK352 := bdZ BK352 hb; replace HB := stA hb; clear hb; have hcz33_0 := czZ BK351 0 (.int .i64 a0_0); have hcz33_1 := czZ BK351 1 (.int .i64 a0_1); have hcz33_2 := czZ BK351 2 (.int .i64 a0_2); have hfz33_0 := blk_frozen BK351.out 0; have hfz33_1 := blk_frozen BK351.out 1; have hfz33_2 := blk_frozen BK351.out 2; have hcz34_0 := czZ BK352 0 (.int .i64 0); have hcz34_1 := czZ BK352 1 (.int .i64 0); have hcz34_2 := czZ BK352 2 (.int .i64 0); have hfz34_0 := blk_frozen BK352.out 0; have hfz34_1 := blk_frozen BK352.out 1; have hfz34_2 := blk_frozen BK352.out 2))
      refine bodyPost_ret (results_ct rfl _ _ gb352 37 #[.int .i64 (wrap64 (a0_0 + a1)), .int .i64 a0_1, .int .i64 (wrap64 (a0_2 + a1))] (0, 0) _ rfl (by (with_reducible repeat first | apply blk_drewN | apply blk_drew | apply blk_alloc); refine blk_put (cs := #[.int .i64 (wrap64 (a0_0 + a1)), .int .i64 a0_1, .int .i64 0]) ?_ 2 _ rfl; (with_reducible repeat first | apply blk_drewN | apply blk_drew | apply blk_alloc); refine blk_put (cs := #[.int .i64 (wrap64 (a0_0 + a1)), .int .i64 0, .int .i64 0]) ?_ 1 _ rfl; (with_reducible repeat first | apply blk_drewN | apply blk_drew | apply blk_alloc); refine blk_put (cs := #[.int .i64 0, .int .i64 0, .int .i64 0]) ?_ 0 _ rfl; (with_reducible repeat first | apply blk_drewN | apply blk_drew | apply blk_alloc); refine blk_far ?_ NB352_351.out _; (with_reducible repeat first | apply blk_drewN | apply blk_drew | apply blk_alloc); refine blk_far ?_ NB352_351.out _; (with_reducible repeat first | apply blk_drewN | apply blk_drew | apply blk_alloc); exact BK352.out) Tryz.underlying37 rfl (by kernel_rfl)) rfl ?_; exact ⟨by first | rfl | (simp [errW_none, errW_some] <;> rfl) | (simp [*, errW_none, errW_some] <;> rfl), by repeat (first | (with_reducible first | exact HB.out | apply below_alloc | apply pw_below_drewN | apply below_drew1 | refine below_set ?_ (Aside0.out (by assumption))) | exact HB.out)⟩

/-! ### bucket_Bytes: function 130 -/
noncomputable def bucket_Bytes.f (a0_0 : Int) (a0_1 : Int) : Option (Int) := if (a0_0 == 0 && (a0_1 == 0)) = true then (some 0) else ((bucket_CheckS.f a0_0 a0_1).bind fun t356 => (if t356 = true then (some (wrap64 (Int.tdiv a0_1 1000000))) else (some 0)))
set_option maxHeartbeats 8000000 in
set_option maxRecDepth 100000 in
theorem bucket_Bytes.calls (a0_0 : Int) (a0_1 : Int) (r : Int) (w : World) (h : bucket_Bytes.f a0_0 a0_1 = some r) :
  Calls Tryz.prog 130 #[.agg #[.int .i64 a0_0, .int .i64 a0_1]] w fun e w' => e = .returned (.int .i64 r) ∧ Below w.heap.size w w' := by
 have hu46 := Tryz.underlying46; have HB := Aside0.mk (Below.refl w.heap.size w); have H : (if (a0_0 == 0 && (a0_1 == 0)) = true then (some 0) else ((bucket_CheckS.f a0_0 a0_1).bind fun t356 => (if t356 = true then (some (wrap64 (Int.tdiv a0_1 1000000))) else (some 0)))) = some r := h; clear h
 by_cases c2 : (a0_0 == 0 && (a0_1 == 0)) = true
 ·rw [if_pos c2] at H
  have c2b0 : (a0_0 == 0 && (a0_1 == 0)) = true := c2
  (try (have c2b1 : decide (a0_0 = 0 && (a0_1 == 0)) = true := by simpa using c2))
  (try (have c2b2 : (a0_0 == 0 && (a0_1 == 0)) = true := by simpa using c2))
  clear c2; obtain rfl := Option.some.inj H
  go_enter Tryz.func130, Tryz.ntmps130
  go_wp2_with (first | ((with_reducible refine gate_dst (N := 1) rfl ?_); refine box_event ?hg (N := 1) ?hd (cs := #[.int .i64 a0_0, .int .i64 a0_1]) (t := 46) ?hr ?_; (case hd => rfl); (case hg => rfl); (case hr => first | (go_simp; done) | (go_simp; rfl)); intro gb355 hg w3 hbox hb; have BK355 := Aside0.mk (hbox); obtain ⟨GW355, nHB⟩ := geA hg hb; have GE355 := GW355; replace HB := nHB; clear nHB; clear hb hbox hg; have hcz4_0 := czZ BK355 0 (.int .i64 a0_0); have hcz4_1 := czZ BK355 1 (.int .i64 a0_1); have hfz4_0 := blk_frozen BK355.out 0; have hfz4_1 := blk_frozen BK355.out 1))
  go_ret
  exact ⟨by first | rfl | (simp [errW_none, errW_some] <;> rfl) | (simp [*, errW_none, errW_some] <;> rfl), by repeat (first | (with_reducible first | exact HB.out | apply below_alloc | apply pw_below_drewN | apply below_drew1 | refine below_set ?_ GE355.out) | exact HB.out)⟩
 ·rw [if_neg c2] at H
  have c2b0 : (a0_0 == 0 && (a0_1 == 0)) = false := by simpa using c2
  (try (have c2b1 : decide (a0_0 = 0 && (a0_1 == 0)) = false := by simpa using c2))
  (try (have c2b2 : (a0_0 == 0 && (a0_1 == 0)) = false := by simpa using c2))
  (try (have c2b3 : ¬ (a0_0 = 0 && (a0_1 == 0)) := by simpa using c2))
  clear c2; replace H := Option.bind_eq_some_iff.mp H; obtain ⟨t356, A50, H⟩ := H; replace H : (if t356 = true then (some (wrap64 (Int.tdiv a0_1 1000000))) else (some 0)) = some r := H; have A5 := Aside0.mk A50; clear A50
  by_cases c6 : t356 = true
  ·subst c6
   have H1 : (some (wrap64 (Int.tdiv a0_1 1000000))) = some r := by rw [if_pos rfl] at H; exact H
   clear H; have H := H1; clear H1; obtain rfl := Option.some.inj H
   go_enter Tryz.func130, Tryz.ntmps130
   go_wp2_with (first | ((with_reducible refine gate_dst (N := 1) rfl ?_); refine box_event ?hg (N := 1) ?hd (cs := #[.int .i64 a0_0, .int .i64 a0_1]) (t := 46) ?hr ?_; (case hd => rfl); (case hg => rfl); (case hr => first | (go_simp; done) | (go_simp; rfl)); intro gb355 hg w7 hbox hb; have BK355 := Aside0.mk (hbox); obtain ⟨GW355, nHB⟩ := geA hg hb; have GE355 := GW355; replace HB := nHB; clear nHB; clear hb hbox hg; have hcz8_0 := czZ BK355 0 (.int .i64 a0_0); have hcz8_1 := czZ BK355 1 (.int .i64 a0_1); have hfz8_0 := blk_frozen BK355.out 0; have hfz8_1 := blk_frozen BK355.out 1) | (go_at_call 71; (with_reducible refine (bucket_CheckS.calls a0_0 a0_1 true _ A5.out).mono ?_); rintro e w9 ⟨rfl, hb⟩; replace BK355 := bdZ BK355 hb; replace HB := stA hb; clear hb; have hcz10_0 := czZ BK355 0 (.int .i64 a0_0); have hcz10_1 := czZ BK355 1 (.int .i64 a0_1); have hfz10_0 := blk_frozen BK355.out 0; have hfz10_1 := blk_frozen BK355.out 1))
   go_ret
   exact ⟨by first | rfl | (simp [errW_none, errW_some] <;> rfl) | (simp [*, errW_none, errW_some] <;> rfl), by repeat (first | (with_reducible first | exact HB.out | apply below_alloc | apply pw_below_drewN | apply below_drew1 | refine below_set ?_ GE355.out) | exact HB.out)⟩
  ·replace c6 := Bool.eq_false_iff.mpr c6
   subst c6
   have H1 : (some 0) = some r := by rw [if_neg (show ¬ (false = true) by decide)] at H; exact H
   clear H; have H := H1; clear H1; obtain rfl := Option.some.inj H
   go_enter Tryz.func130, Tryz.ntmps130
   go_wp2_with (first | ((with_reducible refine gate_dst (N := 1) rfl ?_); refine box_event ?hg (N := 1) ?hd (cs := #[.int .i64 a0_0, .int .i64 a0_1]) (t := 46) ?hr ?_; (case hd => rfl); (case hg => rfl); (case hr => first | (go_simp; done) | (go_simp; rfl)); intro gb355 hg w11 hbox hb; have BK355 := Aside0.mk (hbox); obtain ⟨GW355, nHB⟩ := geA hg hb; have GE355 := GW355; replace HB := nHB; clear nHB; clear hb hbox hg; have hcz12_0 := czZ BK355 0 (.int .i64 a0_0); have hcz12_1 := czZ BK355 1 (.int .i64 a0_1); have hfz12_0 := blk_frozen BK355.out 0; have hfz12_1 := blk_frozen BK355.out 1) | (go_at_call 71; (with_reducible refine (bucket_CheckS.calls a0_0 a0_1 false _ A5.out).mono ?_); rintro e w13 ⟨rfl, hb⟩; replace BK355 := bdZ BK355 hb; replace HB := stA hb; clear hb))
   go_ret
   exact ⟨by first | rfl | (simp [errW_none, errW_some] <;> rfl) | (simp [*, errW_none, errW_some] <;> rfl), by repeat (first | (with_reducible first | exact HB.out | apply below_alloc | apply pw_below_drewN | apply below_drew1 | refine below_set ?_ GE355.out) | exact HB.out)⟩

/-! ### bucket_BytesS: pure, behind function 130 -/
section
open Go.Proofs.YtfahbgkoldoflaaGreatDoor.Sp
noncomputable def bucket_BytesS.f (t : Int) (h : Int) : Option (Int) := some (bytesB t h)
theorem bucket_BytesS.eq {t : Int} {h : Int}  : bucket_BytesS.f t h = some (bytesB t h) := rfl
theorem bucket_Bytes.main {t : Int} {h : Int}  : bucket_Bytes.f t h = some (bytesB t h) := by
 unfold bucket_Bytes.f bytesB
 rw [bucket_CheckS.eq]
 simp only [Option.bind_some]
 by_cases c : bOk t h = true
 ·obtain ⟨b1, b2, b3, b4⟩ := bOk_iff.1 c
  rw [if_pos c, if_pos c]
  have e : wrap64 (Int.tdiv h 1000000) = h / 1000000 := by rw [Int.tdiv_eq_ediv_of_nonneg b3, w64 (by omega)]
  rw [e]
  by_cases z : (t == 0 && h == 0) = true
  ·rw [if_pos z]; simp at z; obtain ⟨rfl, rfl⟩ := z; rfl
  ·rw [if_neg z]
 ·rw [if_neg c, if_neg c]; simp
end
theorem bucket_BytesS.calls (a0_0 : Int) (a0_1 : Int) (r : Int) (w : World) (h : bucket_BytesS.f a0_0 a0_1 = some r) :
  Calls Tryz.prog 130 #[.agg #[.int .i64 a0_0, .int .i64 a0_1]] w fun e w' => e = .returned (.int .i64 r) ∧ Below w.heap.size w w' := by
 exact bucket_Bytes.calls a0_0 a0_1 r w (by rw [bucket_Bytes.main ]; exact h)

/-! ### bucket_Take: function 81 -/
noncomputable def bucket_Take.j0 : Nat → Int → Bool → Int → Int → Option (Int × Int × Int)
 | 0, _, _, _, _ => none
 | k + 1, x1, x6, x358000, x358001 => if x6 = true then (some (x358000, x358001, 201)) else ((bucket_BytesS.f x358000 x358001).bind fun t360 => (if x1 > t360 then (some (x358000, x358001, 203)) else (some (x358000, wrap64 (x358001 - (wrap64 (x1 * 1000000))), 0))))
noncomputable def bucket_Take.f (k : Nat) (a0_0 : Int) (a0_1 : Int) (a1 : Int) : Option (Int × Int × Int) := (bucket_CheckS.f a0_0 a0_1).bind fun t359 => (if t359 = true then (bucket_Take.j0 k a1 (decide (a1 < 1)) a0_0 a0_1) else (bucket_Take.j0 k a1 true a0_0 a0_1))
set_option maxHeartbeats 8000000 in
set_option maxRecDepth 100000 in
theorem bucket_Take.calls (k : Nat) (a0_0 : Int) (a0_1 : Int) (a1 : Int) (r1 : Int) (r2 : Int) (r3 : Int) (w : World) (h : bucket_Take.f k a0_0 a0_1 a1 = some (r1, r2, r3)) :
  Calls Tryz.prog 81 #[.agg #[.int .i64 a0_0, .int .i64 a0_1], .int .i64 a1] w fun e w' => e = .returned (.tuple #[.agg #[.int .i64 r1, .int .i64 r2], .int .i64 r3]) ∧ Below w.heap.size w w' := by
 have hu46 := Tryz.underlying46; have HB := Aside0.mk (Below.refl w.heap.size w); have H : ((bucket_CheckS.f a0_0 a0_1).bind fun t359 => (if t359 = true then (bucket_Take.j0 k a1 (decide (a1 < 1)) a0_0 a0_1) else (bucket_Take.j0 k a1 true a0_0 a0_1))) = some (r1, r2, r3) := h; clear h; have HC3 := Aside0.mk H; clear H
 go_enter Tryz.func81, Tryz.ntmps81
 go_upto_region 1 with (first | ((with_reducible refine gate_dst (N := 2) rfl ?_); refine box_event ?hg (N := 2) ?hd (cs := #[.int .i64 a0_0, .int .i64 a0_1]) (t := 46) ?hr ?_; (case hd => rfl); (case hg => rfl); (case hr => first | (go_simp; done) | (go_simp; rfl)); intro gb357 hg w4 hbox hb; have BK357 := Aside0.mk (hbox); obtain ⟨GW357, nHB⟩ := geA hg hb; have GE357 := GW357; replace HB := nHB; clear nHB; clear hb hbox hg) | ((with_reducible refine gate_dst (N := 4) rfl ?_); refine box_event ?hg (N := 4) ?hd (cs := #[.int .i64 0, .int .i64 0]) (t := 46) ?hr ?_; (case hd => rfl); (case hg => rfl); (case hr => first | (go_simp; done) | (go_simp; rfl)); intro gb358 hg w5 hbox hb; have BK358 := Aside0.mk (hbox); obtain ⟨GW358, nHB⟩ := geA hg hb; have GE358 := GW358; obtain ⟨NB357_358, NB358_357, nBK⟩ := nbA BK357 hg hb; replace BK357 := nBK; clear nBK; replace HB := nHB; clear nHB; clear hb hbox hg))
 (try simp only [Act.put, sA, sB, sC])
 go_cut [6] (fun v6 wc => ∃ (kq : Nat) (x6_2 : Bool), v6 = .bool x6_2 ∧ Aside0 (bucket_Take.j0 kq a1 x6_2 a0_0 a0_1 = some (r1, r2, r3)) ∧ Aside0 (kq ≤ k) ∧ Aside0 (wc.heap[gb357]? = some (.cells #[.int .i64 a0_0, .int .i64 a0_1] 46 (0, 0))) ∧ Aside0 (wc.heap[gb358]? = some (.cells #[.int .i64 0, .int .i64 0] 46 (0, 0))) ∧ Aside0 (Below w.heap.size w wc))
 case first =>
  have H := HC3.out; clear HC3; replace H := Option.bind_eq_some_iff.mp H; obtain ⟨t359, A60, H⟩ := H; replace H : (if t359 = true then (bucket_Take.j0 k a1 (decide (a1 < 1)) a0_0 a0_1) else (bucket_Take.j0 k a1 true a0_0 a0_1)) = some (r1, r2, r3) := H; have A6 := Aside0.mk A60; clear A60
  by_cases c7 : t359 = true
  ·subst c7
   have H1 : (bucket_Take.j0 k a1 (decide (a1 < 1)) a0_0 a0_1) = some (r1, r2, r3) := by rw [if_pos rfl] at H; exact H
   clear H; have H := H1; clear H1; have H' := Aside0.mk H; clear H; have hnb8 := NB357_358.out; have hnc8 := NB358_357.out; have hcz9_0 := czZ BK357 0 (.int .i64 a0_0); have hcz9_1 := czZ BK357 1 (.int .i64 a0_1); have hfz9_0 := blk_frozen BK357.out 0; have hfz9_1 := blk_frozen BK357.out 1
   go_wp2_with (first | ((with_reducible refine gate_callee (f := 71) rfl ?_); refine goesLA_ (some 8) rfl rfl Tryz.func71 rfl #[.agg #[.int .i64 a0_0, .int .i64 a0_1]] rfl ?_; (with_reducible refine (bucket_CheckS.calls a0_0 a0_1 true _ A6.out).mono ?_); rintro e w10 ⟨rfl, hb⟩; refine ⟨_, rfl, ?_⟩; replace BK357 := bdZ BK357 hb; replace BK358 := bdZ BK358 hb; replace HB := stA hb; clear hb))
   go_meet
   case rel => exact ⟨_, (decide (a1 < 1)), (by first | rfl | (simp; done) | (simp [*]; done)), H', ⟨by first | omega | exact Nat.le_refl _⟩, ⟨by (with_reducible repeat first | apply blk_drewN | apply blk_drew | apply blk_alloc); exact BK357.out⟩, ⟨by (with_reducible repeat first | apply blk_drewN | apply blk_drew | apply blk_alloc); exact BK358.out⟩, ⟨by repeat (first | (with_reducible first | exact HB.out | apply below_alloc | apply pw_below_drewN | apply below_drew1 | refine below_set ?_ (Aside0.out (by assumption))) | exact HB.out)⟩⟩
  ·replace c7 := Bool.eq_false_iff.mpr c7
   subst c7
   have H1 : (bucket_Take.j0 k a1 true a0_0 a0_1) = some (r1, r2, r3) := by rw [if_neg (show ¬ (false = true) by decide)] at H; exact H
   clear H; have H := H1; clear H1; have H' := Aside0.mk H; clear H; have hnb11 := NB357_358.out; have hnc11 := NB358_357.out; have hcz12_0 := czZ BK357 0 (.int .i64 a0_0); have hcz12_1 := czZ BK357 1 (.int .i64 a0_1); have hfz12_0 := blk_frozen BK357.out 0; have hfz12_1 := blk_frozen BK357.out 1
   go_wp2_with (first | ((with_reducible refine gate_callee (f := 71) rfl ?_); refine goesLA_ (some 8) rfl rfl Tryz.func71 rfl #[.agg #[.int .i64 a0_0, .int .i64 a0_1]] rfl ?_; (with_reducible refine (bucket_CheckS.calls a0_0 a0_1 false _ A6.out).mono ?_); rintro e w13 ⟨rfl, hb⟩; refine ⟨_, rfl, ?_⟩; replace BK357 := bdZ BK357 hb; replace BK358 := bdZ BK358 hb; replace HB := stA hb; clear hb))
   go_meet
   case rel => exact ⟨_, (true), (by first | rfl | (simp; done) | (simp [*]; done)), H', ⟨by first | omega | exact Nat.le_refl _⟩, ⟨by (with_reducible repeat first | apply blk_drewN | apply blk_drew | apply blk_alloc); exact BK357.out⟩, ⟨by (with_reducible repeat first | apply blk_drewN | apply blk_drew | apply blk_alloc); exact BK358.out⟩, ⟨by repeat (first | (with_reducible first | exact HB.out | apply below_alloc | apply pw_below_drewN | apply below_drew1 | refine below_set ?_ (Aside0.out (by assumption))) | exact HB.out)⟩⟩
 case rest =>
  clear HC3
  try clear c1
  try clear p2
  try clear c7
  try clear c8
  try clear c11
  try clear hcz12_0
  try clear hcz12_1
  try clear hcz9_0
  try clear hcz9_1
  try clear hfz12_0
  try clear hfz12_1
  try clear hfz9_0
  try clear hfz9_1
  obtain ⟨kq, x6_2, rfl, HA, HJ2, BK357, BK358, HB⟩ := hcut
  cases kq with
  | zero => exact absurd HA.out (by simp [bucket_Take.j0])
  | succ kj2 =>
   have H := HA.out; clear HA; simp only [bucket_Take.j0] at H
   by_cases c14 : x6_2 = true
   ·subst c14
    have H1 : (some (a0_0, a0_1, 201)) = some (r1, r2, r3) := by rw [if_pos rfl] at H; exact H
    clear H; have H := H1; clear H1; simp only [Option.some.injEq, Prod.mk.injEq] at H; obtain ⟨rfl, rfl, rfl⟩ := H; have hnb15 := NB357_358.out; have hnc15 := NB358_357.out; have hcz16_0 : wc.cell? ⟨gb357, 0, none⟩ = some (.int .i64 a0_0) := (blk_cell BK357.out 0).trans rfl; have hcz16_1 : wc.cell? ⟨gb357, 1, none⟩ = some (.int .i64 a0_1) := (blk_cell BK357.out 1).trans rfl; have hfz16_0 := blk_frozen BK357.out 0; have hfz16_1 := blk_frozen BK357.out 1; have hcz17_0 : wc.cell? ⟨gb358, 0, none⟩ = some (.int .i64 0) := (blk_cell BK358.out 0).trans rfl; have hcz17_1 : wc.cell? ⟨gb358, 1, none⟩ = some (.int .i64 0) := (blk_cell BK358.out 1).trans rfl; have hfz17_0 := blk_frozen BK358.out 0; have hfz17_1 := blk_frozen BK358.out 1
    go_wp2
    refine bodyPost_ret (results_ct rfl _ _ gb358 46 #[.int .i64 a0_0, .int .i64 a0_1] (0, 0) _ rfl (by (with_reducible repeat first | apply blk_drewN | apply blk_drew | apply blk_alloc); refine blk_put (cs := #[.int .i64 a0_0, .int .i64 0]) ?_ 1 _ rfl; (with_reducible repeat first | apply blk_drewN | apply blk_drew | apply blk_alloc); refine blk_put (cs := #[.int .i64 0, .int .i64 0]) ?_ 0 _ rfl; (with_reducible repeat first | apply blk_drewN | apply blk_drew | apply blk_alloc); exact BK358.out) Tryz.underlying46 rfl (by kernel_rfl)) rfl ?_; exact ⟨by first | rfl | (simp [errW_none, errW_some] <;> rfl) | (simp [*, errW_none, errW_some] <;> rfl), by repeat (first | (with_reducible first | exact HB.out | apply below_alloc | apply pw_below_drewN | apply below_drew1 | refine below_set ?_ (Aside0.out (by assumption))) | exact HB.out)⟩
   ·replace c14 := Bool.eq_false_iff.mpr c14
    subst c14
    have H1 : ((bucket_BytesS.f a0_0 a0_1).bind fun t360 => (if a1 > t360 then (some (a0_0, a0_1, 203)) else (some (a0_0, wrap64 (a0_1 - (wrap64 (a1 * 1000000))), 0)))) = some (r1, r2, r3) := by rw [if_neg (show ¬ (false = true) by decide)] at H; exact H
    clear H; have H := H1; clear H1; replace H := Option.bind_eq_some_iff.mp H; obtain ⟨t360, A180, H⟩ := H; replace H : (if a1 > t360 then (some (a0_0, a0_1, 203)) else (some (a0_0, wrap64 (a0_1 - (wrap64 (a1 * 1000000))), 0))) = some (r1, r2, r3) := H; have A18 := Aside0.mk A180; clear A180
    by_cases c19 : a1 > t360
    ·rw [if_pos c19] at H
     have c19b0 : decide (t360 < a1) = true := decide_eq_true c19; clear c19; simp only [Option.some.injEq, Prod.mk.injEq] at H; obtain ⟨rfl, rfl, rfl⟩ := H; have hnb20 := NB357_358.out; have hnc20 := NB358_357.out; have hcz21_0 : wc.cell? ⟨gb357, 0, none⟩ = some (.int .i64 a0_0) := (blk_cell BK357.out 0).trans rfl; have hcz21_1 : wc.cell? ⟨gb357, 1, none⟩ = some (.int .i64 a0_1) := (blk_cell BK357.out 1).trans rfl; have hfz21_0 := blk_frozen BK357.out 0; have hfz21_1 := blk_frozen BK357.out 1
     go_wp2_with (first | ((with_reducible refine gate_callee (f := 130) rfl ?_); refine goesLA_ (some 18) rfl rfl Tryz.func130 rfl #[.agg #[.int .i64 a0_0, .int .i64 a0_1]] rfl ?_; (with_reducible refine (bucket_BytesS.calls a0_0 a0_1 t360 _ A18.out).mono ?_); rintro e w22 ⟨rfl, hb⟩; refine ⟨_, rfl, ?_⟩; replace BK357 := bdZ BK357 hb; replace BK358 := bdZ BK358 hb; replace HB := stA hb; clear hb; have hcz23_0 := czZ BK357 0 (.int .i64 a0_0); have hcz23_1 := czZ BK357 1 (.int .i64 a0_1); have hfz23_0 := blk_frozen BK357.out 0; have hfz23_1 := blk_frozen BK357.out 1; have hcz24_0 := czZ BK358 0 (.int .i64 0); have hcz24_1 := czZ BK358 1 (.int .i64 0); have hfz24_0 := blk_frozen BK358.out 0; have hfz24_1 := blk_frozen BK358.out 1))
     refine bodyPost_ret (results_ct rfl _ _ gb358 46 #[.int .i64 a0_0, .int .i64 a0_1] (0, 0) _ rfl (by (with_reducible repeat first | apply blk_drewN | apply blk_drew | apply blk_alloc); refine blk_put (cs := #[.int .i64 a0_0, .int .i64 0]) ?_ 1 _ rfl; (with_reducible repeat first | apply blk_drewN | apply blk_drew | apply blk_alloc); refine blk_put (cs := #[.int .i64 0, .int .i64 0]) ?_ 0 _ rfl; (with_reducible repeat first | apply blk_drewN | apply blk_drew | apply blk_alloc); exact BK358.out) Tryz.underlying46 rfl (by kernel_rfl)) rfl ?_; exact ⟨by first | rfl | (simp [errW_none, errW_some] <;> rfl) | (simp [*, errW_none, errW_some] <;> rfl), by repeat (first | (with_reducible first | exact HB.out | apply below_alloc | apply pw_below_drewN | apply below_drew1 | refine below_set ?_ (Aside0.out (by assumption))) | exact HB.out)⟩
    ·rw [if_neg c19] at H
     have c19b0 : decide (t360 < a1) = false := decide_eq_false c19; clear c19; simp only [Option.some.injEq, Prod.mk.injEq] at H; obtain ⟨rfl, rfl, rfl⟩ := H; have hnb25 := NB357_358.out; have hnc25 := NB358_357.out; have hcz26_0 : wc.cell? ⟨gb357, 0, none⟩ = some (.int .i64 a0_0) := (blk_cell BK357.out 0).trans rfl; have hcz26_1 : wc.cell? ⟨gb357, 1, none⟩ = some (.int .i64 a0_1) := (blk_cell BK357.out 1).trans rfl; have hfz26_0 := blk_frozen BK357.out 0; have hfz26_1 := blk_frozen BK357.out 1
     go_wp2_with (first | ((with_reducible refine gate_callee (f := 130) rfl ?_); refine goesLA_ (some 18) rfl rfl Tryz.func130 rfl #[.agg #[.int .i64 a0_0, .int .i64 a0_1]] rfl ?_; (with_reducible refine (bucket_BytesS.calls a0_0 a0_1 t360 _ A18.out).mono ?_); rintro e w27 ⟨rfl, hb⟩; refine ⟨_, rfl, ?_⟩; replace BK357 := bdZ BK357 hb; replace BK358 := bdZ BK358 hb; replace HB := stA hb; clear hb; have hcz28_0 := czZ BK357 0 (.int .i64 a0_0); have hcz28_1 := czZ BK357 1 (.int .i64 a0_1); have hfz28_0 := blk_frozen BK357.out 0; have hfz28_1 := blk_frozen BK357.out 1; have hcz29_0 := czZ BK358 0 (.int .i64 0); have hcz29_1 := czZ BK358 1 (.int .i64 0); have hfz29_0 := blk_frozen BK358.out 0; have hfz29_1 := blk_frozen BK358.out 1))
     refine bodyPost_ret (results_ct rfl _ _ gb358 46 #[.int .i64 a0_0, .int .i64 (wrap64 (a0_1 - (wrap64 (a1 * 1000000))))] (0, 0) _ rfl (by (with_reducible repeat first | apply blk_drewN | apply blk_drew | apply blk_alloc); refine blk_put (cs := #[.int .i64 a0_0, .int .i64 0]) ?_ 1 _ rfl; (with_reducible repeat first | apply blk_drewN | apply blk_drew | apply blk_alloc); refine blk_put (cs := #[.int .i64 0, .int .i64 0]) ?_ 0 _ rfl; (with_reducible repeat first | apply blk_drewN | apply blk_drew | apply blk_alloc); refine blk_far ?_ NB358_357.out _; (with_reducible repeat first | apply blk_drewN | apply blk_drew | apply blk_alloc); exact BK358.out) Tryz.underlying46 rfl (by kernel_rfl)) rfl ?_; exact ⟨by first | rfl | (simp [errW_none, errW_some] <;> rfl) | (simp [*, errW_none, errW_some] <;> rfl), by repeat (first | (with_reducible first | exact HB.out | apply below_alloc | apply pw_below_drewN | apply below_drew1 | refine below_set ?_ (Aside0.out (by assumption))) | exact HB.out)⟩

/-! ### bucket_TakeS: pure, behind function 81 -/
section
open Go.Proofs.YtfahbgkoldoflaaGreatDoor.Sp
noncomputable def bucket_TakeS.f (t : Int) (h : Int) (n : Int) : Option (Int × Int × Int) := need (I n) (some (tkB t h n))
theorem bucket_TakeS.eq {t : Int} {h : Int} {n : Int} (h1 : I n) : bucket_TakeS.f t h n = some (tkB t h n) := need_pos h1
theorem bucket_Take.main {t : Int} {h : Int} {n : Int} (h1 : I n) : bucket_Take.f 1 t h n = some (tkB t h n) := by
 unfold bucket_Take.f
 simp only [bucket_Take.j0]
 rw [bucket_CheckS.eq, bucket_BytesS.eq]
 simp only [Option.bind_some]
 unfold tkB bytesB
 by_cases c : bOk t h = true
 ·obtain ⟨b1, b2, b3, b4⟩ := bOk_iff.1 c; simp only [if_pos c, if_pos rfl]
  by_cases n1 : n < 1
  ·rw [if_pos (decide_eq_true n1), if_pos n1]
  ·rw [if_neg (by simp; omega), if_neg n1]
   by_cases n2 : n > h / 1000000
   ·rw [if_pos n2, if_pos (by omega)]
   ·rw [if_neg n2, if_neg (by omega), w64 (x := n * 1000000) (by omega), w64 (by omega)]
 ·simp [c]
end
theorem bucket_TakeS.calls (a0_0 : Int) (a0_1 : Int) (a1 : Int) (r1 : Int) (r2 : Int) (r3 : Int) (w : World) (h : bucket_TakeS.f a0_0 a0_1 a1 = some (r1, r2, r3)) :
  Calls Tryz.prog 81 #[.agg #[.int .i64 a0_0, .int .i64 a0_1], .int .i64 a1] w fun e w' => e = .returned (.tuple #[.agg #[.int .i64 r1, .int .i64 r2], .int .i64 r3]) ∧ Below w.heap.size w w' := by
 obtain ⟨hc, h⟩ := Sp.need_some h; have h1 := hc; exact bucket_Take.calls 1 a0_0 a0_1 a1 r1 r2 r3 w (by rw [bucket_Take.main h1]; exact h)

/-! ### guide_Used: function 82 -/
noncomputable def guide_Used.f (a0 : Int) (a1 : Int) (a2 : Int) : Option (Bool) := if (mn (mn a0 a1) a2) ≥ 0 then ((big_MulS.f a1 131072).bind fun bt361 => ((big_MulS.f a0 a2).bind fun bt364 => ((big_CmpS.f bt361.1 bt361.2.1 bt361.2.2 bt364.1 bt364.2.1 bt364.2.2).bind fun t367 => (some (decide (t367 ≥ 0)))))) else (some false)
set_option maxHeartbeats 8000000 in
set_option maxRecDepth 100000 in
theorem guide_Used.calls (a0 : Int) (a1 : Int) (a2 : Int) (r : Bool) (w : World) (h : guide_Used.f a0 a1 a2 = some r) :
  Calls Tryz.prog 82 #[.int .i64 a0, .int .i64 a1, .int .i64 a2] w fun e w' => e = .returned (.bool r) ∧ Below w.heap.size w w' := by
 have HB := Aside0.mk (Below.refl w.heap.size w); have H : (if (mn (mn a0 a1) a2) ≥ 0 then ((big_MulS.f a1 131072).bind fun bt361 => ((big_MulS.f a0 a2).bind fun bt364 => ((big_CmpS.f bt361.1 bt361.2.1 bt361.2.2 bt364.1 bt364.2.1 bt364.2.2).bind fun t367 => (some (decide (t367 ≥ 0)))))) else (some false)) = some r := h; clear h
 obtain ⟨ji4, hji4⟩ : ∃ j_ : Int, (mn a0 a1) = j_ := ⟨_, rfl⟩
 replace H : (if (mn (ji4) a2) ≥ 0 then ((big_MulS.f a1 131072).bind fun bt361 => ((big_MulS.f a0 a2).bind fun bt364 => ((big_CmpS.f bt361.1 bt361.2.1 bt361.2.2 bt364.1 bt364.2.1 bt364.2.2).bind fun t367 => (some (decide (t367 ≥ 0)))))) else (some false)) = some r := by first | (rw [hji4] at H; exact H) | (simp only [hji4] at H ⊢; exact H)
 have hji4_ : (if a1 < a0 then a1 else a0) = ji4 := hji4
 obtain ⟨ji5, hji5⟩ : ∃ j_ : Int, (mn (ji4) a2) = j_ := ⟨_, rfl⟩
 replace H : (if (ji5) ≥ 0 then ((big_MulS.f a1 131072).bind fun bt361 => ((big_MulS.f a0 a2).bind fun bt364 => ((big_CmpS.f bt361.1 bt361.2.1 bt361.2.2 bt364.1 bt364.2.1 bt364.2.2).bind fun t367 => (some (decide (t367 ≥ 0)))))) else (some false)) = some r := by first | (rw [hji5] at H; exact H) | (simp only [hji5] at H ⊢; exact H)
 have hji5_ : (if a2 < (ji4) then a2 else (ji4)) = ji5 := hji5
 by_cases c6 : (ji5) ≥ 0
 ·rw [if_pos c6] at H
  have c6b0 : decide (0 ≤ (ji5)) = true := decide_eq_true c6; clear c6; replace H := Option.bind_eq_some_iff.mp H; obtain ⟨⟨t361, t362, t363⟩, A70, H⟩ := H; replace H : ((big_MulS.f a0 a2).bind fun bt364 => ((big_CmpS.f t361 t362 t363 bt364.1 bt364.2.1 bt364.2.2).bind fun t367 => (some (decide (t367 ≥ 0))))) = some r := H; have A7 := Aside0.mk A70; clear A70; replace H := Option.bind_eq_some_iff.mp H; obtain ⟨⟨t364, t365, t366⟩, A80, H⟩ := H; replace H : ((big_CmpS.f t361 t362 t363 t364 t365 t366).bind fun t367 => (some (decide (t367 ≥ 0)))) = some r := H; have A8 := Aside0.mk A80; clear A80; replace H := Option.bind_eq_some_iff.mp H; obtain ⟨t367, A90, H⟩ := H; replace H : (some (decide (t367 ≥ 0))) = some r := H; have A9 := Aside0.mk A90; clear A90; obtain rfl := Option.some.inj H
  go_enter Tryz.func82, Tryz.ntmps82
  go_wp2_with (first | (go_at_call 131; (with_reducible refine (big_MulS.calls a1 131072 t361 t362 t363 _ A7.out).mono ?_); rintro e w10 ⟨rfl, hb⟩; replace HB := stA hb; clear hb) | (go_at_call 131; (with_reducible refine (big_MulS.calls a0 a2 t364 t365 t366 _ A8.out).mono ?_); rintro e w11 ⟨rfl, hb⟩; replace HB := stA hb; clear hb) | (go_at_call 112; (with_reducible refine (big_CmpS.calls t361 t362 t363 t364 t365 t366 t367 _ A9.out).mono ?_); rintro e w12 ⟨rfl, hb⟩; replace HB := stA hb; clear hb))
  go_ret
  exact ⟨by first | rfl | (simp [errW_none, errW_some] <;> rfl) | (simp only [← hji4, ← hji5]; first | rfl | (simp [errW_none, errW_some] <;> rfl)) | (simp [*, errW_none, errW_some] <;> rfl), by repeat (first | (with_reducible first | exact HB.out | apply below_alloc | apply pw_below_drewN | apply below_drew1) | exact HB.out)⟩
 ·rw [if_neg c6] at H
  have c6b0 : decide (0 ≤ (ji5)) = false := decide_eq_false c6; clear c6; obtain rfl := Option.some.inj H
  go_enter Tryz.func82, Tryz.ntmps82
  go_wp2
  go_ret
  exact ⟨by first | rfl | (simp [errW_none, errW_some] <;> rfl) | (simp only [← hji4, ← hji5]; first | rfl | (simp [errW_none, errW_some] <;> rfl)) | (simp [*, errW_none, errW_some] <;> rfl), by repeat (first | (with_reducible first | exact HB.out | apply below_alloc | apply pw_below_drewN | apply below_drew1) | exact HB.out)⟩

/-! ### guide_UsedS: pure, behind function 82 -/
section
open Go.Proofs.YtfahbgkoldoflaaGreatDoor.Sp
noncomputable def guide_UsedS.f (a : Int) (b : Int) (c : Int) : Option (Bool) := need ((I a) ∧ (I b) ∧ (I c)) (some (usedQ a b c))
theorem guide_UsedS.eq {a : Int} {b : Int} {c : Int} (h1 : I a) (h2 : I b) (h3 : I c) : guide_UsedS.f a b c = some (usedQ a b c) := need_pos ⟨h1, h2, h3⟩
theorem guide_Used.main {a : Int} {b : Int} {c : Int} (h1 : I a) (h2 : I b) (h3 : I c) : guide_Used.f a b c = some (usedQ a b c) := by
 unfold guide_Used.f usedQ
 by_cases k : 0 ≤ a ∧ 0 ≤ b ∧ 0 ≤ c
 ·have m : mn (mn a b) c ≥ 0 := by unfold mn; (repeat' split) <;> omega
  have p1 := mul_le (A := 9223372036854775807) (C := 9223372036854775807) k.1 h1.2 k.2.2 h3.2
  rw [if_pos m, if_pos k, big_MulS.eq h2 (by omega), big_MulS.eq h1 h3]
  simp only [Option.bind_some]
  rw [big_CmpS.el (by omega) (encH_U (by omega)) encL_U, val_enc]
  simp only [Option.bind_some]
  congr 1
  rw [decide_eq_decide]
  unfold cmpI
  split
  ·omega
  ·split <;> omega
 ·have m : ¬ mn (mn a b) c ≥ 0 := by unfold mn; (repeat' split) <;> omega
  rw [if_neg m, if_neg k]
end
theorem guide_UsedS.calls (a0 : Int) (a1 : Int) (a2 : Int) (r : Bool) (w : World) (h : guide_UsedS.f a0 a1 a2 = some r) :
  Calls Tryz.prog 82 #[.int .i64 a0, .int .i64 a1, .int .i64 a2] w fun e w' => e = .returned (.bool r) ∧ Below w.heap.size w w' := by
 obtain ⟨hc, h⟩ := Sp.need_some h; obtain ⟨h1, h2, h3⟩ := hc; exact guide_Used.calls a0 a1 a2 r w (by rw [guide_Used.main h1 h2 h3]; exact h)

end Go.Proofs.YtfahbgkoldoflaaGreatDoor.Px
