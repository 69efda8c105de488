/- Printed by px.py, over the kit's print. Conditions: none beside the theorems' own. -/
import Derived.Test.YtfahbgkoldoflaaGreatDoorPx0
import Derived.Test.YtfahbgkoldoflaaGreatDoorPx12
import Derived.Test.YtfahbgkoldoflaaGreatDoorPx17
import Derived.Test.YtfahbgkoldoflaaGreatDoorPx19
import Derived.Test.YtfahbgkoldoflaaGreatDoorPx20
import Derived.Test.YtfahbgkoldoflaaGreatDoorPx24
import Derived.Test.YtfahbgkoldoflaaGreatDoorPx30
import Derived.Test.YtfahbgkoldoflaaGreatDoorPx34
import Derived.Test.YtfahbgkoldoflaaGreatDoorPx41
import Derived.Test.YtfahbgkoldoflaaGreatDoorSpec
namespace Go.Proofs.YtfahbgkoldoflaaGreatDoor.Px
open Go.RowKit Go.Proofs.YtfahbgkoldoflaaGreatDoorW.PrintWords Go.Proofs.YtfahbgkoldoflaaGreatDoorW.PrintLast Go.Proofs.YtfahbgkoldoflaaGreatDoorW.PrintMore
attribute [local go_sem] max2_int min2_int max_two min_two max_three min_three max_four min_four
set_option linter.unusedVariables false
set_option linter.unusedSimpArgs false

/-! ### grow_calm_by: function 191 -/
noncomputable def grow_calm_by.f (a0_0 : Int) (a1 : Int) (a2 : Int) : Option (Int) := if a0_0 ≤ a1 then (some 0) else ((frac_FloorS.f a2 (wrap64 (a0_0 - a1)) a1).bind fun bt393 => (if bt393.2 = 0 then (some (mn bt393.1 (wrap64 (a0_0 - a1)))) else (some (wrap64 (a0_0 - a1)))))
set_option maxHeartbeats 8000000 in
set_option maxRecDepth 100000 in
theorem grow_calm_by.calls (a0_0 : Int) (a1 : Int) (a2 : Int) (r : Int) (w : World) (h : grow_calm_by.f a0_0 a1 a2 = some r) :
  Calls Tryz.prog 191 #[.agg #[.int .i64 a0_0], .int .i64 a1, .int .i64 a2] w fun e w' => e = .returned (.int .i64 r) ∧ Below w.heap.size w w' := by
 have hu69 := Tryz.underlying69; have HB := Aside0.mk (Below.refl w.heap.size w); have H : (if a0_0 ≤ a1 then (some 0) else ((frac_FloorS.f a2 (wrap64 (a0_0 - a1)) a1).bind fun bt393 => (if bt393.2 = 0 then (some (mn bt393.1 (wrap64 (a0_0 - a1)))) else (some (wrap64 (a0_0 - a1)))))) = some r := h; clear h
 by_cases c4 : a0_0 ≤ a1
 ·rw [if_pos c4] at H
  have c4b0 : decide (a0_0 ≤ a1) = true := decide_eq_true c4; clear c4; obtain rfl := Option.some.inj H
  go_enter Tryz.func191, Tryz.ntmps191
  go_wp2_with (first | ((with_reducible refine gate_dst (N := 3) rfl ?_); refine box_event ?hg (N := 3) ?hd (cs := #[.int .i64 a0_0]) (t := 69) ?hr ?_; (case hd => rfl); (case hg => rfl); (case hr => first | (go_simp; done) | (go_simp; rfl)); intro gb392 hg w5 hbox hb; have BK392 := Aside0.mk (hbox); obtain ⟨GW392, nHB⟩ := geA hg hb; have GE392 := GW392; replace HB := nHB; clear nHB; clear hb hbox hg; have hcz6_0 := czZ BK392 0 (.int .i64 a0_0); have hfz6_0 := blk_frozen BK392.out 0))
  go_ret
  exact ⟨by first | rfl | (simp [errW_none, errW_some] <;> rfl) | (simp [*, errW_none, errW_some] <;> rfl), by repeat (first | (with_reducible first | exact HB.out | apply below_alloc | apply pw_below_drewN | apply below_drew1 | refine below_set ?_ GE392.out) | exact HB.out)⟩
 ·rw [if_neg c4] at H
  have c4b0 : decide (a0_0 ≤ a1) = false := decide_eq_false c4; clear c4; replace H := Option.bind_eq_some_iff.mp H; obtain ⟨⟨t393, t394⟩, A70, H⟩ := H; replace H : (if t394 = 0 then (some (mn t393 (wrap64 (a0_0 - a1)))) else (some (wrap64 (a0_0 - a1)))) = some r := H; have A7 := Aside0.mk A70; clear A70
  by_cases c8 : t394 = 0
  ·rw [if_pos c8] at H
   have c8b0 : (t394 == 0) = true := beq_iff_eq.mpr c8; have c8b1 : (t394 != 0) = false := bne_eq_false_iff_eq.mpr c8; clear c8
   obtain ⟨ji9, hji9⟩ : ∃ j_ : Int, (mn t393 (wrap64 (a0_0 - a1))) = j_ := ⟨_, rfl⟩
   replace H : (some ji9) = some r := by first | (rw [hji9] at H; exact H) | (simp only [hji9] at H ⊢; exact H)
   (try rw [hji9] at A7)
   have hji9_ : (if (wrap64 (a0_0 - a1)) < t393 then (wrap64 (a0_0 - a1)) else t393) = ji9 := hji9; obtain rfl := Option.some.inj H
   go_enter Tryz.func191, Tryz.ntmps191
   go_wp2_with (first | ((with_reducible refine gate_dst (N := 3) rfl ?_); refine box_event ?hg (N := 3) ?hd (cs := #[.int .i64 a0_0]) (t := 69) ?hr ?_; (case hd => rfl); (case hg => rfl); (case hr => first | (go_simp; done) | (go_simp; rfl)); intro gb392 hg w10 hbox hb; have BK392 := Aside0.mk (hbox); obtain ⟨GW392, nHB⟩ := geA hg hb; have GE392 := GW392; replace HB := nHB; clear nHB; clear hb hbox hg; have hcz11_0 := czZ BK392 0 (.int .i64 a0_0); have hfz11_0 := blk_frozen BK392.out 0) | ((with_reducible refine gate_callee (f := 45) rfl ?_); refine goesLA_ (some 20) rfl rfl Tryz.func45 rfl #[.int .i64 a2, .int .i64 (wrap64 (a0_0 - a1)), .int .i64 a1] rfl ?_; (with_reducible refine (frac_FloorS.calls a2 (wrap64 (a0_0 - a1)) a1 t393 t394 _ A7.out).mono ?_); rintro e w12 ⟨rfl, hb⟩; refine ⟨_, rfl, ?_⟩; replace BK392 := bdZ BK392 hb; replace HB := stA hb; clear hb; have hcz13_0 := czZ BK392 0 (.int .i64 a0_0); have hfz13_0 := blk_frozen BK392.out 0))
   go_ret
   exact ⟨by first | rfl | (simp [errW_none, errW_some] <;> rfl) | (simp only [← hji9]; first | rfl | (simp [errW_none, errW_some] <;> rfl)) | (simp [*, errW_none, errW_some] <;> rfl), by repeat (first | (with_reducible first | exact HB.out | apply below_alloc | apply pw_below_drewN | apply below_drew1 | refine below_set ?_ GE392.out) | exact HB.out)⟩
  ·rw [if_neg c8] at H
   have c8b0 : (t394 == 0) = false := beq_eq_false_iff_ne.mpr c8; have c8b1 : (t394 != 0) = true := bne_iff_ne.mpr c8; obtain rfl := Option.some.inj H
   go_enter Tryz.func191, Tryz.ntmps191
   go_wp2_with (first | ((with_reducible refine gate_dst (N := 3) rfl ?_); refine box_event ?hg (N := 3) ?hd (cs := #[.int .i64 a0_0]) (t := 69) ?hr ?_; (case hd => rfl); (case hg => rfl); (case hr => first | (go_simp; done) | (go_simp; rfl)); intro gb392 hg w14 hbox hb; have BK392 := Aside0.mk (hbox); obtain ⟨GW392, nHB⟩ := geA hg hb; have GE392 := GW392; replace HB := nHB; clear nHB; clear hb hbox hg; have hcz15_0 := czZ BK392 0 (.int .i64 a0_0); have hfz15_0 := blk_frozen BK392.out 0) | ((with_reducible refine gate_callee (f := 45) rfl ?_); refine goesLA_ (some 20) rfl rfl Tryz.func45 rfl #[.int .i64 a2, .int .i64 (wrap64 (a0_0 - a1)), .int .i64 a1] rfl ?_; (with_reducible refine (frac_FloorS.calls a2 (wrap64 (a0_0 - a1)) a1 t393 t394 _ A7.out).mono ?_); rintro e w16 ⟨rfl, hb⟩; refine ⟨_, rfl, ?_⟩; replace BK392 := bdZ BK392 hb; replace HB := stA hb; clear hb; have hcz17_0 := czZ BK392 0 (.int .i64 a0_0); have hfz17_0 := blk_frozen BK392.out 0))
   go_ret
   exact ⟨by first | rfl | (simp [errW_none, errW_some] <;> rfl) | (simp [*, errW_none, errW_some] <;> rfl), by repeat (first | (with_reducible first | exact HB.out | apply below_alloc | apply pw_below_drewN | apply below_drew1 | refine below_set ?_ GE392.out) | exact HB.out)⟩

/-! ### grow_Both: function 8 -/
section
open Go.Proofs.YtfahbgkoldoflaaGreatDoor.Sp
theorem grow_old_part {a t u : Int} (h1 : I t) (h2 : I u) : grow_calm_by.f t (win a) (clamp u 0 68719476736) = some (byQ a t u) := by
 have w := win_bd a; have b := clamp_bd (a := u) (low := 0) (high := 68719476736) (by omega)
 unfold grow_calm_by.f byQ
 by_cases c : t ≤ win a
 ·rw [if_pos c, if_pos c]
 ·rw [if_neg c, if_neg c, w64 (x := t - win a) (by omega), frac_FloorS.eq (by omega) (by omega) (by omega)]
  unfold floorQ
  rw [if_neg (by omega)]
  have q0 : 0 ≤ clamp u 0 68719476736 * (t - win a) / win a := Int.ediv_nonneg (Int.mul_nonneg b.1 (by omega)) (by omega)
  generalize clamp u 0 68719476736 * (t - win a) / win a = q at *
  by_cases i : I q
  ·rw [fit_in i]
   simp only [Option.bind_some, if_true]
   first | rfl | (congr 1; unfold mn Sp.min2; (repeat' split) <;> omega)
  ·rw [fit_out i]
   simp only [Option.bind_some]
   rw [if_neg (by omega)]
   congr 1
   unfold Sp.min2; rw [if_pos (by omega)]
end
theorem grow_by_old (v e : Value) (w : World) : (method 329 73 (.agg #[.iface 69 v, e]) "sawtooth/grow.by").run Tryz.prog w = .ok (191, v) w := by kernel_rfl
theorem grow_is_old_old (v : Value) (w : World) : (Instr.typeAssert (.iface 73 v) 71 73 true).run Tryz.prog w = .ok (.tuple #[v, .bool true]) w := by kernel_rfl
set_option maxHeartbeats 1000000 in
set_option maxRecDepth 100000 in
theorem grow_after_old.calls (a0 a1 t s W T p n m r : Int) (hn : (if n < s then s else n) = m) (HW : Aside0 (grow_givenS.f a0 = some W)) (HT : Aside0 (safe_ClampS.f a1 0 68719476736 = some T)) (HP : Aside0 (grow_calm_by.f t W T = some p)) (HA : Aside0 (safe_Add.f W p = some n)) (HG : Aside0 (grow_givenS.f m = some r)) (w : World) :
  Calls Tryz.prog 20 #[.int .i64 a0, .int .i64 a1, .iface 73 (.agg #[.iface 69 (.agg #[.int .i64 t]), .int .i64 s])] w fun e w' => e = .returned (.int .i64 r) ∧ Below w.heap.size w w' := by
 have hm := grow_by_old; have t1 := grow_is_old_old; have hu73 := Tryz.underlying190; have hu76 := Tryz.underlying69; have hu80 := Tryz.underlying73
 go_enter Tryz.func20, Tryz.ntmps20
 go_wp2_with (first
  | (go_at_call 52; refine (grow_givenS.calls a0 W _ HW.out).mono ?_; rintro e w1 ⟨rfl, hb⟩; clear HW; have HB := Aside0.mk hb; clear hb)
  | (go_at_call 22; refine (safe_ClampS.calls a1 0 68719476736 T _ HT.out).mono ?_; rintro e w2 ⟨rfl, hb2⟩; replace HB := Aside0.mk (Go.Proofs.YtfahbgkoldoflaaGreatDoorW.PrintWords.below_then HB.out HB.out.size hb2); clear hb2)
  | (go_at_call 191; refine (grow_calm_by.calls t W T p _ HP.out).mono ?_; rintro e w3 ⟨rfl, hb3⟩; replace HB := Aside0.mk (Go.Proofs.YtfahbgkoldoflaaGreatDoorW.PrintWords.below_then HB.out HB.out.size hb3); clear hb3)
  | (go_at_call 24; refine (safe_Add.calls W p n _ HA.out).mono ?_; rintro e w4 ⟨rfl, hb4⟩; replace HB := Aside0.mk (Go.Proofs.YtfahbgkoldoflaaGreatDoorW.PrintWords.below_then HB.out HB.out.size hb4); clear hb4)
  | (go_at_call 52; refine (grow_givenS.calls m r _ HG.out).mono ?_; rintro e w5 ⟨rfl, hb5⟩; have HZ := Aside0.mk hb5; clear hb5)
  | fail)
 go_ret
 exact ⟨rfl, by first | exact below_step HB.out HZ.out | exact Go.Proofs.YtfahbgkoldoflaaGreatDoorW.PrintWords.below_then (by repeat (with_reducible first | exact HB.out | apply below_alloc | apply pw_below_drewN)) (by have := HB.out.size; simp at *; omega) HZ.out⟩
noncomputable def grow_Both.f (a0 a1 a2 a3 : Int) : Option Int := Sp.need (Sp.I a0 ∧ Sp.I a1 ∧ Sp.I a2 ∧ Sp.I a3) (some (Sp.bothQ a0 a1 a2 a3))
theorem grow_Both.eq {a0 a1 a2 a3 : Int} (h1 : Sp.I a0) (h2 : Sp.I a1) (h3 : Sp.I a2) (h4 : Sp.I a3) : grow_Both.f a0 a1 a2 a3 = some (Sp.bothQ a0 a1 a2 a3) := Sp.need_pos ⟨h1, h2, h3, h4⟩
set_option maxHeartbeats 1000000 in
set_option maxRecDepth 100000 in
theorem grow_Both.walk (a0 a1 a2 a3 r : Int) (HC : Aside0 (∀ w : World, Calls Tryz.prog 20 #[.int .i64 a0, .int .i64 a3, .iface 73 (.agg #[.iface 69 (.agg #[.int .i64 a1]), .int .i64 a2])] w fun e w' => e = .returned (.int .i64 r) ∧ Below w.heap.size w w')) (w : World) :
  Calls Tryz.prog 8 #[.int .i64 a0, .int .i64 a1, .int .i64 a2, .int .i64 a3] w fun e w' => e = .returned (.int .i64 r) ∧ Below w.heap.size w w' := by
 have hu76 := Tryz.underlying69; have hu80 := Tryz.underlying73; have HB := Aside0.mk (Below.refl w.heap.size w)
 go_enter Tryz.func8, Tryz.ntmps8
 go_wp2_with (first
  | (go_at_call 20; refine (HC.out _).mono ?_; rintro e w1 ⟨rfl, hb⟩; have HZ := Aside0.mk hb; clear hb)
  | fail)
 go_ret
 exact ⟨rfl, by first | exact HZ.out | exact Go.Proofs.YtfahbgkoldoflaaGreatDoorW.PrintWords.below_then (by repeat (with_reducible first | exact HB.out | apply below_alloc | apply pw_below_drewN)) (by simp) HZ.out⟩
theorem grow_Both.calls (a0 a1 a2 a3 r : Int) (w : World) (h : grow_Both.f a0 a1 a2 a3 = some r) :
  Calls Tryz.prog 8 #[.int .i64 a0, .int .i64 a1, .int .i64 a2, .int .i64 a3] w fun e w' => e = .returned (.int .i64 r) ∧ Below w.heap.size w w' := by
 obtain ⟨⟨h1, h2, h3, h4⟩, h⟩ := Sp.need_some h; obtain rfl := Option.some.inj h; have a := Sp.win_bd a0; have b := Sp.byQ_bd a0 a3 h2.2; refine grow_Both.walk a0 a1 a2 a3 _ ⟨fun w => ?_⟩ w
 have HA : Aside0 (safe_Add.f (Sp.win a0) (Sp.byQ a0 a1 a3) = some (Sp.win a0 + Sp.byQ a0 a1 a3)) := ⟨by rw [safe_Add.eq (by omega) (by omega), Sp.near_in (by omega)]⟩
 exact grow_after_old.calls (hn := rfl) (HW := ⟨grow_givenS.eq (a := a0) h1⟩) (HT := ⟨safe_ClampS.eq (a := a3) (b := 0) (c := 68719476736) h4 (by omega) (by omega)⟩) (HP := ⟨grow_old_part (a := a0) h2 h4⟩) (HA := HA) (HG := ⟨by rw [grow_givenS.eq (by split <;> omega)]; rfl⟩) (w := w)

/-! ### cubic_is: function 21 -/
noncomputable def cubic_is.f (a0_0 : Bool) (a0_1 : Int) (a0_2 : Int) (a0_3 : Int) (a0_4 : Int) (a0_5 : Int) : Option (Bool) := if a0_0 = true then ((epoch_CheckS.f a0_0 a0_1 a0_2 a0_3 a0_4 a0_5).bind fun t396 => (some t396)) else (some false)
set_option maxHeartbeats 8000000 in
set_option maxRecDepth 100000 in
theorem cubic_is.calls (a0_0 : Bool) (a0_1 : Int) (a0_2 : Int) (a0_3 : Int) (a0_4 : Int) (a0_5 : Int) (r : Bool) (w : World) (h : cubic_is.f a0_0 a0_1 a0_2 a0_3 a0_4 a0_5 = some r) (hL : Tens w) :
  Calls Tryz.prog 21 #[.agg #[.bool a0_0, .int .i64 a0_1, .int .i64 a0_2, .int .i64 a0_3, .int .i64 a0_4, .int .i64 a0_5]] w fun e w' => e = .returned (.bool r) ∧ Below w.heap.size w w' := by
 have hu25 := Tryz.underlying25; have HB := Aside0.mk (Below.refl w.heap.size w); have H : (if a0_0 = true then ((epoch_CheckS.f a0_0 a0_1 a0_2 a0_3 a0_4 a0_5).bind fun t396 => (some t396)) else (some false)) = some r := h; clear h
 by_cases c2 : a0_0 = true
 ·subst c2
  have H1 : ((epoch_CheckS.f true a0_1 a0_2 a0_3 a0_4 a0_5).bind fun t396 => (some t396)) = some r := by rw [if_pos rfl] at H; exact H
  clear H; have H := H1; clear H1; replace H := Option.bind_eq_some_iff.mp H; obtain ⟨t396, A30, H⟩ := H; replace H : (some t396) = some r := H; have A3 := Aside0.mk A30; clear A30; obtain rfl := Option.some.inj H
  go_enter Tryz.func21, Tryz.ntmps21
  go_wp2_with (first | ((with_reducible refine gate_dst (N := 1) rfl ?_); refine box_event ?hg (N := 1) ?hd (cs := #[.bool true, .int .i64 a0_1, .int .i64 a0_2, .int .i64 a0_3, .int .i64 a0_4, .int .i64 a0_5]) (t := 25) ?hr ?_; (case hd => rfl); (case hg => rfl); (case hr => first | (go_simp; done) | (go_simp; rfl)); intro gb395 hg w4 hbox hb; have BK395 := Aside0.mk (hbox); obtain ⟨GW395, nHB⟩ := geA hg hb; have GE395 := GW395; replace HB := nHB; clear nHB; clear hb hbox hg; have hcz5_0 := czZ BK395 0 (.bool true); have hcz5_1 := czZ BK395 1 (.int .i64 a0_1); have hcz5_2 := czZ BK395 2 (.int .i64 a0_2); have hcz5_3 := czZ BK395 3 (.int .i64 a0_3); have hcz5_4 := czZ BK395 4 (.int .i64 a0_4); have hcz5_5 := czZ BK395 5 (.int .i64 a0_5); have hfz5_0 := blk_frozen BK395.out 0; have hfz5_1 := blk_frozen BK395.out 1; have hfz5_2 := blk_frozen BK395.out 2; have hfz5_3 := blk_frozen BK395.out 3; have hfz5_4 := blk_frozen BK395.out 4; have hfz5_5 := blk_frozen BK395.out 5) | (go_at_call 53; (with_reducible refine (epoch_CheckS.calls true a0_1 a0_2 a0_3 a0_4 a0_5 t396 _ A3.out ?hT_).mono ?_); (case hT_ => exact tensB hL (by repeat (first | (with_reducible first | exact HB.out | apply below_alloc | apply pw_below_drewN | apply below_drew1 | refine below_set ?_ (Aside0.out (by assumption))) | exact HB.out))); rintro e w6 ⟨rfl, hb⟩; replace BK395 := bdZ BK395 hb; replace HB := stA hb; clear hb))
  go_ret
  exact ⟨by first | rfl | (simp [errW_none, errW_some] <;> rfl) | (simp [*, errW_none, errW_some] <;> rfl), by repeat (first | (with_reducible first | exact HB.out | apply below_alloc | apply pw_below_drewN | apply below_drew1 | refine below_set ?_ GE395.out) | exact HB.out)⟩
 ·replace c2 := Bool.eq_false_iff.mpr c2
  subst c2
  have H1 : (some false) = some r := by rw [if_neg (show ¬ (false = true) by decide)] at H; exact H
  clear H; have H := H1; clear H1; obtain rfl := Option.some.inj H
  go_enter Tryz.func21, Tryz.ntmps21
  go_wp2_with (first | ((with_reducible refine gate_dst (N := 1) rfl ?_); refine box_event ?hg (N := 1) ?hd (cs := #[.bool false, .int .i64 a0_1, .int .i64 a0_2, .int .i64 a0_3, .int .i64 a0_4, .int .i64 a0_5]) (t := 25) ?hr ?_; (case hd => rfl); (case hg => rfl); (case hr => first | (go_simp; done) | (go_simp; rfl)); intro gb395 hg w7 hbox hb; have BK395 := Aside0.mk (hbox); obtain ⟨GW395, nHB⟩ := geA hg hb; have GE395 := GW395; replace HB := nHB; clear nHB; clear hb hbox hg; have hcz8_0 := czZ BK395 0 (.bool false); have hcz8_1 := czZ BK395 1 (.int .i64 a0_1); have hcz8_2 := czZ BK395 2 (.int .i64 a0_2); have hcz8_3 := czZ BK395 3 (.int .i64 a0_3); have hcz8_4 := czZ BK395 4 (.int .i64 a0_4); have hcz8_5 := czZ BK395 5 (.int .i64 a0_5); have hfz8_0 := blk_frozen BK395.out 0; have hfz8_1 := blk_frozen BK395.out 1; have hfz8_2 := blk_frozen BK395.out 2; have hfz8_3 := blk_frozen BK395.out 3; have hfz8_4 := blk_frozen BK395.out 4; have hfz8_5 := blk_frozen BK395.out 5))
  go_ret
  exact ⟨by first | rfl | (simp [errW_none, errW_some] <;> rfl) | (simp [*, errW_none, errW_some] <;> rfl), by repeat (first | (with_reducible first | exact HB.out | apply below_alloc | apply pw_below_drewN | apply below_drew1 | refine below_set ?_ GE395.out) | exact HB.out)⟩

/-! ### cubic_isS: pure, behind function 21 -/
section
open Go.Proofs.YtfahbgkoldoflaaGreatDoor.Sp
noncomputable def cubic_isS.f (on : Bool) (s : Int) (f : Int) (m : Int) (k : Int) (e : Int) : Option (Bool) := need ((I s) ∧ (I f) ∧ (I m)) (some (on && eOk on s f m k e))
theorem cubic_isS.eq {on : Bool} {s : Int} {f : Int} {m : Int} {k : Int} {e : Int} (h1 : I s) (h2 : I f) (h3 : I m) : cubic_isS.f on s f m k e = some (on && eOk on s f m k e) := need_pos ⟨h1, h2, h3⟩
theorem cubic_is.main {on : Bool} {s : Int} {f : Int} {m : Int} {k : Int} {e : Int} (h1 : I s) (h2 : I f) (h3 : I m) : cubic_is.f on s f m k e = some (on && eOk on s f m k e) := by
 unfold cubic_is.f
 cases on
 ·rfl
 ·rw [if_pos rfl, epoch_CheckS.eq h1 h2 h3]
  simp
end
theorem cubic_isS.calls (a0_0 : Bool) (a0_1 : Int) (a0_2 : Int) (a0_3 : Int) (a0_4 : Int) (a0_5 : Int) (r : Bool) (w : World) (h : cubic_isS.f a0_0 a0_1 a0_2 a0_3 a0_4 a0_5 = some r) (hL : Tens w) :
  Calls Tryz.prog 21 #[.agg #[.bool a0_0, .int .i64 a0_1, .int .i64 a0_2, .int .i64 a0_3, .int .i64 a0_4, .int .i64 a0_5]] w fun e w' => e = .returned (.bool r) ∧ Below w.heap.size w w' := by
 obtain ⟨hc, h⟩ := Sp.need_some h; obtain ⟨h1, h2, h3⟩ := hc; exact cubic_is.calls a0_0 a0_1 a0_2 a0_3 a0_4 a0_5 r w (by rw [cubic_is.main h1 h2 h3]; exact h) hL

/-! ### safe_Abs: function 153 -/
noncomputable def safe_Abs.f (a0 : Int) : Option (Int) := (safe_SubS.f 0 a0).bind fun t397 => (some (mx a0 t397))
set_option maxHeartbeats 8000000 in
set_option maxRecDepth 100000 in
theorem safe_Abs.calls (a0 : Int) (r : Int) (w : World) (h : safe_Abs.f a0 = some r) :
  Calls Tryz.prog 153 #[.int .i64 a0] w fun e w' => e = .returned (.int .i64 r) ∧ Below w.heap.size w w' := by
 have HB := Aside0.mk (Below.refl w.heap.size w); have H : ((safe_SubS.f 0 a0).bind fun t397 => (some (mx a0 t397))) = some r := h; clear h; replace H := Option.bind_eq_some_iff.mp H; obtain ⟨t397, A20, H⟩ := H; replace H : (some (mx a0 t397)) = some r := H; have A2 := Aside0.mk A20; clear A20
 obtain ⟨ji3, hji3⟩ : ∃ j_ : Int, (mx a0 t397) = j_ := ⟨_, rfl⟩
 replace H : (some ji3) = some r := by first | (rw [hji3] at H; exact H) | (simp only [hji3] at H ⊢; exact H)
 (try rw [hji3] at A2)
 have hji3_ : (if a0 < t397 then t397 else a0) = ji3 := hji3; obtain rfl := Option.some.inj H
 go_enter Tryz.func153, Tryz.ntmps153
 go_wp2_with (first | ((with_reducible refine gate_callee (f := 55) rfl ?_); refine goesLA_ (some 5) rfl rfl Tryz.func55 rfl #[.int .i64 0, .int .i64 a0] rfl ?_; (with_reducible refine (safe_SubS.calls 0 a0 t397 _ A2.out).mono ?_); rintro e w4 ⟨rfl, hb⟩; refine ⟨_, rfl, ?_⟩; replace HB := stA hb; clear hb))
 go_ret
 exact ⟨by first | rfl | (simp [errW_none, errW_some] <;> rfl) | (simp only [← hji3]; first | rfl | (simp [errW_none, errW_some] <;> rfl)) | (simp [*, errW_none, errW_some] <;> rfl), by repeat (first | (with_reducible first | exact HB.out | apply below_alloc | apply pw_below_drewN | apply below_drew1) | exact HB.out)⟩

/-! ### safe_AbsS: pure, behind function 153 -/
section
open Go.Proofs.YtfahbgkoldoflaaGreatDoor.Sp
noncomputable def safe_AbsS.f (a : Int) : Option (Int) := need ((I a)) (some (near (a.natAbs : Int)))
theorem safe_AbsS.eq {a : Int} (h1 : I a) : safe_AbsS.f a = some (near (a.natAbs : Int)) := need_pos h1
theorem safe_Abs.main {a : Int} (h1 : I a) : safe_Abs.f a = some (near (a.natAbs : Int)) := by
 unfold safe_Abs.f
 rw [safe_SubS.eq (by omega) h1]
 simp only [Option.bind_some]
 congr 1
 unfold mx near
 (repeat' split) <;> omega
end
theorem safe_AbsS.calls (a0 : Int) (r : Int) (w : World) (h : safe_AbsS.f a0 = some r) :
  Calls Tryz.prog 153 #[.int .i64 a0] w fun e w' => e = .returned (.int .i64 r) ∧ Below w.heap.size w w' := by
 obtain ⟨hc, h⟩ := Sp.need_some h; have h1 := hc; exact safe_Abs.calls a0 r w (by rw [safe_Abs.main h1]; exact h)

/-! ### cubic_Rise: function 113 -/
noncomputable def cubic_Rise.f (a0 : Int) : Option (Int) := (safe_ClampS.f a0 (-2147483648) 2147483648).bind fun t398 => ((safe_AbsS.f t398).bind fun t399 => ((root_CubeS.f (IntKind.u64.wrap (t399))).bind fun bt400 => ((big_ScaleS.f (decide (t398 < 0)) bt400.2.1 bt400.2.2.1 262144).bind fun bt405 => ((big_DivS.f bt405.1 bt405.2.1 bt405.2.2.1 10000000000000000000).bind fun bt410 => ((big_IntS.f bt410.1 bt410.2.1 bt410.2.2.1).bind fun t416 => (some t416))))))
set_option maxHeartbeats 8000000 in
set_option maxRecDepth 100000 in
theorem cubic_Rise.calls (a0 : Int) (r : Int) (w : World) (h : cubic_Rise.f a0 = some r) :
  Calls Tryz.prog 113 #[.int .i64 a0] w fun e w' => e = .returned (.int .i64 r) ∧ Below w.heap.size w w' := by
 have hu99 := Tryz.underlying99; have HB := Aside0.mk (Below.refl w.heap.size w); have H : ((safe_ClampS.f a0 (-2147483648) 2147483648).bind fun t398 => ((safe_AbsS.f t398).bind fun t399 => ((root_CubeS.f (IntKind.u64.wrap (t399))).bind fun bt400 => ((big_ScaleS.f (decide (t398 < 0)) bt400.2.1 bt400.2.2.1 262144).bind fun bt405 => ((big_DivS.f bt405.1 bt405.2.1 bt405.2.2.1 10000000000000000000).bind fun bt410 => ((big_IntS.f bt410.1 bt410.2.1 bt410.2.2.1).bind fun t416 => (some t416))))))) = some r := h; clear h; replace H := Option.bind_eq_some_iff.mp H; obtain ⟨t398, A20, H⟩ := H; (try dsimp only at H); have A2 := Aside0.mk A20; clear A20; replace H := Option.bind_eq_some_iff.mp H; obtain ⟨t399, A30, H⟩ := H; (try dsimp only at H); have A3 := Aside0.mk A30; clear A30; replace H := Option.bind_eq_some_iff.mp H; obtain ⟨⟨t400, t401, t402, t403⟩, A40, H⟩ := H; (try dsimp only at H); have A4 := Aside0.mk A40; clear A40; replace H := Option.bind_eq_some_iff.mp H; obtain ⟨⟨t405, t406, t407, t408⟩, A50, H⟩ := H; replace H : ((big_DivS.f t405 t406 t407 10000000000000000000).bind fun bt410 => ((big_IntS.f bt410.1 bt410.2.1 bt410.2.2.1).bind fun t416 => (some t416))) = some r := H; have A5 := Aside0.mk A50; clear A50; replace H := Option.bind_eq_some_iff.mp H; obtain ⟨⟨t410, t411, t412, t413, t414⟩, A60, H⟩ := H; replace H : ((big_IntS.f t410 t411 t412).bind fun t416 => (some t416)) = some r := H; have A6 := Aside0.mk A60; clear A60; replace H := Option.bind_eq_some_iff.mp H; obtain ⟨t416, A70, H⟩ := H; replace H : (some t416) = some r := H; have A7 := Aside0.mk A70; clear A70; obtain rfl := Option.some.inj H
 go_enter Tryz.func113, Tryz.ntmps113
 go_wp2_with (first | ((with_reducible refine gate_callee (f := 22) rfl ?_); refine goesLA_ (some 11) rfl rfl Tryz.func22 rfl #[.int .i64 a0, .int .i64 (-2147483648), .int .i64 2147483648] rfl ?_; (with_reducible refine (safe_ClampS.calls a0 (-2147483648) 2147483648 t398 _ A2.out).mono ?_); rintro e w8 ⟨rfl, hb⟩; refine ⟨_, rfl, ?_⟩; replace HB := stA hb; clear hb) | ((with_reducible refine gate_callee (f := 153) rfl ?_); refine goesLA_ (some 14) rfl rfl Tryz.func153 rfl #[.int .i64 t398] rfl ?_; (with_reducible refine (safe_AbsS.calls t398 t399 _ A3.out).mono ?_); rintro e w9 ⟨rfl, hb⟩; refine ⟨_, rfl, ?_⟩; replace HB := stA hb; clear hb) | ((with_reducible refine gate_callee (f := 111) rfl ?_); refine goesLA_ (some 16) rfl rfl Tryz.func111 rfl #[.int .u64 (IntKind.u64.wrap (t399))] rfl ?_; (with_reducible refine (root_CubeS.calls (IntKind.u64.wrap (t399)) t400 t401 t402 t403 _ A4.out).mono ?_); rintro e w10 ⟨rfl, hb⟩; refine ⟨_, rfl, ?_⟩; replace HB := stA hb; clear hb) | ((with_reducible refine gate_dst (N := 3) rfl ?_); refine box_event ?hg (N := 3) ?hd (cs := #[.bool false, .int .u64 0, .int .u64 0]) (t := 99) ?hr ?_; (case hd => rfl); (case hg => rfl); (case hr => first | (go_simp; done) | (go_simp; rfl)); intro gb404 hg w11 hbox hb; have BK404 := Aside0.mk (hbox); obtain ⟨GW404, nHB⟩ := geA hg hb; have GE404 := GW404; replace HB := nHB; clear nHB; clear hb hbox hg; have hcz12_0 := czZ BK404 0 (.bool false); have hcz12_1 := czZ BK404 1 (.int .u64 0); have hcz12_2 := czZ BK404 2 (.int .u64 0); have hfz12_0 := blk_frozen BK404.out 0; have hfz12_1 := blk_frozen BK404.out 1; have hfz12_2 := blk_frozen BK404.out 2) | ((with_reducible refine gate_callee (f := 49) rfl ?_); refine goesLA_ (some 24) rfl rfl Tryz.func49 rfl #[.agg #[.bool (decide (t398 < 0)), .int .u64 t401, .int .u64 t402], .int .u64 262144] rfl ?_; (with_reducible refine (big_ScaleS.calls (decide (t398 < 0)) t401 t402 262144 t405 t406 t407 t408 _ A5.out).mono ?_); rintro e w13 ⟨rfl, hb⟩; refine ⟨_, rfl, ?_⟩; replace BK404 := Aside0.mk (blk_below (g := gb404) (o := .cells #[.bool (decide (t398 < 0)), .int .u64 t401, .int .u64 t402] 99 (0, 0)) (by (with_reducible repeat first | apply blk_drewN | apply blk_drew | apply blk_alloc); refine blk_put (cs := #[.bool t400, .int .u64 t401, .int .u64 t402]) ?_ 0 _ rfl; (with_reducible repeat first | apply blk_drewN | apply blk_drew | apply blk_alloc); refine blk_put (cs := #[.bool t400, .int .u64 t401, .int .u64 0]) ?_ 2 _ rfl; (with_reducible repeat first | apply blk_drewN | apply blk_drew | apply blk_alloc); refine blk_put (cs := #[.bool t400, .int .u64 0, .int .u64 0]) ?_ 1 _ rfl; (with_reducible repeat first | apply blk_drewN | apply blk_drew | apply blk_alloc); refine blk_put (cs := #[.bool false, .int .u64 0, .int .u64 0]) ?_ 0 _ rfl; (with_reducible repeat first | apply blk_drewN | apply blk_drew | apply blk_alloc); exact BK404.out) hb); replace HB := stA hb; clear hb) | ((with_reducible refine gate_dst (N := 5) rfl ?_); refine box_event ?hg (N := 5) ?hd (cs := #[.bool false, .int .u64 0, .int .u64 0]) (t := 99) ?hr ?_; (case hd => rfl); (case hg => rfl); (case hr => first | (go_simp; done) | (go_simp; rfl)); intro gb409 hg w14 hbox hb; have BK409 := Aside0.mk (hbox); obtain ⟨GW409, nHB⟩ := geA hg hb; have GE409 := GW409; obtain ⟨NB404_409, NB409_404, nBK⟩ := nbA BK404 hg hb; replace BK404 := nBK; clear nBK; replace HB := nHB; clear nHB; clear hb hbox hg; have hnb15 := NB409_404.out; have hnc15 := NB404_409.out; have hcz16_0 := czZ BK409 0 (.bool false); have hcz16_1 := czZ BK409 1 (.int .u64 0); have hcz16_2 := czZ BK409 2 (.int .u64 0); have hfz16_0 := blk_frozen BK409.out 0; have hfz16_1 := blk_frozen BK409.out 1; have hfz16_2 := blk_frozen BK409.out 2) | ((with_reducible refine gate_callee (f := 50) rfl ?_); refine goesLA_ (some 29) rfl rfl Tryz.func50 rfl #[.agg #[.bool t405, .int .u64 t406, .int .u64 t407], .int .u64 10000000000000000000] rfl ?_; (with_reducible refine (big_DivS.calls t405 t406 t407 10000000000000000000 t410 t411 t412 t413 t414 _ A6.out).mono ?_); rintro e w17 ⟨rfl, hb⟩; refine ⟨_, rfl, ?_⟩; replace BK404 := bfZ BK404 (fun h_ => by (with_reducible repeat first | apply blk_drewN | apply blk_drew | apply blk_alloc | refine farZ ?_ NB404_409 _); exact h_) hb; replace BK409 := Aside0.mk (blk_below (g := gb409) (o := .cells #[.bool t405, .int .u64 t406, .int .u64 t407] 99 (0, 0)) (by (with_reducible repeat first | apply blk_drewN | apply blk_drew | apply blk_alloc); refine blk_put (cs := #[.bool t405, .int .u64 t406, .int .u64 0]) ?_ 2 _ rfl; (with_reducible repeat first | apply blk_drewN | apply blk_drew | apply blk_alloc); refine blk_put (cs := #[.bool t405, .int .u64 0, .int .u64 0]) ?_ 1 _ rfl; (with_reducible repeat first | apply blk_drewN | apply blk_drew | apply blk_alloc); refine blk_put (cs := #[.bool false, .int .u64 0, .int .u64 0]) ?_ 0 _ rfl; (with_reducible repeat first | apply blk_drewN | apply blk_drew | apply blk_alloc); exact BK409.out) hb); replace HB := stA hb; clear hb) | ((with_reducible refine gate_dst (N := 7) rfl ?_); refine box_event ?hg (N := 7) ?hd (cs := #[.bool false, .int .u64 0, .int .u64 0]) (t := 99) ?hr ?_; (case hd => rfl); (case hg => rfl); (case hr => first | (go_simp; done) | (go_simp; rfl)); intro gb415 hg w18 hbox hb; have BK415 := Aside0.mk (hbox); obtain ⟨GW415, nHB⟩ := geA hg hb; have GE415 := GW415; obtain ⟨NB404_415, NB415_404, nBK⟩ := nbA BK404 hg hb; replace BK404 := nBK; clear nBK; obtain ⟨NB409_415, NB415_409, nBK⟩ := nbA BK409 hg hb; replace BK409 := nBK; clear nBK; replace HB := nHB; clear nHB; clear hb hbox hg; have hnb19 := NB415_404.out; have hnc19 := NB404_415.out; have hnb20 := NB415_409.out; have hnc20 := NB409_415.out; have hcz21_0 := czZ BK415 0 (.bool false); have hcz21_1 := czZ BK415 1 (.int .u64 0); have hcz21_2 := czZ BK415 2 (.int .u64 0); have hfz21_0 := blk_frozen BK415.out 0; have hfz21_1 := blk_frozen BK415.out 1; have hfz21_2 := blk_frozen BK415.out 2) | ((with_reducible refine gate_callee (f := 145) rfl ?_); refine goesLA_ (some 34) rfl rfl Tryz.func145 rfl #[.agg #[.bool t410, .int .u64 t411, .int .u64 t412]] rfl ?_; (with_reducible refine (big_IntS.calls t410 t411 t412 t416 _ A7.out).mono ?_); rintro e w22 ⟨rfl, hb⟩; refine ⟨_, rfl, ?_⟩; replace BK404 := bfZ BK404 (fun h_ => by (with_reducible repeat first | apply blk_drewN | apply blk_drew | apply blk_alloc | refine farZ ?_ NB404_415 _); exact h_) hb; replace BK409 := bfZ BK409 (fun h_ => by (with_reducible repeat first | apply blk_drewN | apply blk_drew | apply blk_alloc | refine farZ ?_ NB409_415 _); exact h_) hb; replace BK415 := Aside0.mk (blk_below (g := gb415) (o := .cells #[.bool t410, .int .u64 t411, .int .u64 t412] 99 (0, 0)) (by (with_reducible repeat first | apply blk_drewN | apply blk_drew | apply blk_alloc); refine blk_put (cs := #[.bool t410, .int .u64 t411, .int .u64 0]) ?_ 2 _ rfl; (with_reducible repeat first | apply blk_drewN | apply blk_drew | apply blk_alloc); refine blk_put (cs := #[.bool t410, .int .u64 0, .int .u64 0]) ?_ 1 _ rfl; (with_reducible repeat first | apply blk_drewN | apply blk_drew | apply blk_alloc); refine blk_put (cs := #[.bool false, .int .u64 0, .int .u64 0]) ?_ 0 _ rfl; (with_reducible repeat first | apply blk_drewN | apply blk_drew | apply blk_alloc); exact BK415.out) hb); replace HB := stA hb; clear hb))
 go_ret
 exact ⟨by first | rfl | (simp [errW_none, errW_some] <;> rfl) | (simp [*, errW_none, errW_some] <;> rfl), by repeat (first | (with_reducible first | exact HB.out | apply below_alloc | apply pw_below_drewN | apply below_drew1 | refine below_set ?_ (Aside0.out (by assumption))) | exact HB.out)⟩

/-! ### cubic_RiseS: pure, behind function 113 -/
section
open Go.Proofs.YtfahbgkoldoflaaGreatDoor.Sp
noncomputable def cubic_RiseS.f (d : Int) : Option (Int) := need ((I d)) (some (riseQ d))
theorem cubic_RiseS.eq {d : Int} (h1 : I d) : cubic_RiseS.f d = some (riseQ d) := need_pos h1
theorem cubic_Rise.main {d : Int} (h1 : I d) : cubic_Rise.f d = some (riseQ d) := by
 unfold cubic_Rise.f
 rw [safe_ClampS.eq h1 (by omega) (by omega)]
 simp only [Option.bind_some]; have b := c31_bd d; have cb := c31_cube d; have rb := riseQ_bd d; have e0 : riseQ d = c31 d * c31 d * c31 d * 262144 / 10000000000000000000 := rfl
 rw [show clamp d (-2147483648) 2147483648 = c31 d from rfl, safe_AbsS.eq (by omega)]
 simp only [Option.bind_some]
 generalize c31 d = x at *
 rw [near_in (v := (x.natAbs : Int)) (by omega), u64w_in (x := (x.natAbs : Int)) (by omega), root_CubeS.eq (by omega)]
 have an : (x.natAbs : Int) * (x.natAbs : Int) * (x.natAbs : Int) = if x < 0 then -(x * x * x) else x * x * x := by
  by_cases h : x < 0
  ·rw [if_pos h, show (x.natAbs : Int) = -x by omega, Int.neg_mul_neg, Int.mul_neg]
  ·rw [if_neg h, show (x.natAbs : Int) = x by omega]
 have ap : 0 ≤ (x.natAbs : Int) * (x.natAbs : Int) * (x.natAbs : Int) := Int.mul_nonneg (Int.mul_nonneg (by omega) (by omega)) (by omega)
 have au : (x.natAbs : Int) * (x.natAbs : Int) * (x.natAbs : Int) ≤ 9903520314283042199192993792 := by rw [an]; split <;> omega
 generalize (x.natAbs : Int) * (x.natAbs : Int) * (x.natAbs : Int) = y at *
 rw [held_in (by omega)]
 simp only [Option.bind_some]; have ev := @val_enc y
 rw [encN_pos ap, val_f] at ev
 have es : val (decide (x < 0)) (encH y) (encL y) = x * x * x := by
  by_cases h : x < 0
  ·rw [decide_eq_true h, val_t, ev, an, if_pos h]; omega
  ·rw [decide_eq_false h, val_f, ev, an, if_neg h]
 rw [big_ScaleS.eq (encH_U (by omega)) encL_U (by omega), es, held_in (by omega)]
 simp only [Option.bind_some]
 rw [big_DivS.enc (by omega) (by omega), quo_pos (by omega)]
 simp only [Option.bind_some]
 rw [← e0, big_IntS.enc (by omega), near_in (by omega)]
 rfl
end
theorem cubic_RiseS.calls (a0 : Int) (r : Int) (w : World) (h : cubic_RiseS.f a0 = some r) :
  Calls Tryz.prog 113 #[.int .i64 a0] w fun e w' => e = .returned (.int .i64 r) ∧ Below w.heap.size w w' := by
 obtain ⟨hc, h⟩ := Sp.need_some h; have h1 := hc; exact cubic_Rise.calls a0 r w (by rw [cubic_Rise.main h1]; exact h)

/-! ### cubic_law: function 54 -/
noncomputable def cubic_law.f (a0_0 : Bool) (a0_1 : Int) (a0_2 : Int) (a0_3 : Int) (a0_4 : Int) (a0_5 : Int) (a1 : Int) : Option (Int) := (safe_SubS.f a1 a0_4).bind fun t418 => ((cubic_RiseS.f t418).bind fun t419 => ((safe_Add.f a0_3 t419).bind fun t420 => ((safe_ClampS.f t420 0 68719476736).bind fun t421 => (some t421))))
def cubic_law.T1 : Bool × List (List Nat × List Nat) := (true, [([], []), ([0], [0]), ([], []), ([], []), ([3], [3]), ([2, 4], [2, 4]), ([5, 5], [5]), ([1, 6, 6], [1, 6]), ([7, 7], [7]), ([8, 8, 0, 1, 2, 3, 4, 5, 6, 7, 8], [8])])
def cubic_law.B1 : List Nat := [0, 1, 0, 0, 8, 28, 60, 127, 255, 511]
theorem cubic_law.tab1 : rtab .any (opsOf Tryz.f54 1) = cubic_law.T1 := by kernel_rfl
theorem cubic_law.bits1 : waitsOk cubic_law.T1.2 cubic_law.B1 = true := by kernel_rfl
set_option maxHeartbeats 8000000 in
set_option maxRecDepth 100000 in
theorem cubic_law.calls (a0_0 : Bool) (a0_1 : Int) (a0_2 : Int) (a0_3 : Int) (a0_4 : Int) (a0_5 : Int) (a1 : Int) (r : Int) (w : World) (h : cubic_law.f a0_0 a0_1 a0_2 a0_3 a0_4 a0_5 a1 = some r) :
  Calls Tryz.prog 54 #[.agg #[.bool a0_0, .int .i64 a0_1, .int .i64 a0_2, .int .i64 a0_3, .int .i64 a0_4, .int .i64 a0_5], .int .i64 a1] w fun e w' => e = .returned (.int .i64 r) ∧ Below w.heap.size w w' := by
 have hu25 := Tryz.underlying25; have HB := Aside0.mk (Below.refl w.heap.size w); have H : ((safe_SubS.f a1 a0_4).bind fun t418 => ((cubic_RiseS.f t418).bind fun t419 => ((safe_Add.f a0_3 t419).bind fun t420 => ((safe_ClampS.f t420 0 68719476736).bind fun t421 => (some t421))))) = some r := h; clear h; replace H := Option.bind_eq_some_iff.mp H; obtain ⟨t418, A30, H⟩ := H; replace H : ((cubic_RiseS.f t418).bind fun t419 => ((safe_Add.f a0_3 t419).bind fun t420 => ((safe_ClampS.f t420 0 68719476736).bind fun t421 => (some t421)))) = some r := H; have A3 := Aside0.mk A30; clear A30; replace H := Option.bind_eq_some_iff.mp H; obtain ⟨t419, A40, H⟩ := H; replace H : ((safe_Add.f a0_3 t419).bind fun t420 => ((safe_ClampS.f t420 0 68719476736).bind fun t421 => (some t421))) = some r := H; have A4 := Aside0.mk A40; clear A40; replace H := Option.bind_eq_some_iff.mp H; obtain ⟨t420, A50, H⟩ := H; replace H : ((safe_ClampS.f t420 0 68719476736).bind fun t421 => (some t421)) = some r := H; have A5 := Aside0.mk A50; clear A50; replace H := Option.bind_eq_some_iff.mp H; obtain ⟨t421, A60, H⟩ := H; replace H : (some t421) = some r := H; have A6 := Aside0.mk A60; clear A60; obtain rfl := Option.some.inj H
 go_enter Tryz.func54, Tryz.ntmps54
 try go_wp2_with (first | ((with_reducible refine gate_dst (N := 2) rfl ?_); refine box_event ?hg (N := 2) ?hd (cs := #[.bool a0_0, .int .i64 a0_1, .int .i64 a0_2, .int .i64 a0_3, .int .i64 a0_4, .int .i64 a0_5]) (t := 25) ?hr ?_; (case hd => rfl); (case hg => rfl); (case hr => first | (go_simp; done) | (go_simp; rfl)); intro gb417 hg w7 hbox hb; have BK417 := Aside0.mk (hbox); obtain ⟨GW417, nHB⟩ := geA hg hb; have GE417 := GW417; replace HB := nHB; clear nHB; clear hb hbox hg))
 replace BK417 := Aside0.mk (blk_drew BK417.out); replace HB := Aside0.mk (below_drew1 HB.out); refine start_ (n := 10) (S := fun w' => w'.cell? ⟨gb417, 0, none⟩ = some (.bool a0_0) ∧ w'.cell? ⟨gb417, 1, none⟩ = some (.int .i64 a0_1) ∧ w'.cell? ⟨gb417, 2, none⟩ = some (.int .i64 a0_2) ∧ w'.cell? ⟨gb417, 3, none⟩ = some (.int .i64 a0_3) ∧ w'.cell? ⟨gb417, 4, none⟩ = some (.int .i64 a0_4) ∧ w'.cell? ⟨gb417, 5, none⟩ = some (.int .i64 a0_5)) (ds := []) #[N,N,N,N,N,N,N,N,N,N] (by kernel_rfl) rfl rfl ⟨(blk_cell BK417.out 0).trans rfl, (blk_cell BK417.out 1).trans rfl, (blk_cell BK417.out 2).trans rfl, (blk_cell BK417.out 3).trans rfl, (blk_cell BK417.out 4).trans rfl, (blk_cell BK417.out 5).trans rfl⟩ (fun hHeld => ?_); refine with_tabW cubic_law.tab1 cubic_law.bits1 (fun HT_ HW_ => ?_)
 generalize w7.drew = w8 at BK417 HB hHeld ⊢
 refine pureA_ (i := 0) (N := some 5) #[Y,N,N,N,N,N,N,N,N,N] rfl rfl (any_of HT_.out (by kernel_rfl)) ?_
 refine pureA_ (i := 2) (N := some 7) #[Y,N,Y,N,N,N,N,N,N,N] rfl rfl (any_of HT_.out (by kernel_rfl)) ?_
 refine pureA_ (i := 3) (N := some 8) #[Y,N,Y,Y,N,N,N,N,N,N] rfl rfl (any_of HT_.out (by kernel_rfl)) ?_
 refine take_ (i := 1) (N := some 6) (v := ?_) (a' := ?_) #[Y,Y,Y,Y,N,N,N,N,N,N] rfl rfl (take_ofW HT_.out HW_.out (by kernel_rfl)) (fun _ _ _ h => h) (Or.inl ⟨by rfl, ?_⟩) hHeld ?_ ?_; rotate_left
 ·rintro w' ⟨s0, s1, s2, s3, s4, s5⟩; go_simp
  with_reducible rfl
 rotate_left
 ·simp only [Act.put, sA, sB, sC, i64_w, i32_w]
  rfl
 refine take_ (i := 4) (N := some 9) (v := ?_) (a' := ?_) #[Y,Y,Y,Y,Y,N,N,N,N,N] rfl rfl (take_ofW HT_.out HW_.out (by kernel_rfl)) (fun _ _ _ h => h) (Or.inl ⟨by rfl, ?_⟩) hHeld ?_ ?_; rotate_left
 ·rintro w' ⟨s0, s1, s2, s3, s4, s5⟩; go_simp
  with_reducible rfl
 rotate_left
 ·simp only [Act.put, sA, sB, sC, i64_w, i32_w]
  rfl
 refine one_ (i := 5) (N := some 10) #[Y,Y,Y,Y,Y,Y,N,N,N,N] rfl rfl (one_of HT_.out (by kernel_rfl)) (by decide) (fun K hK => ?_); refine goesA_ Tryz.func55 rfl #[.int .i64 a1, .int .i64 a0_4] (by rfl) rfl rfl ?_
 with_reducible refine (safe_SubS.calls a1 a0_4 t418 _ A3.out).mono ?_
 rintro e w9 ⟨rfl, hb⟩; refine ⟨_, rfl, ?_⟩; replace BK417 := bbZ BK417 hb; replace HB := Aside0.mk (below_step HB.out hb); clear hb; refine hK.out _ _ ⟨(blk_cell BK417.out 0).trans rfl, (blk_cell BK417.out 1).trans rfl, (blk_cell BK417.out 2).trans rfl, (blk_cell BK417.out 3).trans rfl, (blk_cell BK417.out 4).trans rfl, (blk_cell BK417.out 5).trans rfl⟩ (fun hHeld => ?_); clear hK K; refine normA_ (some 10) ?_
 refine one_ (i := 6) (N := some 11) #[Y,Y,Y,Y,Y,Y,Y,N,N,N] rfl rfl (one_of HT_.out (by kernel_rfl)) (by decide) (fun K hK => ?_); refine goesA_ Tryz.func113 rfl #[.int .i64 t418] (by rfl) rfl rfl ?_
 with_reducible refine (cubic_RiseS.calls t418 t419 _ A4.out).mono ?_
 rintro e w10 ⟨rfl, hb⟩; refine ⟨_, rfl, ?_⟩; replace BK417 := bbZ BK417 hb; replace HB := Aside0.mk (below_step HB.out hb); clear hb; refine hK.out _ _ ⟨(blk_cell BK417.out 0).trans rfl, (blk_cell BK417.out 1).trans rfl, (blk_cell BK417.out 2).trans rfl, (blk_cell BK417.out 3).trans rfl, (blk_cell BK417.out 4).trans rfl, (blk_cell BK417.out 5).trans rfl⟩ (fun hHeld => ?_); clear hK K; refine normA_ (some 11) ?_
 refine one_ (i := 7) (N := some 12) #[Y,Y,Y,Y,Y,Y,Y,Y,N,N] rfl rfl (one_of HT_.out (by kernel_rfl)) (by decide) (fun K hK => ?_); refine goesA_ Tryz.func24 rfl #[.int .i64 a0_3, .int .i64 t419] (by rfl) rfl rfl ?_
 with_reducible refine (safe_Add.calls a0_3 t419 t420 _ A5.out).mono ?_
 rintro e w11 ⟨rfl, hb⟩; refine ⟨_, rfl, ?_⟩; replace BK417 := bbZ BK417 hb; replace HB := Aside0.mk (below_step HB.out hb); clear hb; refine hK.out _ _ ⟨(blk_cell BK417.out 0).trans rfl, (blk_cell BK417.out 1).trans rfl, (blk_cell BK417.out 2).trans rfl, (blk_cell BK417.out 3).trans rfl, (blk_cell BK417.out 4).trans rfl, (blk_cell BK417.out 5).trans rfl⟩ (fun hHeld => ?_); clear hK K; refine normA_ (some 12) ?_
 refine one_ (i := 8) (N := some 13) #[Y,Y,Y,Y,Y,Y,Y,Y,Y,N] rfl rfl (one_of HT_.out (by kernel_rfl)) (by decide) (fun K hK => ?_); refine goesA_ Tryz.func22 rfl #[.int .i64 t420, .int .i64 0, .int .i64 68719476736] (by rfl) rfl rfl ?_
 with_reducible refine (safe_ClampS.calls t420 0 68719476736 t421 _ A6.out).mono ?_
 rintro e w12 ⟨rfl, hb⟩; refine ⟨_, rfl, ?_⟩; replace BK417 := bbZ BK417 hb; replace HB := Aside0.mk (below_step HB.out hb); clear hb; refine hK.out _ _ ⟨(blk_cell BK417.out 0).trans rfl, (blk_cell BK417.out 1).trans rfl, (blk_cell BK417.out 2).trans rfl, (blk_cell BK417.out 3).trans rfl, (blk_cell BK417.out 4).trans rfl, (blk_cell BK417.out 5).trans rfl⟩ (fun hHeld => ?_); clear hK K; refine normA_ (some 13) ?_
 refine pureA_ (i := 9) (N := some 4) #[Y,Y,Y,Y,Y,Y,Y,Y,Y,Y] rfl rfl (any_of HT_.out (by kernel_rfl)) ?_
 refine done_ (done_of HT_.out (by kernel_rfl)) ?_
 try go_wp2
 go_ret
 exact ⟨by first | rfl | (simp [errW_none, errW_some] <;> rfl) | (simp [*, errW_none, errW_some] <;> rfl), by repeat (first | (with_reducible first | exact HB.out | apply below_alloc | apply pw_below_drewN | apply below_drew1 | refine below_set ?_ GE417.out) | exact HB.out)⟩

/-! ### cubic_lawS: pure, behind function 54 -/
section
open Go.Proofs.YtfahbgkoldoflaaGreatDoor.Sp
noncomputable def cubic_lawS.f (on : Bool) (s : Int) (f : Int) (m : Int) (k : Int) (e : Int) (t : Int) : Option (Int) := need ((I m) ∧ (I k) ∧ (I t)) (some (clamp (near (m + riseQ (near (t - k)))) 0 68719476736))
theorem cubic_lawS.eq {on : Bool} {s : Int} {f : Int} {m : Int} {k : Int} {e : Int} {t : Int} (h1 : I m) (h2 : I k) (h3 : I t) : cubic_lawS.f on s f m k e t = some (clamp (near (m + riseQ (near (t - k)))) 0 68719476736) := need_pos ⟨h1, h2, h3⟩
theorem cubic_law.main {on : Bool} {s : Int} {f : Int} {m : Int} {k : Int} {e : Int} {t : Int} (h1 : I m) (h2 : I k) (h3 : I t) : cubic_law.f on s f m k e t = some (clamp (near (m + riseQ (near (t - k)))) 0 68719476736) := by
 unfold cubic_law.f
 rw [safe_SubS.eq h3 h2]
 simp only [Option.bind_some]
 rw [cubic_RiseS.eq (near_I _)]
 simp only [Option.bind_some]; have b := riseQ_bd (near (t - k))
 rw [safe_Add.eq h1 (by omega)]
 simp only [Option.bind_some]
 rw [safe_ClampS.eq (near_I _) (by omega) (by omega)]
 rfl
end
theorem cubic_lawS.calls (a0_0 : Bool) (a0_1 : Int) (a0_2 : Int) (a0_3 : Int) (a0_4 : Int) (a0_5 : Int) (a1 : Int) (r : Int) (w : World) (h : cubic_lawS.f a0_0 a0_1 a0_2 a0_3 a0_4 a0_5 a1 = some r) :
  Calls Tryz.prog 54 #[.agg #[.bool a0_0, .int .i64 a0_1, .int .i64 a0_2, .int .i64 a0_3, .int .i64 a0_4, .int .i64 a0_5], .int .i64 a1] w fun e w' => e = .returned (.int .i64 r) ∧ Below w.heap.size w w' := by
 obtain ⟨hc, h⟩ := Sp.need_some h; obtain ⟨h1, h2, h3⟩ := hc; exact cubic_law.calls a0_0 a0_1 a0_2 a0_3 a0_4 a0_5 a1 r w (by rw [cubic_law.main h1 h2 h3]; exact h)

/-! ### cubic_At: function 23 -/
noncomputable def cubic_At.f (a0_0 : Bool) (a0_1 : Int) (a0_2 : Int) (a0_3 : Int) (a0_4 : Int) (a0_5 : Int) (a1 : Int) : Option (Int) := (cubic_isS.f a0_0 a0_1 a0_2 a0_3 a0_4 a0_5).bind fun t423 => (if t423 = true then ((safe_SubS.f a1 a0_1).bind fun t424 => ((cubic_lawS.f a0_0 a0_1 a0_2 a0_3 a0_4 a0_5 t424).bind fun t425 => (some t425))) else (some 0))
set_option maxHeartbeats 8000000 in
set_option maxRecDepth 100000 in
theorem cubic_At.calls (a0_0 : Bool) (a0_1 : Int) (a0_2 : Int) (a0_3 : Int) (a0_4 : Int) (a0_5 : Int) (a1 : Int) (r : Int) (w : World) (h : cubic_At.f a0_0 a0_1 a0_2 a0_3 a0_4 a0_5 a1 = some r) (hL : Tens w) :
  Calls Tryz.prog 23 #[.agg #[.bool a0_0, .int .i64 a0_1, .int .i64 a0_2, .int .i64 a0_3, .int .i64 a0_4, .int .i64 a0_5], .int .i64 a1] w fun e w' => e = .returned (.int .i64 r) ∧ Below w.heap.size w w' := by
 have hu25 := Tryz.underlying25; have HB := Aside0.mk (Below.refl w.heap.size w); have H : ((cubic_isS.f a0_0 a0_1 a0_2 a0_3 a0_4 a0_5).bind fun t423 => (if t423 = true then ((safe_SubS.f a1 a0_1).bind fun t424 => ((cubic_lawS.f a0_0 a0_1 a0_2 a0_3 a0_4 a0_5 t424).bind fun t425 => (some t425))) else (some 0))) = some r := h; clear h; replace H := Option.bind_eq_some_iff.mp H; obtain ⟨t423, A30, H⟩ := H; replace H : (if t423 = true then ((safe_SubS.f a1 a0_1).bind fun t424 => ((cubic_lawS.f a0_0 a0_1 a0_2 a0_3 a0_4 a0_5 t424).bind fun t425 => (some t425))) else (some 0)) = some r := H; have A3 := Aside0.mk A30; clear A30
 by_cases c4 : t423 = true
 ·subst c4
  have H1 : ((safe_SubS.f a1 a0_1).bind fun t424 => ((cubic_lawS.f a0_0 a0_1 a0_2 a0_3 a0_4 a0_5 t424).bind fun t425 => (some t425))) = some r := by rw [if_pos rfl] at H; exact H
  clear H; have H := H1; clear H1; replace H := Option.bind_eq_some_iff.mp H; obtain ⟨t424, A50, H⟩ := H; replace H : ((cubic_lawS.f a0_0 a0_1 a0_2 a0_3 a0_4 a0_5 t424).bind fun t425 => (some t425)) = some r := H; have A5 := Aside0.mk A50; clear A50; replace H := Option.bind_eq_some_iff.mp H; obtain ⟨t425, A60, H⟩ := H; replace H : (some t425) = some r := H; have A6 := Aside0.mk A60; clear A60; obtain rfl := Option.some.inj H
  go_enter Tryz.func23, Tryz.ntmps23
  try go_wp2_with (first | ((with_reducible refine gate_dst (N := 2) rfl ?_); refine box_event ?hg (N := 2) ?hd (cs := #[.bool a0_0, .int .i64 a0_1, .int .i64 a0_2, .int .i64 a0_3, .int .i64 a0_4, .int .i64 a0_5]) (t := 25) ?hr ?_; (case hd => rfl); (case hg => rfl); (case hr => first | (go_simp; done) | (go_simp; rfl)); intro gb422 hg w7 hbox hb; have BK422 := Aside0.mk (hbox); obtain ⟨GW422, nHB⟩ := geA hg hb; have GE422 := GW422; replace HB := nHB; clear nHB; clear hb hbox hg; have hcz8_0 := czZ BK422 0 (.bool a0_0); have hcz8_1 := czZ BK422 1 (.int .i64 a0_1); have hcz8_2 := czZ BK422 2 (.int .i64 a0_2); have hcz8_3 := czZ BK422 3 (.int .i64 a0_3); have hcz8_4 := czZ BK422 4 (.int .i64 a0_4); have hcz8_5 := czZ BK422 5 (.int .i64 a0_5); have hfz8_0 := blk_frozen BK422.out 0; have hfz8_1 := blk_frozen BK422.out 1; have hfz8_2 := blk_frozen BK422.out 2; have hfz8_3 := blk_frozen BK422.out 3; have hfz8_4 := blk_frozen BK422.out 4; have hfz8_5 := blk_frozen BK422.out 5) | ((with_reducible refine gate_callee (f := 21) rfl ?_); refine goesLA_ (some 6) rfl rfl Tryz.func21 rfl #[.agg #[.bool a0_0, .int .i64 a0_1, .int .i64 a0_2, .int .i64 a0_3, .int .i64 a0_4, .int .i64 a0_5]] rfl ?_; (with_reducible refine (cubic_isS.calls a0_0 a0_1 a0_2 a0_3 a0_4 a0_5 true _ A3.out ?hT_).mono ?_); (case hT_ => exact tensB hL (by repeat (first | (with_reducible first | exact HB.out | apply below_alloc | apply pw_below_drewN | apply below_drew1 | refine below_set ?_ (Aside0.out (by assumption))) | exact HB.out))); rintro e w9 ⟨rfl, hb⟩; refine ⟨_, rfl, ?_⟩; replace BK422 := bdZ BK422 hb; replace HB := stA hb; clear hb))
  replace BK422 := Aside0.mk (blk_drew BK422.out); replace HB := Aside0.mk (below_drew1 HB.out); refine start_ (n := 7) (S := fun w' => w'.cell? ⟨gb422, 0, none⟩ = some (.bool a0_0) ∧ w'.cell? ⟨gb422, 1, none⟩ = some (.int .i64 a0_1) ∧ w'.cell? ⟨gb422, 2, none⟩ = some (.int .i64 a0_2) ∧ w'.cell? ⟨gb422, 3, none⟩ = some (.int .i64 a0_3) ∧ w'.cell? ⟨gb422, 4, none⟩ = some (.int .i64 a0_4) ∧ w'.cell? ⟨gb422, 5, none⟩ = some (.int .i64 a0_5)) (ds := []) #[N,N,N,N,N,N,N] (by kernel_rfl) rfl rfl ⟨(blk_cell BK422.out 0).trans rfl, (blk_cell BK422.out 1).trans rfl, (blk_cell BK422.out 2).trans rfl, (blk_cell BK422.out 3).trans rfl, (blk_cell BK422.out 4).trans rfl, (blk_cell BK422.out 5).trans rfl⟩ (fun hHeld => ?_)
  generalize w9.drew = w10 at BK422 HB hHeld ⊢
  refine pureA_ (i := 1) (N := some 9) #[N,Y,N,N,N,N,N] rfl rfl (by kernel_rfl) ?_
  refine pureA_ (i := 2) (N := some 10) #[N,Y,Y,N,N,N,N] rfl rfl (by kernel_rfl) ?_
  refine take_ (i := 0) (N := some 8) (v := ?_) (a' := ?_) #[Y,Y,Y,N,N,N,N] rfl rfl (by kernel_rfl) (fun _ _ _ h => h) (Or.inl ⟨by rfl, ?_⟩) hHeld ?_ ?_; rotate_left
  ·rintro w' ⟨s0, s1, s2, s3, s4, s5⟩; go_simp
   with_reducible rfl
  rotate_left
  ·simp only [Act.put, sA, sB, sC, i64_w, i32_w]
   rfl
  refine take_ (i := 3) (N := some 11) (v := ?_) (a' := ?_) #[Y,Y,Y,Y,N,N,N] rfl rfl (by kernel_rfl) (fun _ _ _ h => h) (Or.inl ⟨by rfl, ?_⟩) hHeld ?_ ?_; rotate_left
  ·rintro w' ⟨s0, s1, s2, s3, s4, s5⟩; go_simp
   with_reducible rfl
  rotate_left
  ·simp only [Act.put, sA, sB, sC, i64_w, i32_w]
   rfl
  refine one_ (i := 4) (N := some 12) #[Y,Y,Y,Y,Y,N,N] rfl rfl (by kernel_rfl) (by decide) (fun K hK => ?_); refine goesA_ Tryz.func55 rfl #[.int .i64 a1, .int .i64 a0_1] (by rfl) rfl rfl ?_
  with_reducible refine (safe_SubS.calls a1 a0_1 t424 _ A5.out).mono ?_
  rintro e w11 ⟨rfl, hb⟩; refine ⟨_, rfl, ?_⟩; replace BK422 := bbZ BK422 hb; replace HB := Aside0.mk (below_step HB.out hb); clear hb; refine hK.out _ _ ⟨(blk_cell BK422.out 0).trans rfl, (blk_cell BK422.out 1).trans rfl, (blk_cell BK422.out 2).trans rfl, (blk_cell BK422.out 3).trans rfl, (blk_cell BK422.out 4).trans rfl, (blk_cell BK422.out 5).trans rfl⟩ (fun hHeld => ?_); clear hK K; refine normA_ (some 12) ?_
  refine one_ (i := 5) (N := some 13) #[Y,Y,Y,Y,Y,Y,N] rfl rfl (by kernel_rfl) (by decide) (fun K hK => ?_); refine goesA_ Tryz.func54 rfl #[.agg #[.bool a0_0, .int .i64 a0_1, .int .i64 a0_2, .int .i64 a0_3, .int .i64 a0_4, .int .i64 a0_5], .int .i64 t424] (by rfl) rfl rfl ?_
  with_reducible refine (cubic_lawS.calls a0_0 a0_1 a0_2 a0_3 a0_4 a0_5 t424 t425 _ A6.out).mono ?_
  rintro e w12 ⟨rfl, hb⟩; refine ⟨_, rfl, ?_⟩; replace BK422 := bbZ BK422 hb; replace HB := Aside0.mk (below_step HB.out hb); clear hb; refine hK.out _ _ ⟨(blk_cell BK422.out 0).trans rfl, (blk_cell BK422.out 1).trans rfl, (blk_cell BK422.out 2).trans rfl, (blk_cell BK422.out 3).trans rfl, (blk_cell BK422.out 4).trans rfl, (blk_cell BK422.out 5).trans rfl⟩ (fun hHeld => ?_); clear hK K; refine normA_ (some 13) ?_
  refine pureA_ (i := 6) (N := some 4) #[Y,Y,Y,Y,Y,Y,Y] rfl rfl (by kernel_rfl) ?_
  refine done_ (by kernel_rfl) ?_
  try go_wp2
  go_ret
  exact ⟨by first | rfl | (simp [errW_none, errW_some] <;> rfl) | (simp [*, errW_none, errW_some] <;> rfl), by repeat (first | (with_reducible first | exact HB.out | apply below_alloc | apply pw_below_drewN | apply below_drew1 | refine below_set ?_ GE422.out) | exact HB.out)⟩
 ·replace c4 := Bool.eq_false_iff.mpr c4
  subst c4
  have H1 : (some 0) = some r := by rw [if_neg (show ¬ (false = true) by decide)] at H; exact H
  clear H; have H := H1; clear H1; obtain rfl := Option.some.inj H
  go_enter Tryz.func23, Tryz.ntmps23
  go_wp2_with (first | ((with_reducible refine gate_dst (N := 2) rfl ?_); refine box_event ?hg (N := 2) ?hd (cs := #[.bool a0_0, .int .i64 a0_1, .int .i64 a0_2, .int .i64 a0_3, .int .i64 a0_4, .int .i64 a0_5]) (t := 25) ?hr ?_; (case hd => rfl); (case hg => rfl); (case hr => first | (go_simp; done) | (go_simp; rfl)); intro gb422 hg w13 hbox hb; have BK422 := Aside0.mk (hbox); obtain ⟨GW422, nHB⟩ := geA hg hb; have GE422 := GW422; replace HB := nHB; clear nHB; clear hb hbox hg; have hcz14_0 := czZ BK422 0 (.bool a0_0); have hcz14_1 := czZ BK422 1 (.int .i64 a0_1); have hcz14_2 := czZ BK422 2 (.int .i64 a0_2); have hcz14_3 := czZ BK422 3 (.int .i64 a0_3); have hcz14_4 := czZ BK422 4 (.int .i64 a0_4); have hcz14_5 := czZ BK422 5 (.int .i64 a0_5); have hfz14_0 := blk_frozen BK422.out 0; have hfz14_1 := blk_frozen BK422.out 1; have hfz14_2 := blk_frozen BK422.out 2; have hfz14_3 := blk_frozen BK422.out 3; have hfz14_4 := blk_frozen BK422.out 4; have hfz14_5 := blk_frozen BK422.out 5) | ((with_reducible refine gate_callee (f := 21) rfl ?_); refine goesLA_ (some 6) rfl rfl Tryz.func21 rfl #[.agg #[.bool a0_0, .int .i64 a0_1, .int .i64 a0_2, .int .i64 a0_3, .int .i64 a0_4, .int .i64 a0_5]] rfl ?_; (with_reducible refine (cubic_isS.calls a0_0 a0_1 a0_2 a0_3 a0_4 a0_5 false _ A3.out ?hT_).mono ?_); (case hT_ => exact tensB hL (by repeat (first | (with_reducible first | exact HB.out | apply below_alloc | apply pw_below_drewN | apply below_drew1 | refine below_set ?_ (Aside0.out (by assumption))) | exact HB.out))); rintro e w15 ⟨rfl, hb⟩; refine ⟨_, rfl, ?_⟩; replace BK422 := bdZ BK422 hb; replace HB := stA hb; clear hb))
  go_ret
  exact ⟨by first | rfl | (simp [errW_none, errW_some] <;> rfl) | (simp [*, errW_none, errW_some] <;> rfl), by repeat (first | (with_reducible first | exact HB.out | apply below_alloc | apply pw_below_drewN | apply below_drew1 | refine below_set ?_ GE422.out) | exact HB.out)⟩

/-! ### cubic_AtS: pure, behind function 23 -/
section
open Go.Proofs.YtfahbgkoldoflaaGreatDoor.Sp
noncomputable def cubic_AtS.f (on : Bool) (s : Int) (f : Int) (m : Int) (k : Int) (e : Int) (now : Int) : Option (Int) := need ((I s) ∧ (I f) ∧ (I m) ∧ (I k) ∧ (I now)) (some (atQ on s f m k e now))
theorem cubic_AtS.eq {on : Bool} {s : Int} {f : Int} {m : Int} {k : Int} {e : Int} {now : Int} (h1 : I s) (h2 : I f) (h3 : I m) (h4 : I k) (h5 : I now) : cubic_AtS.f on s f m k e now = some (atQ on s f m k e now) := need_pos ⟨h1, h2, h3, h4, h5⟩
theorem cubic_At.main {on : Bool} {s : Int} {f : Int} {m : Int} {k : Int} {e : Int} {now : Int} (h1 : I s) (h2 : I f) (h3 : I m) (h4 : I k) (h5 : I now) : cubic_At.f on s f m k e now = some (atQ on s f m k e now) := by
 unfold cubic_At.f atQ
 rw [cubic_isS.eq h1 h2 h3]
 simp only [Option.bind_some]
 by_cases c : on = true ∧ eOk on s f m k e = true
 ·obtain ⟨rfl, c2⟩ := c; have kb := eOn_k (eOk_on.1 c2)
  rw [c2, if_pos (show (true && true) = true from rfl), if_pos (show true = true ∧ true = true from ⟨rfl, rfl⟩), safe_SubS.eq h5 h1]
  simp only [Option.bind_some]
  rw [cubic_lawS.eq h3 h4 (near_I _)]
  simp only [Option.bind_some]
  rw [near_clamp, riseQ_near]
  congr 1
  exact lawQ_near (m := m) (now - s) kb
 ·rw [if_neg c, if_neg (show ¬ (on && eOk on s f m k e) = true by simpa using c)]
end
theorem cubic_AtS.calls (a0_0 : Bool) (a0_1 : Int) (a0_2 : Int) (a0_3 : Int) (a0_4 : Int) (a0_5 : Int) (a1 : Int) (r : Int) (w : World) (h : cubic_AtS.f a0_0 a0_1 a0_2 a0_3 a0_4 a0_5 a1 = some r) (hL : Tens w) :
  Calls Tryz.prog 23 #[.agg #[.bool a0_0, .int .i64 a0_1, .int .i64 a0_2, .int .i64 a0_3, .int .i64 a0_4, .int .i64 a0_5], .int .i64 a1] w fun e w' => e = .returned (.int .i64 r) ∧ Below w.heap.size w w' := by
 obtain ⟨hc, h⟩ := Sp.need_some h; obtain ⟨h1, h2, h3, h4, h5⟩ := hc; exact cubic_At.calls a0_0 a0_1 a0_2 a0_3 a0_4 a0_5 a1 r w (by rw [cubic_At.main h1 h2 h3 h4 h5]; exact h) hL

/-! ### cubic_Target: function 9 -/
noncomputable def cubic_Target.j0 : Nat → Int → Int → Bool → Bool → Int → Int → Int → Int → Int → Option (Int)
 | 0, _, _, _, _, _, _, _, _, _ => none
 | k + 1, x1, x2, x13, x427000, x427001, x427002, x427003, x427004, x427005 => if x13 = true then (some x2) else ((cubic_AtS.f x427000 x427001 x427002 x427003 x427004 x427005 x1).bind fun t428 => ((safe_Add.f x2 (wrap64 (Int.tdiv x2 2))).bind fun t429 => ((safe_ClampS.f t428 x2 t429).bind fun t430 => (some t430))))
noncomputable def cubic_Target.f (k : Nat) (a0_0 : Bool) (a0_1 : Int) (a0_2 : Int) (a0_3 : Int) (a0_4 : Int) (a0_5 : Int) (a1 : Int) (a2 : Int) : Option (Int) := if a2 < 0 then (cubic_Target.j0 k a1 a2 true a0_0 a0_1 a0_2 a0_3 a0_4 a0_5) else ((cubic_isS.f a0_0 a0_1 a0_2 a0_3 a0_4 a0_5).bind fun t427 => (cubic_Target.j0 k a1 a2 (!t427) a0_0 a0_1 a0_2 a0_3 a0_4 a0_5))
set_option maxHeartbeats 8000000 in
set_option maxRecDepth 100000 in
theorem cubic_Target.calls (k : Nat) (a0_0 : Bool) (a0_1 : Int) (a0_2 : Int) (a0_3 : Int) (a0_4 : Int) (a0_5 : Int) (a1 : Int) (a2 : Int) (r : Int) (w : World) (h : cubic_Target.f k a0_0 a0_1 a0_2 a0_3 a0_4 a0_5 a1 a2 = some r) (hL : Tens w) :
  Calls Tryz.prog 9 #[.agg #[.bool a0_0, .int .i64 a0_1, .int .i64 a0_2, .int .i64 a0_3, .int .i64 a0_4, .int .i64 a0_5], .int .i64 a1, .int .i64 a2] w fun e w' => e = .returned (.int .i64 r) ∧ Below w.heap.size w w' := by
 have hu25 := Tryz.underlying25; have HB := Aside0.mk (Below.refl w.heap.size w); have H : (if a2 < 0 then (cubic_Target.j0 k a1 a2 true a0_0 a0_1 a0_2 a0_3 a0_4 a0_5) else ((cubic_isS.f a0_0 a0_1 a0_2 a0_3 a0_4 a0_5).bind fun t427 => (cubic_Target.j0 k a1 a2 (!t427) a0_0 a0_1 a0_2 a0_3 a0_4 a0_5))) = some r := h; clear h; have HC4 := Aside0.mk H; clear H
 go_enter Tryz.func9, Tryz.ntmps9
 go_upto_region 1 with (first | ((with_reducible refine gate_dst (N := 3) rfl ?_); refine box_event ?hg (N := 3) ?hd (cs := #[.bool a0_0, .int .i64 a0_1, .int .i64 a0_2, .int .i64 a0_3, .int .i64 a0_4, .int .i64 a0_5]) (t := 25) ?hr ?_; (case hd => rfl); (case hg => rfl); (case hr => first | (go_simp; done) | (go_simp; rfl)); intro gb426 hg w5 hbox hb; have BK426 := Aside0.mk (hbox); obtain ⟨GW426, nHB⟩ := geA hg hb; have GE426 := GW426; replace HB := nHB; clear nHB; clear hb hbox hg))
 (try simp only [Act.put, sA, sB, sC])
 go_cut [13] (fun v13 wc => ∃ (kq : Nat) (x13_3 : Bool), v13 = .bool x13_3 ∧ Aside0 (cubic_Target.j0 kq a1 a2 x13_3 a0_0 a0_1 a0_2 a0_3 a0_4 a0_5 = some r) ∧ Aside0 (kq ≤ k) ∧ Aside0 (wc.heap[gb426]? = some (.cells #[.bool a0_0, .int .i64 a0_1, .int .i64 a0_2, .int .i64 a0_3, .int .i64 a0_4, .int .i64 a0_5] 25 (0, 0))) ∧ Aside0 (Below w.heap.size w wc))
 case first =>
  have H := HC4.out; clear HC4
  by_cases c6 : a2 < 0
  ·rw [if_pos c6] at H
   have c6b0 : decide (a2 < 0) = true := decide_eq_true c6; clear c6
   (first | rw [c6b0] | (simp only [i64_w, i32_w]; rw [c6b0]) | skip)
   have H' := Aside0.mk H; clear H
   go_wp2
   go_meet
   case rel => exact ⟨_, (true), (by first | rfl | (simp; done) | (simp [*]; done)), H', ⟨by first | omega | exact Nat.le_refl _⟩, ⟨by (with_reducible repeat first | apply blk_drewN | apply blk_drew | apply blk_alloc); exact BK426.out⟩, ⟨by repeat (first | (with_reducible first | exact HB.out | apply below_alloc | apply pw_below_drewN | apply below_drew1 | refine below_set ?_ GE426.out) | exact HB.out)⟩⟩
  ·rw [if_neg c6] at H
   have c6b0 : decide (a2 < 0) = false := decide_eq_false c6; clear c6
   (first | rw [c6b0] | (simp only [i64_w, i32_w]; rw [c6b0]) | skip)
   replace H := Option.bind_eq_some_iff.mp H; obtain ⟨t427, A70, H⟩ := H; replace H : (cubic_Target.j0 k a1 a2 (!t427) a0_0 a0_1 a0_2 a0_3 a0_4 a0_5) = some r := H; have A7 := Aside0.mk A70; clear A70; have H' := Aside0.mk H; clear H; have hcz8_0 := czZ BK426 0 (.bool a0_0); have hcz8_1 := czZ BK426 1 (.int .i64 a0_1); have hcz8_2 := czZ BK426 2 (.int .i64 a0_2); have hcz8_3 := czZ BK426 3 (.int .i64 a0_3); have hcz8_4 := czZ BK426 4 (.int .i64 a0_4); have hcz8_5 := czZ BK426 5 (.int .i64 a0_5); have hfz8_0 := blk_frozen BK426.out 0; have hfz8_1 := blk_frozen BK426.out 1; have hfz8_2 := blk_frozen BK426.out 2; have hfz8_3 := blk_frozen BK426.out 3; have hfz8_4 := blk_frozen BK426.out 4; have hfz8_5 := blk_frozen BK426.out 5
   go_wp2_with (first | (go_at_call 21; (with_reducible refine (cubic_isS.calls a0_0 a0_1 a0_2 a0_3 a0_4 a0_5 t427 _ A7.out ?hT_).mono ?_); (case hT_ => exact tensB hL (by repeat (first | (with_reducible first | exact HB.out | apply below_alloc | apply pw_below_drewN | apply below_drew1 | refine below_set ?_ (Aside0.out (by assumption))) | exact HB.out))); rintro e w9 ⟨rfl, hb⟩; replace BK426 := bdZ BK426 hb; replace HB := stA hb; clear hb))
   go_meet
   case rel => exact ⟨_, (!t427), (by first | rfl | (simp; done) | (simp [*]; done)), H', ⟨by first | omega | exact Nat.le_refl _⟩, ⟨by (with_reducible repeat first | apply blk_drewN | apply blk_drew | apply blk_alloc); exact BK426.out⟩, ⟨by repeat (first | (with_reducible first | exact HB.out | apply below_alloc | apply pw_below_drewN | apply below_drew1 | refine below_set ?_ GE426.out) | exact HB.out)⟩⟩
 case rest =>
  clear HC4
  try clear p2
  try clear c6
  try clear c6b0
  try clear c9
  try clear hcz8_0
  try clear hcz8_1
  try clear hcz8_2
  try clear hcz8_3
  try clear hcz8_4
  try clear hcz8_5
  try clear hfz8_0
  try clear hfz8_1
  try clear hfz8_2
  try clear hfz8_3
  try clear hfz8_4
  try clear hfz8_5
  obtain ⟨kq, x13_3, rfl, HA, HJ3, BK426, HB⟩ := hcut
  cases kq with
  | zero => exact absurd HA.out (by simp [cubic_Target.j0])
  | succ kj3 =>
   have H := HA.out; clear HA; simp only [cubic_Target.j0] at H
   by_cases c10 : x13_3 = true
   ·subst c10
    have H1 : (some a2) = some r := by rw [if_pos rfl] at H; exact H
    clear H; have H := H1; clear H1; obtain rfl := Option.some.inj H
    go_wp2
    go_ret
    exact ⟨by first | rfl | (simp [errW_none, errW_some] <;> rfl) | (simp [*, errW_none, errW_some] <;> rfl), by repeat (first | (with_reducible first | exact HB.out | apply below_alloc | apply pw_below_drewN | apply below_drew1 | refine below_set ?_ GE426.out) | exact HB.out)⟩
   ·replace c10 := Bool.eq_false_iff.mpr c10
    subst c10
    have H1 : ((cubic_AtS.f a0_0 a0_1 a0_2 a0_3 a0_4 a0_5 a1).bind fun t428 => ((safe_Add.f a2 (wrap64 (Int.tdiv a2 2))).bind fun t429 => ((safe_ClampS.f t428 a2 t429).bind fun t430 => (some t430)))) = some r := by rw [if_neg (show ¬ (false = true) by decide)] at H; exact H
    clear H; have H := H1; clear H1; replace H := Option.bind_eq_some_iff.mp H; obtain ⟨t428, A110, H⟩ := H; replace H : ((safe_Add.f a2 (wrap64 (Int.tdiv a2 2))).bind fun t429 => ((safe_ClampS.f t428 a2 t429).bind fun t430 => (some t430))) = some r := H; have A11 := Aside0.mk A110; clear A110; replace H := Option.bind_eq_some_iff.mp H; obtain ⟨t429, A120, H⟩ := H; replace H : ((safe_ClampS.f t428 a2 t429).bind fun t430 => (some t430)) = some r := H; have A12 := Aside0.mk A120; clear A120; replace H := Option.bind_eq_some_iff.mp H; obtain ⟨t430, A130, H⟩ := H; replace H : (some t430) = some r := H; have A13 := Aside0.mk A130; clear A130; obtain rfl := Option.some.inj H; have hcz14_0 : wc.cell? ⟨gb426, 0, none⟩ = some (.bool a0_0) := (blk_cell BK426.out 0).trans rfl; have hcz14_1 : wc.cell? ⟨gb426, 1, none⟩ = some (.int .i64 a0_1) := (blk_cell BK426.out 1).trans rfl; have hcz14_2 : wc.cell? ⟨gb426, 2, none⟩ = some (.int .i64 a0_2) := (blk_cell BK426.out 2).trans rfl; have hcz14_3 : wc.cell? ⟨gb426, 3, none⟩ = some (.int .i64 a0_3) := (blk_cell BK426.out 3).trans rfl; have hcz14_4 : wc.cell? ⟨gb426, 4, none⟩ = some (.int .i64 a0_4) := (blk_cell BK426.out 4).trans rfl; have hcz14_5 : wc.cell? ⟨gb426, 5, none⟩ = some (.int .i64 a0_5) := (blk_cell BK426.out 5).trans rfl; have hfz14_0 := blk_frozen BK426.out 0; have hfz14_1 := blk_frozen BK426.out 1; have hfz14_2 := blk_frozen BK426.out 2; have hfz14_3 := blk_frozen BK426.out 3; have hfz14_4 := blk_frozen BK426.out 4; have hfz14_5 := blk_frozen BK426.out 5
    go_wp2_with (first | ((with_reducible refine gate_callee (f := 23) rfl ?_); refine goesLA_ (some 17) rfl rfl Tryz.func23 rfl #[.agg #[.bool a0_0, .int .i64 a0_1, .int .i64 a0_2, .int .i64 a0_3, .int .i64 a0_4, .int .i64 a0_5], .int .i64 a1] rfl ?_; (with_reducible refine (cubic_AtS.calls a0_0 a0_1 a0_2 a0_3 a0_4 a0_5 a1 t428 _ A11.out ?hT_).mono ?_); (case hT_ => exact tensB hL (by repeat (first | (with_reducible first | exact HB.out | apply below_alloc | apply pw_below_drewN | apply below_drew1 | refine below_set ?_ (Aside0.out (by assumption))) | exact HB.out))); rintro e w15 ⟨rfl, hb⟩; refine ⟨_, rfl, ?_⟩; replace BK426 := bdZ BK426 hb; replace HB := stA hb; clear hb) | ((with_reducible refine gate_callee (f := 24) rfl ?_); refine goesLA_ (some 22) rfl rfl Tryz.func24 rfl #[.int .i64 a2, .int .i64 (wrap64 (Int.tdiv a2 2))] rfl ?_; (with_reducible refine (safe_Add.calls a2 (wrap64 (Int.tdiv a2 2)) t429 _ A12.out).mono ?_); rintro e w16 ⟨rfl, hb⟩; refine ⟨_, rfl, ?_⟩; replace BK426 := bdZ BK426 hb; replace HB := stA hb; clear hb) | ((with_reducible refine gate_callee (f := 22) rfl ?_); refine goesLA_ (some 23) rfl rfl Tryz.func22 rfl #[.int .i64 t428, .int .i64 a2, .int .i64 t429] rfl ?_; (with_reducible refine (safe_ClampS.calls t428 a2 t429 t430 _ A13.out).mono ?_); rintro e w17 ⟨rfl, hb⟩; refine ⟨_, rfl, ?_⟩; replace BK426 := bdZ BK426 hb; replace HB := stA hb; clear hb))
    go_ret
    exact ⟨by first | rfl | (simp [errW_none, errW_some] <;> rfl) | (simp [*, errW_none, errW_some] <;> rfl), by repeat (first | (with_reducible first | exact HB.out | apply below_alloc | apply pw_below_drewN | apply below_drew1 | refine below_set ?_ GE426.out) | exact HB.out)⟩

/-! ### cubic_TargetS: pure, behind function 9 -/
section
open Go.Proofs.YtfahbgkoldoflaaGreatDoor.Sp
noncomputable def cubic_TargetS.f (on : Bool) (s : Int) (f : Int) (m : Int) (k : Int) (e : Int) (now : Int) (w : Int) : Option (Int) := need ((I s) ∧ (I f) ∧ (I m) ∧ (I k) ∧ (I now) ∧ (I w)) (some (targetQ on s f m k e now w))
theorem cubic_TargetS.eq {on : Bool} {s : Int} {f : Int} {m : Int} {k : Int} {e : Int} {now : Int} {w : Int} (h1 : I s) (h2 : I f) (h3 : I m) (h4 : I k) (h5 : I now) (h6 : I w) : cubic_TargetS.f on s f m k e now w = some (targetQ on s f m k e now w) := need_pos ⟨h1, h2, h3, h4, h5, h6⟩
theorem cubic_Target.main {on : Bool} {s : Int} {f : Int} {m : Int} {k : Int} {e : Int} {now : Int} {w : Int} (h1 : I s) (h2 : I f) (h3 : I m) (h4 : I k) (h5 : I now) (h6 : I w) : cubic_Target.f 1 on s f m k e now w = some (targetQ on s f m k e now w) := by
 unfold cubic_Target.f
 simp only [cubic_Target.j0]
 rw [cubic_isS.eq h1 h2 h3]
 simp only [Option.bind_some]
 unfold targetQ
 by_cases c1 : w < 0
 ·rw [if_pos c1, if_pos (show w < 0 ∨ ¬ (on = true ∧ eOk on s f m k e = true) from Or.inl c1)]; rfl
 ·rw [if_neg c1]
  by_cases c : on = true ∧ eOk on s f m k e = true
  ·have n : ¬ (w < 0 ∨ ¬ (on = true ∧ eOk on s f m k e = true)) := fun x => x.elim c1 (fun y => y c)
   have q : (on && eOk on s f m k e) = true := by simpa using c
   rw [if_neg n, q]
   have wd : RowKit.wrap64 (Int.tdiv w 2) = w / 2 := by rw [Int.tdiv_eq_ediv_of_nonneg (by omega), w64 (by omega)]
   have ab : I (atQ on s f m k e now) := by unfold atQ; rw [if_pos c]; have := lawQ_bd m k (now - s); omega
   rw [if_neg (by simp), cubic_AtS.eq h1 h2 h3 h4 h5, wd, safe_Add.eq h6 (by omega)]
   simp only [Option.bind_some]
   rw [safe_ClampS.eq ab h6 (near_I _)]
   rfl
  ·have n : w < 0 ∨ ¬ (on = true ∧ eOk on s f m k e = true) := Or.inr c
   have q : (on && eOk on s f m k e) = false := by
    cases x : (on && eOk on s f m k e)
    ·rfl
    ·exact absurd (by simpa using x) c
   rw [if_pos n, q]; rfl
end
theorem cubic_TargetS.calls (a0_0 : Bool) (a0_1 : Int) (a0_2 : Int) (a0_3 : Int) (a0_4 : Int) (a0_5 : Int) (a1 : Int) (a2 : Int) (r : Int) (w : World) (h : cubic_TargetS.f a0_0 a0_1 a0_2 a0_3 a0_4 a0_5 a1 a2 = some r) (hL : Tens w) :
  Calls Tryz.prog 9 #[.agg #[.bool a0_0, .int .i64 a0_1, .int .i64 a0_2, .int .i64 a0_3, .int .i64 a0_4, .int .i64 a0_5], .int .i64 a1, .int .i64 a2] w fun e w' => e = .returned (.int .i64 r) ∧ Below w.heap.size w w' := by
 obtain ⟨hc, h⟩ := Sp.need_some h; obtain ⟨h1, h2, h3, h4, h5, h6⟩ := hc; exact cubic_Target.calls 1 a0_0 a0_1 a0_2 a0_3 a0_4 a0_5 a1 a2 r w (by rw [cubic_Target.main h1 h2 h3 h4 h5 h6]; exact h) hL

/-! ### sawtoothtop_TopReal: function 3 -/
noncomputable def sawtoothtop_TopReal.j0 : Nat → Int → Int → Bool → Int → Int → Int → Bool → Int → Int → Int → Int → Int → Option (Bool)
 | 0, _, _, _, _, _, _, _, _, _, _, _, _ => none
 | k + 1, x3, x5, x15, x18, x19, x20, x440000, x440001, x440002, x440003, x440004, x440005 => (cubic_TargetS.f x440000 x440001 x440002 x440003 x440004 x440005 x3 x18).bind fun t440 => ((grow_Both.f x18 t440 x5 x19).bind fun t441 => ((cubic_TargetS.f x440000 x440001 x440002 x440003 x440004 x440005 x20 x18).bind fun t442 => ((grow_Both.f x18 t442 x5 x19).bind fun t443 => (if x15 = true then (if t443 ≤ t441 then (some (decide ((wrap64 (t441 - t443)) ≤ 2001))) else (none)) else (none)))))
noncomputable def sawtoothtop_TopReal.f (k : Nat) (a0 : Int) (a1 : Int) (a2 : Int) (a3 : Int) (a4 : Int) (a5 : Int) (a6 : Int) : Option (Bool) := (sawtoothtop_awake.f).bind fun t431 => ((epoch_BeginS.f a0 a1 a2).bind fun bt432 => (if bt432.2.2.2.2.2.2 = 0 then (if a3 > (-9223372036854775808) then (sawtoothtop_TopReal.j0 k a3 a5 t431 (wrap64 (131072 + (wrap64 (a4)))) (mn (wrap64 (a6)) (wrap64 (131072 + (wrap64 (a4))))) (wrap64 (a3 - 1)) bt432.1 bt432.2.1 bt432.2.2.1 bt432.2.2.2.1 bt432.2.2.2.2.1 bt432.2.2.2.2.2.1) else (sawtoothtop_TopReal.j0 k a3 a5 t431 (wrap64 (131072 + (wrap64 (a4)))) (mn (wrap64 (a6)) (wrap64 (131072 + (wrap64 (a4))))) a3 bt432.1 bt432.2.1 bt432.2.2.1 bt432.2.2.2.1 bt432.2.2.2.2.1 bt432.2.2.2.2.2.1)) else (some t431)))
set_option maxHeartbeats 8000000 in
set_option maxRecDepth 100000 in
theorem sawtoothtop_TopReal.calls (k : Nat) (a0 : Int) (a1 : Int) (a2 : Int) (a3 : Int) (a4 : Int) (a5 : Int) (a6 : Int) (r : Bool) (w : World) (h : sawtoothtop_TopReal.f k a0 a1 a2 a3 a4 a5 a6 = some r) (hL : Tens w) :
  Calls Tryz.prog 3 #[.int .i64 a0, .int .i64 a1, .int .i64 a2, .int .i64 a3, .int .u32 a4, .int .i64 a5, .int .u32 a6] w fun e w' => e = .returned (.bool r) ∧ Below w.heap.size w w' := by
 have hu25 := Tryz.underlying25; have HB := Aside0.mk (Below.refl w.heap.size w); have H : ((sawtoothtop_awake.f).bind fun t431 => ((epoch_BeginS.f a0 a1 a2).bind fun bt432 => (if bt432.2.2.2.2.2.2 = 0 then (if a3 > (-9223372036854775808) then (sawtoothtop_TopReal.j0 k a3 a5 t431 (wrap64 (131072 + (wrap64 (a4)))) (mn (wrap64 (a6)) (wrap64 (131072 + (wrap64 (a4))))) (wrap64 (a3 - 1)) bt432.1 bt432.2.1 bt432.2.2.1 bt432.2.2.2.1 bt432.2.2.2.2.1 bt432.2.2.2.2.2.1) else (sawtoothtop_TopReal.j0 k a3 a5 t431 (wrap64 (131072 + (wrap64 (a4)))) (mn (wrap64 (a6)) (wrap64 (131072 + (wrap64 (a4))))) a3 bt432.1 bt432.2.1 bt432.2.2.1 bt432.2.2.2.1 bt432.2.2.2.2.1 bt432.2.2.2.2.2.1)) else (some t431)))) = some r := h; clear h; replace H := Option.bind_eq_some_iff.mp H; obtain ⟨t431, A80, H⟩ := H; (try dsimp only at H); have A8 := Aside0.mk A80; clear A80; replace H := Option.bind_eq_some_iff.mp H; obtain ⟨⟨t432, t433, t434, t435, t436, t437, t438⟩, A90, H⟩ := H; (try dsimp only at H); have A9 := Aside0.mk A90; clear A90
 by_cases c10 : t438 = 0
 ·rw [if_pos c10] at H
  have c10b0 : (t438 == 0) = true := beq_iff_eq.mpr c10; have c10b1 : (t438 != 0) = false := bne_eq_false_iff_eq.mpr c10; clear c10
  obtain ⟨ji11, hji11⟩ : ∃ j_ : Int, (mn (wrap64 (a6)) (wrap64 (131072 + (wrap64 (a4))))) = j_ := ⟨_, rfl⟩
  replace H : (if a3 > (-9223372036854775808) then (sawtoothtop_TopReal.j0 k a3 a5 t431 (wrap64 (131072 + (wrap64 (a4)))) ji11 (wrap64 (a3 - 1)) t432 t433 t434 t435 t436 t437) else (sawtoothtop_TopReal.j0 k a3 a5 t431 (wrap64 (131072 + (wrap64 (a4)))) ji11 a3 t432 t433 t434 t435 t436 t437)) = some r := by first | (rw [hji11] at H; exact H) | (simp only [hji11] at H ⊢; exact H)
  (try rw [hji11] at A8)
  (try rw [hji11] at A9)
  have hji11_ : (if (wrap64 (131072 + (wrap64 (a4)))) < (wrap64 (a6)) then (wrap64 (131072 + (wrap64 (a4)))) else (wrap64 (a6))) = ji11 := hji11; have HC12 := Aside0.mk H; clear H
  go_enter Tryz.func3, Tryz.ntmps3
  go_upto_if 43 with (first | ((with_reducible refine gate_callee (f := 6) rfl ?_); refine goesLA_ (some 23) rfl rfl Tryz.func6 rfl #[] rfl ?_; (with_reducible refine (sawtoothtop_awake.calls  t431 _ A8.out ?hT_).mono ?_); (case hT_ => exact tensB hL (by repeat (first | (with_reducible first | exact HB.out | apply below_alloc | apply pw_below_drewN | apply below_drew1 | refine below_set ?_ (Aside0.out (by assumption))) | exact HB.out))); rintro e w13 ⟨rfl, hb⟩; refine ⟨_, rfl, ?_⟩; replace HB := Aside0.mk (below_step (by repeat (first | (with_reducible first | exact HB.out | apply below_alloc | apply pw_below_drewN | apply below_drew1) | exact HB.out)) hb); clear hb) | ((with_reducible refine gate_callee (f := 7) rfl ?_); refine goesLA_ (some 28) rfl rfl Tryz.func7 rfl #[.int .i64 a0, .int .i64 a1, .int .i64 a2] rfl ?_; (with_reducible refine (epoch_BeginS.calls a0 a1 a2 t432 t433 t434 t435 t436 t437 t438 _ A9.out ?hT_).mono ?_); (case hT_ => exact tensB hL (by repeat (first | (with_reducible first | exact HB.out | apply below_alloc | apply pw_below_drewN | apply below_drew1 | refine below_set ?_ (Aside0.out (by assumption))) | exact HB.out))); rintro e w14 ⟨rfl, hb⟩; refine ⟨_, rfl, ?_⟩; replace HB := Aside0.mk (below_step (by repeat (first | (with_reducible first | exact HB.out | apply below_alloc | apply pw_below_drewN | apply below_drew1) | exact HB.out)) hb); clear hb) | ((with_reducible refine gate_dst (N := 16) rfl ?_); refine box_event ?hg (N := 16) ?hd (cs := #[.bool false, .int .i64 0, .int .i64 0, .int .i64 0, .int .i64 0, .int .i64 0]) (t := 25) ?hr ?_; (case hd => rfl); (case hg => rfl); (case hr => first | (go_simp; done) | (go_simp; rfl)); intro gb439 hg w15 hbox hb; have BK439 := Aside0.mk (hbox); have GW439 := Aside0.mk ((by rw [hg]; exact (below_size (by repeat (first | (with_reducible first | exact HB.out | apply below_alloc | apply pw_below_drewN | apply below_drew1) | exact HB.out))) : w.heap.size ≤ gb439)); have GE439 := Aside0.mk ((by rw [hg]; exact (below_size (by repeat (first | (with_reducible first | exact HB.out | apply below_alloc | apply pw_below_drewN | apply below_drew1) | exact HB.out))) : w.heap.size ≤ gb439)); replace HB := Aside0.mk (below_step (by repeat (first | (with_reducible first | exact HB.out | apply below_alloc | apply pw_below_drewN | apply below_drew1) | exact HB.out)) hb); clear hb hbox hg; have hcz16_0 := czZ BK439 0 (.bool false); have hcz16_1 := czZ BK439 1 (.int .i64 0); have hcz16_2 := czZ BK439 2 (.int .i64 0); have hcz16_3 := czZ BK439 3 (.int .i64 0); have hcz16_4 := czZ BK439 4 (.int .i64 0); have hcz16_5 := czZ BK439 5 (.int .i64 0); have hfz16_0 := blk_frozen BK439.out 0; have hfz16_1 := blk_frozen BK439.out 1; have hfz16_2 := blk_frozen BK439.out 2; have hfz16_3 := blk_frozen BK439.out 3; have hfz16_4 := blk_frozen BK439.out 4; have hfz16_5 := blk_frozen BK439.out 5))
  (try simp only [Act.put, sA, sB, sC])
  go_cut [20] (fun v20 wc => ∃ (kq : Nat) (x20_11 : Int), v20 = .int .i64 x20_11 ∧ Aside0 (sawtoothtop_TopReal.j0 kq a3 a5 t431 (wrap64 (131072 + (wrap64 (a4)))) ji11 x20_11 t432 t433 t434 t435 t436 t437 = some r) ∧ Aside0 (kq ≤ k) ∧ Aside0 (wc.heap[gb439]? = some (.cells #[.bool t432, .int .i64 t433, .int .i64 t434, .int .i64 t435, .int .i64 t436, .int .i64 t437] 25 (0, 0))) ∧ Aside0 (Below w.heap.size w wc))
  case first =>
   have H := HC12.out; clear HC12
   by_cases c17 : a3 > (-9223372036854775808)
   ·rw [if_pos c17] at H
    have c17b0 : decide ((-9223372036854775808) < a3) = true := decide_eq_true c17; clear c17
    (first | rw [c17b0] | (simp only [i64_w, i32_w]; rw [c17b0]) | skip)
    have H' := Aside0.mk H; clear H
    go_wp2
    go_meet
    case rel => exact ⟨_, (wrap64 (a3 - 1)), (by first | rfl | (simp; done) | (simp [*]; done)), H', ⟨by first | omega | exact Nat.le_refl _⟩, ⟨by (with_reducible repeat first | apply blk_drewN | apply blk_drew | apply blk_alloc); refine blk_put (cs := #[.bool t432, .int .i64 t433, .int .i64 t434, .int .i64 t435, .int .i64 t436, .int .i64 0]) ?_ 5 _ rfl; (with_reducible repeat first | apply blk_drewN | apply blk_drew | apply blk_alloc); refine blk_put (cs := #[.bool t432, .int .i64 t433, .int .i64 t434, .int .i64 t435, .int .i64 0, .int .i64 0]) ?_ 4 _ rfl; (with_reducible repeat first | apply blk_drewN | apply blk_drew | apply blk_alloc); refine blk_put (cs := #[.bool t432, .int .i64 t433, .int .i64 t434, .int .i64 0, .int .i64 0, .int .i64 0]) ?_ 3 _ rfl; (with_reducible repeat first | apply blk_drewN | apply blk_drew | apply blk_alloc); refine blk_put (cs := #[.bool t432, .int .i64 t433, .int .i64 0, .int .i64 0, .int .i64 0, .int .i64 0]) ?_ 2 _ rfl; (with_reducible repeat first | apply blk_drewN | apply blk_drew | apply blk_alloc); refine blk_put (cs := #[.bool t432, .int .i64 0, .int .i64 0, .int .i64 0, .int .i64 0, .int .i64 0]) ?_ 1 _ rfl; (with_reducible repeat first | apply blk_drewN | apply blk_drew | apply blk_alloc); refine blk_put (cs := #[.bool false, .int .i64 0, .int .i64 0, .int .i64 0, .int .i64 0, .int .i64 0]) ?_ 0 _ rfl; (with_reducible repeat first | apply blk_drewN | apply blk_drew | apply blk_alloc); exact BK439.out⟩, ⟨by repeat (first | (with_reducible first | exact HB.out | apply below_alloc | apply pw_below_drewN | apply below_drew1 | refine below_set ?_ GE439.out) | exact HB.out)⟩⟩
   ·rw [if_neg c17] at H
    have c17b0 : decide ((-9223372036854775808) < a3) = false := decide_eq_false c17; clear c17
    (first | rw [c17b0] | (simp only [i64_w, i32_w]; rw [c17b0]) | skip)
    have H' := Aside0.mk H; clear H
    go_wp2
    go_meet
    case rel => exact ⟨_, (a3), (by first | rfl | (simp; done) | (simp [*]; done)), H', ⟨by first | omega | exact Nat.le_refl _⟩, ⟨by (with_reducible repeat first | apply blk_drewN | apply blk_drew | apply blk_alloc); refine blk_put (cs := #[.bool t432, .int .i64 t433, .int .i64 t434, .int .i64 t435, .int .i64 t436, .int .i64 0]) ?_ 5 _ rfl; (with_reducible repeat first | apply blk_drewN | apply blk_drew | apply blk_alloc); refine blk_put (cs := #[.bool t432, .int .i64 t433, .int .i64 t434, .int .i64 t435, .int .i64 0, .int .i64 0]) ?_ 4 _ rfl; (with_reducible repeat first | apply blk_drewN | apply blk_drew | apply blk_alloc); refine blk_put (cs := #[.bool t432, .int .i64 t433, .int .i64 t434, .int .i64 0, .int .i64 0, .int .i64 0]) ?_ 3 _ rfl; (with_reducible repeat first | apply blk_drewN | apply blk_drew | apply blk_alloc); refine blk_put (cs := #[.bool t432, .int .i64 t433, .int .i64 0, .int .i64 0, .int .i64 0, .int .i64 0]) ?_ 2 _ rfl; (with_reducible repeat first | apply blk_drewN | apply blk_drew | apply blk_alloc); refine blk_put (cs := #[.bool t432, .int .i64 0, .int .i64 0, .int .i64 0, .int .i64 0, .int .i64 0]) ?_ 1 _ rfl; (with_reducible repeat first | apply blk_drewN | apply blk_drew | apply blk_alloc); refine blk_put (cs := #[.bool false, .int .i64 0, .int .i64 0, .int .i64 0, .int .i64 0, .int .i64 0]) ?_ 0 _ rfl; (with_reducible repeat first | apply blk_drewN | apply blk_drew | apply blk_alloc); exact BK439.out⟩, ⟨by repeat (first | (with_reducible first | exact HB.out | apply below_alloc | apply pw_below_drewN | apply below_drew1 | refine below_set ?_ GE439.out) | exact HB.out)⟩⟩
  case rest =>
   clear HC12
   try clear c1
   try clear p2
   try clear c3
   try clear c6
   try clear p6
   try clear c7
   try clear c10
   try clear c10b0
   try clear c10b1
   try clear c17
   try clear c17b0
   try clear hcz16_0
   try clear hcz16_1
   try clear hcz16_2
   try clear hcz16_3
   try clear hcz16_4
   try clear hcz16_5
   try clear hfz16_0
   try clear hfz16_1
   try clear hfz16_2
   try clear hfz16_3
   try clear hfz16_4
   try clear hfz16_5
   obtain ⟨kq, x20_11, rfl, HA, HJ11, BK439, HB⟩ := hcut
   cases kq with
   | zero => exact absurd HA.out (by simp [sawtoothtop_TopReal.j0])
   | succ kj11 =>
    have H := HA.out; clear HA; simp only [sawtoothtop_TopReal.j0] at H; replace H := Option.bind_eq_some_iff.mp H; obtain ⟨t440, A180, H⟩ := H; (try dsimp only at H); have A18 := Aside0.mk A180; clear A180; replace H := Option.bind_eq_some_iff.mp H; obtain ⟨t441, A190, H⟩ := H; (try dsimp only at H); have A19 := Aside0.mk A190; clear A190; replace H := Option.bind_eq_some_iff.mp H; obtain ⟨t442, A200, H⟩ := H; (try dsimp only at H); have A20 := Aside0.mk A200; clear A200; replace H := Option.bind_eq_some_iff.mp H; obtain ⟨t443, A210, H⟩ := H; replace H : (if t431 = true then (if t443 ≤ t441 then (some (decide ((wrap64 (t441 - t443)) ≤ 2001))) else (none)) else (none)) = some r := H; have A21 := Aside0.mk A210; clear A210
    by_cases c22 : t431 = true
    ·subst c22
     have H1 : (if t443 ≤ t441 then (some (decide ((wrap64 (t441 - t443)) ≤ 2001))) else (none)) = some r := by rw [if_pos rfl] at H; exact H
     clear H; have H := H1; clear H1
     by_cases c23 : t443 ≤ t441
     ·rw [if_pos c23] at H
      have c23b0 : decide (t443 ≤ t441) = true := decide_eq_true c23; clear c23; obtain rfl := Option.some.inj H; have hcz24_0 : wc.cell? ⟨gb439, 0, none⟩ = some (.bool t432) := (blk_cell BK439.out 0).trans rfl; have hcz24_1 : wc.cell? ⟨gb439, 1, none⟩ = some (.int .i64 t433) := (blk_cell BK439.out 1).trans rfl; have hcz24_2 : wc.cell? ⟨gb439, 2, none⟩ = some (.int .i64 t434) := (blk_cell BK439.out 2).trans rfl; have hcz24_3 : wc.cell? ⟨gb439, 3, none⟩ = some (.int .i64 t435) := (blk_cell BK439.out 3).trans rfl; have hcz24_4 : wc.cell? ⟨gb439, 4, none⟩ = some (.int .i64 t436) := (blk_cell BK439.out 4).trans rfl; have hcz24_5 : wc.cell? ⟨gb439, 5, none⟩ = some (.int .i64 t437) := (blk_cell BK439.out 5).trans rfl; have hfz24_0 := blk_frozen BK439.out 0; have hfz24_1 := blk_frozen BK439.out 1; have hfz24_2 := blk_frozen BK439.out 2; have hfz24_3 := blk_frozen BK439.out 3; have hfz24_4 := blk_frozen BK439.out 4; have hfz24_5 := blk_frozen BK439.out 5
      go_wp2_with (first | ((with_reducible refine gate_callee (f := 9) rfl ?_); refine goesLA_ (some 50) rfl rfl Tryz.func9 rfl #[.agg #[.bool t432, .int .i64 t433, .int .i64 t434, .int .i64 t435, .int .i64 t436, .int .i64 t437], .int .i64 a3, .int .i64 (wrap64 (131072 + (wrap64 (a4))))] rfl ?_; (with_reducible refine (cubic_TargetS.calls t432 t433 t434 t435 t436 t437 a3 (wrap64 (131072 + (wrap64 (a4)))) t440 _ A18.out ?hT_).mono ?_); (case hT_ => exact tensB hL (by repeat (first | (with_reducible first | exact HB.out | apply below_alloc | apply pw_below_drewN | apply below_drew1 | refine below_set ?_ (Aside0.out (by assumption))) | exact HB.out))); rintro e w25 ⟨rfl, hb⟩; refine ⟨_, rfl, ?_⟩; replace BK439 := bdZ BK439 hb; replace HB := stA hb; clear hb) | ((with_reducible refine gate_callee (f := 8) rfl ?_); refine goesL_ (some 53) rfl rfl Tryz.func8 (by kernel_rfl) rfl #[.int .i64 (wrap64 (131072 + (wrap64 (a4)))), .int .i64 t440, .int .i64 a5, .int .i64 ji11] rfl (by (try simp only [List.map_toArray, List.map_cons, List.map_nil]); first | done | (simp only [hji11]; rfl) | rfl | (simp only [List.length_drop, List.length_take]; rfl)) ?_; (with_reducible refine (grow_Both.calls (wrap64 (131072 + (wrap64 (a4)))) t440 a5 ji11 t441 _ A19.out).mono ?_); rintro e w26 ⟨rfl, hb⟩; refine ⟨_, rfl, ?_⟩; replace BK439 := bdZ BK439 hb; replace HB := stA hb; clear hb; have hcz27_0 := czZ BK439 0 (.bool t432); have hcz27_1 := czZ BK439 1 (.int .i64 t433); have hcz27_2 := czZ BK439 2 (.int .i64 t434); have hcz27_3 := czZ BK439 3 (.int .i64 t435); have hcz27_4 := czZ BK439 4 (.int .i64 t436); have hcz27_5 := czZ BK439 5 (.int .i64 t437); have hfz27_0 := blk_frozen BK439.out 0; have hfz27_1 := blk_frozen BK439.out 1; have hfz27_2 := blk_frozen BK439.out 2; have hfz27_3 := blk_frozen BK439.out 3; have hfz27_4 := blk_frozen BK439.out 4; have hfz27_5 := blk_frozen BK439.out 5) | ((with_reducible refine gate_callee (f := 9) rfl ?_); refine goesLA_ (some 58) rfl rfl Tryz.func9 rfl #[.agg #[.bool t432, .int .i64 t433, .int .i64 t434, .int .i64 t435, .int .i64 t436, .int .i64 t437], .int .i64 x20_11, .int .i64 (wrap64 (131072 + (wrap64 (a4))))] rfl ?_; (with_reducible refine (cubic_TargetS.calls t432 t433 t434 t435 t436 t437 x20_11 (wrap64 (131072 + (wrap64 (a4)))) t442 _ A20.out ?hT_).mono ?_); (case hT_ => exact tensB hL (by repeat (first | (with_reducible first | exact HB.out | apply below_alloc | apply pw_below_drewN | apply below_drew1 | refine below_set ?_ (Aside0.out (by assumption))) | exact HB.out))); rintro e w28 ⟨rfl, hb⟩; refine ⟨_, rfl, ?_⟩; replace BK439 := bdZ BK439 hb; replace HB := stA hb; clear hb) | ((with_reducible refine gate_callee (f := 8) rfl ?_); refine goesL_ (some 61) rfl rfl Tryz.func8 (by kernel_rfl) rfl #[.int .i64 (wrap64 (131072 + (wrap64 (a4)))), .int .i64 t442, .int .i64 a5, .int .i64 ji11] rfl (by (try simp only [List.map_toArray, List.map_cons, List.map_nil]); first | done | (simp only [hji11]; rfl) | rfl | (simp only [List.length_drop, List.length_take]; rfl)) ?_; (with_reducible refine (grow_Both.calls (wrap64 (131072 + (wrap64 (a4)))) t442 a5 ji11 t443 _ A21.out).mono ?_); rintro e w29 ⟨rfl, hb⟩; refine ⟨_, rfl, ?_⟩; replace BK439 := bdZ BK439 hb; replace HB := stA hb; clear hb))
      go_ret
      exact ⟨by first | rfl | (simp [errW_none, errW_some] <;> rfl) | (simp only [← hji11]; first | rfl | (simp [errW_none, errW_some] <;> rfl)) | (simp [*, errW_none, errW_some] <;> rfl), by repeat (first | (with_reducible first | exact HB.out | apply below_alloc | apply pw_below_drewN | apply below_drew1 | refine below_set ?_ GE439.out) | exact HB.out)⟩
     ·rw [if_neg c23] at H
      exact absurd H (by simp)
    ·replace c22 := Bool.eq_false_iff.mpr c22
     subst c22
     have H1 : (none) = some r := by rw [if_neg (show ¬ (false = true) by decide)] at H; exact H
     clear H; have H := H1; clear H1; exact absurd H (by simp)
 ·rw [if_neg c10] at H
  have c10b0 : (t438 == 0) = false := beq_eq_false_iff_ne.mpr c10; have c10b1 : (t438 != 0) = true := bne_iff_ne.mpr c10; obtain rfl := Option.some.inj H
  go_enter Tryz.func3, Tryz.ntmps3
  go_wp2_with (first | ((with_reducible refine gate_callee (f := 6) rfl ?_); refine goesLA_ (some 23) rfl rfl Tryz.func6 rfl #[] rfl ?_; (with_reducible refine (sawtoothtop_awake.calls  t431 _ A8.out ?hT_).mono ?_); (case hT_ => exact tensB hL (by repeat (first | (with_reducible first | exact HB.out | apply below_alloc | apply pw_below_drewN | apply below_drew1 | refine below_set ?_ (Aside0.out (by assumption))) | exact HB.out))); rintro e w30 ⟨rfl, hb⟩; refine ⟨_, rfl, ?_⟩; replace HB := stA hb; clear hb) | ((with_reducible refine gate_callee (f := 7) rfl ?_); refine goesLA_ (some 28) rfl rfl Tryz.func7 rfl #[.int .i64 a0, .int .i64 a1, .int .i64 a2] rfl ?_; (with_reducible refine (epoch_BeginS.calls a0 a1 a2 t432 t433 t434 t435 t436 t437 t438 _ A9.out ?hT_).mono ?_); (case hT_ => exact tensB hL (by repeat (first | (with_reducible first | exact HB.out | apply below_alloc | apply pw_below_drewN | apply below_drew1 | refine below_set ?_ (Aside0.out (by assumption))) | exact HB.out))); rintro e w31 ⟨rfl, hb⟩; refine ⟨_, rfl, ?_⟩; replace HB := stA hb; clear hb) | ((with_reducible refine gate_dst (N := 16) rfl ?_); refine box_event ?hg (N := 16) ?hd (cs := #[.bool false, .int .i64 0, .int .i64 0, .int .i64 0, .int .i64 0, .int .i64 0]) (t := 25) ?hr ?_; (case hd => rfl); (case hg => rfl); (case hr => first | (go_simp; done) | (go_simp; rfl)); intro gb439 hg w32 hbox hb; have BK439 := Aside0.mk (hbox); obtain ⟨GW439, nHB⟩ := geA hg hb; have GE439 := GW439; replace HB := nHB; clear nHB; clear hb hbox hg; have hcz33_0 := czZ BK439 0 (.bool false); have hcz33_1 := czZ BK439 1 (.int .i64 0); have hcz33_2 := czZ BK439 2 (.int .i64 0); have hcz33_3 := czZ BK439 3 (.int .i64 0); have hcz33_4 := czZ BK439 4 (.int .i64 0); have hcz33_5 := czZ BK439 5 (.int .i64 0); have hfz33_0 := blk_frozen BK439.out 0; have hfz33_1 := blk_frozen BK439.out 1; have hfz33_2 := blk_frozen BK439.out 2; have hfz33_3 := blk_frozen BK439.out 3; have hfz33_4 := blk_frozen BK439.out 4; have hfz33_5 := blk_frozen BK439.out 5))
  go_ret
  exact ⟨by first | rfl | (simp [errW_none, errW_some] <;> rfl) | (simp [*, errW_none, errW_some] <;> rfl), by repeat (first | (with_reducible first | exact HB.out | apply below_alloc | apply pw_below_drewN | apply below_drew1 | refine below_set ?_ GE439.out) | exact HB.out)⟩

/-- THE ONE PURE STATEMENT of sawtoothtop_TopReal: yours. -/
def sawtoothtop_TopReal.Pure : Prop := ∀ (a0 : Int) (a1 : Int) (a2 : Int) (a3 : Int) (a4 : Int) (a5 : Int) (a6 : Int), (Lit.int .i64 a0).wf = true → (Lit.int .i64 a1).wf = true → (Lit.int .i64 a2).wf = true → (Lit.int .i64 a3).wf = true → (Lit.int .u32 a4).wf = true → (Lit.int .i64 a5).wf = true → (Lit.int .u32 a6).wf = true → ∃ k, sawtoothtop_TopReal.f k a0 a1 a2 a3 a4 a5 a6 = some true
end Go.Proofs.YtfahbgkoldoflaaGreatDoor.Px
