/- Printed by px.py, over the kit's print. Conditions: none beside the theorems' own. -/
import Derived.Test.YtceiakiihkaamaaDoorPx0
import Derived.Test.YtceiakiihkaamaaDoorPx32
import Derived.Test.YtceiakiihkaamaaDoorPx34
import Derived.Test.YtceiakiihkaamaaDoorPx35
import Derived.Test.YtceiakiihkaamaaDoorPx37
import Derived.Test.YtceiakiihkaamaaDoorSpec
namespace Go.Proofs.YtceiakiihkaamaaDoor.Px
open Go.RowKit Go.Proofs.YtceiakiihkaamaaDoorW.PrintWords Go.Proofs.YtceiakiihkaamaaDoorW.PrintLast Go.Proofs.YtceiakiihkaamaaDoorW.PrintMore
attribute [local go_sem] max2_int min2_int max_two min_two max_three min_three max_four min_four
set_option linter.unusedVariables false
set_option linter.unusedSimpArgs false

/-! ### sawtoothref02_Int: function 76 -/
noncomputable def sawtoothref02_Int.j0 : Nat → Bool → Bool → Int → Int → Option (Int)
 | 0, _, _, _, _ => none
 | k + 1, x10, x492000, x492001, x492002 => if x10 = true then ((sawtoothref02_belowS.f x492000 x492001 x492002).bind fun t492 => (if t492 = true then (some (-9223372036854775808)) else (some 9223372036854775807))) else ((sawtoothref02_belowS.f x492000 x492001 x492002).bind fun t493 => (if t493 = true then (some (wrap64 (-(wrap64 (x492002))))) else (some (wrap64 (x492002)))))
noncomputable def sawtoothref02_Int.f (k : Nat) (a0_0 : Bool) (a0_1 : Int) (a0_2 : Int) : Option (Int) := if a0_1 > 0 then (sawtoothref02_Int.j0 k true a0_0 a0_1 a0_2) else (sawtoothref02_Int.j0 k (decide (a0_2 ≥ 9223372036854775808)) a0_0 a0_1 a0_2)
theorem sawtoothref02_Int.mono_l : ∀ k, (∀ y0 y1 y2 y3, LeO (sawtoothref02_Int.j0 k y0 y1 y2 y3) (sawtoothref02_Int.j0 (k + 1) y0 y1 y2 y3))
 | 0 => fun _ _ _ _ r h => by simp [sawtoothref02_Int.j0] at h
 | k + 1 => by
  have ih0 := sawtoothref02_Int.mono_l k
  ·intro y0 y1 y2 y3
   unfold sawtoothref02_Int.j0
   repeat' first
   | (with_reducible exact ih0 _ _ _ _)
   | (with_reducible exact LeO.refl _)
   | (with_reducible exact LeO.none _)
   | (with_reducible refine LeO.ite ?_ ?_)
   | (with_reducible refine LeO.bind ?_ (fun _ => ?_))
   | exact ih0 _ _ _ _
   | exact LeO.none _
   | refine LeO.ite ?_ ?_
   | refine LeO.bind ?_ (fun _ => ?_)
theorem sawtoothref02_Int.mono : ∀ a0 a1 a2 k, LeO (sawtoothref02_Int.f k a0 a1 a2) (sawtoothref02_Int.f (k + 1) a0 a1 a2) := by
 intro a0 a1 a2 k; have ih0 := sawtoothref02_Int.mono_l k
 unfold sawtoothref02_Int.f
 repeat' first
   | (with_reducible exact ih0 _ _ _ _)
   | (with_reducible exact LeO.refl _)
   | (with_reducible exact LeO.none _)
   | (with_reducible refine LeO.ite ?_ ?_)
   | (with_reducible refine LeO.bind ?_ (fun _ => ?_))
   | exact ih0 _ _ _ _
   | exact LeO.none _
   | refine LeO.ite ?_ ?_
   | refine LeO.bind ?_ (fun _ => ?_)
set_option maxHeartbeats 8000000 in
set_option maxRecDepth 100000 in
theorem sawtoothref02_Int.calls (k : Nat) (a0_0 : Bool) (a0_1 : Int) (a0_2 : Int) (r : Int) (w : World) (h : sawtoothref02_Int.f k a0_0 a0_1 a0_2 = some r) :
  Calls Tryd.prog 76 #[.agg #[.bool a0_0, .int .u64 a0_1, .int .u64 a0_2]] w fun e w' => e = .returned (.int .i64 r) ∧ Below w.heap.size w w' := by
 have hu35 := Tryd.underlying35; have HB := Aside0.mk (Below.refl w.heap.size w); have H : (if a0_1 > 0 then (sawtoothref02_Int.j0 k true a0_0 a0_1 a0_2) else (sawtoothref02_Int.j0 k (decide (a0_2 ≥ 9223372036854775808)) a0_0 a0_1 a0_2)) = some r := h; clear h; have HC2 := Aside0.mk H; clear H
 go_enter Tryd.func76, Tryd.ntmps76
 go_upto_region 1 with (first | ((with_reducible refine gate_dst (N := 1) rfl ?_); refine box_event ?hg (N := 1) ?hd (cs := #[.bool a0_0, .int .u64 a0_1, .int .u64 a0_2]) (t := 35) ?hr ?_; (case hd => rfl); (case hg => rfl); (case hr => first | (go_simp; done) | (go_simp; rfl)); intro gb491 hg w3 hbox hb; have BK491 := Aside0.mk (hbox); obtain ⟨GW491, nHB⟩ := geA hg hb; have GE491 := GW491; replace HB := nHB; clear nHB; clear hb hbox hg))
 (try simp only [Act.put, sA, sB, sC])
 go_cut [10] (fun v10 wc => ∃ (kq : Nat) (x10_1 : Bool), v10 = .bool x10_1 ∧ Aside0 (sawtoothref02_Int.j0 kq x10_1 a0_0 a0_1 a0_2 = some r) ∧ Aside0 (kq ≤ k) ∧ Aside0 (wc.heap[gb491]? = some (.cells #[.bool a0_0, .int .u64 a0_1, .int .u64 a0_2] 35 (0, 0))) ∧ Aside0 (Below w.heap.size w wc))
 case first =>
  have H := HC2.out; clear HC2
  by_cases c4 : a0_1 > 0
  ·rw [if_pos c4] at H
   have c4b0 : decide (0 < a0_1) = true := decide_eq_true c4; clear c4
   (first | rw [c4b0] | (simp only [i64_w, i32_w]; rw [c4b0]) | skip)
   have H' := Aside0.mk H; clear H; have hcz5_0 := czZ BK491 0 (.bool a0_0); have hcz5_1 := czZ BK491 1 (.int .u64 a0_1); have hcz5_2 := czZ BK491 2 (.int .u64 a0_2); have hfz5_0 := blk_frozen BK491.out 0; have hfz5_1 := blk_frozen BK491.out 1; have hfz5_2 := blk_frozen BK491.out 2
   go_wp2
   go_meet
   case rel => exact ⟨_, (true), (by first | rfl | (simp; done) | (simp [*]; done)), H', ⟨by first | omega | exact Nat.le_refl _⟩, ⟨by (with_reducible repeat first | apply blk_drewN | apply blk_drew | apply blk_alloc); exact BK491.out⟩, ⟨by repeat (first | (with_reducible first | exact HB.out | apply below_alloc | apply pw_below_drewN | apply below_drew1 | refine below_set ?_ GE491.out) | exact HB.out)⟩⟩
  ·rw [if_neg c4] at H
   have c4b0 : decide (0 < a0_1) = false := decide_eq_false c4; clear c4
   (first | rw [c4b0] | (simp only [i64_w, i32_w]; rw [c4b0]) | skip)
   have H' := Aside0.mk H; clear H; have hcz6_0 := czZ BK491 0 (.bool a0_0); have hcz6_1 := czZ BK491 1 (.int .u64 a0_1); have hcz6_2 := czZ BK491 2 (.int .u64 a0_2); have hfz6_0 := blk_frozen BK491.out 0; have hfz6_1 := blk_frozen BK491.out 1; have hfz6_2 := blk_frozen BK491.out 2
   go_wp2
   go_meet
   case rel => exact ⟨_, (decide (a0_2 ≥ 9223372036854775808)), (by first | rfl | (simp; done) | (simp [*]; done)), H', ⟨by first | omega | exact Nat.le_refl _⟩, ⟨by (with_reducible repeat first | apply blk_drewN | apply blk_drew | apply blk_alloc); exact BK491.out⟩, ⟨by repeat (first | (with_reducible first | exact HB.out | apply below_alloc | apply pw_below_drewN | apply below_drew1 | refine below_set ?_ GE491.out) | exact HB.out)⟩⟩
 case rest =>
  clear HC2
  try clear p2
  try clear c4
  try clear c4b0
  try clear hcz5_0
  try clear hcz5_1
  try clear hcz5_2
  try clear hcz6_0
  try clear hcz6_1
  try clear hcz6_2
  try clear hfz5_0
  try clear hfz5_1
  try clear hfz5_2
  try clear hfz6_0
  try clear hfz6_1
  try clear hfz6_2
  obtain ⟨kq, x10_1, rfl, HA, HJ1, BK491, HB⟩ := hcut
  cases kq with
  | zero => exact absurd HA.out (by simp [sawtoothref02_Int.j0])
  | succ kj1 =>
   have H := HA.out; clear HA; simp only [sawtoothref02_Int.j0] at H
   by_cases c7 : x10_1 = true
   ·subst c7
    have H1 : ((sawtoothref02_belowS.f a0_0 a0_1 a0_2).bind fun t492 => (if t492 = true then (some (-9223372036854775808)) else (some 9223372036854775807))) = some r := by rw [if_pos rfl] at H; exact H
    clear H; have H := H1; clear H1; replace H := Option.bind_eq_some_iff.mp H; obtain ⟨t492, A80, H⟩ := H; replace H : (if t492 = true then (some (-9223372036854775808)) else (some 9223372036854775807)) = some r := H; have A8 := Aside0.mk A80; clear A80
    by_cases c9 : t492 = true
    ·subst c9
     have H1 : (some (-9223372036854775808)) = some r := by rw [if_pos rfl] at H; exact H
     clear H; have H := H1; clear H1; obtain rfl := Option.some.inj H; have hcz10_0 : wc.cell? ⟨gb491, 0, none⟩ = some (.bool a0_0) := (blk_cell BK491.out 0).trans rfl; have hcz10_1 : wc.cell? ⟨gb491, 1, none⟩ = some (.int .u64 a0_1) := (blk_cell BK491.out 1).trans rfl; have hcz10_2 : wc.cell? ⟨gb491, 2, none⟩ = some (.int .u64 a0_2) := (blk_cell BK491.out 2).trans rfl; have hfz10_0 := blk_frozen BK491.out 0; have hfz10_1 := blk_frozen BK491.out 1; have hfz10_2 := blk_frozen BK491.out 2
     go_wp2_with (first | ((with_reducible refine gate_callee (f := 69) rfl ?_); refine goesLA_ (some 12) rfl rfl Tryd.func69 rfl #[.agg #[.bool a0_0, .int .u64 a0_1, .int .u64 a0_2]] rfl ?_; (with_reducible refine (sawtoothref02_belowS.calls a0_0 a0_1 a0_2 true _ A8.out).mono ?_); rintro e w11 ⟨rfl, hb⟩; refine ⟨_, rfl, ?_⟩; replace BK491 := bdZ BK491 hb; replace HB := stA hb; clear hb))
     go_ret
     exact ⟨by first | rfl | (simp [errW_none, errW_some] <;> rfl) | (simp [*, errW_none, errW_some] <;> rfl), by repeat (first | (with_reducible first | exact HB.out | apply below_alloc | apply pw_below_drewN | apply below_drew1 | refine below_set ?_ GE491.out) | exact HB.out)⟩
    ·replace c9 := Bool.eq_false_iff.mpr c9
     subst c9
     have H1 : (some 9223372036854775807) = some r := by rw [if_neg (show ¬ (false = true) by decide)] at H; exact H
     clear H; have H := H1; clear H1; obtain rfl := Option.some.inj H; have hcz12_0 : wc.cell? ⟨gb491, 0, none⟩ = some (.bool a0_0) := (blk_cell BK491.out 0).trans rfl; have hcz12_1 : wc.cell? ⟨gb491, 1, none⟩ = some (.int .u64 a0_1) := (blk_cell BK491.out 1).trans rfl; have hcz12_2 : wc.cell? ⟨gb491, 2, none⟩ = some (.int .u64 a0_2) := (blk_cell BK491.out 2).trans rfl; have hfz12_0 := blk_frozen BK491.out 0; have hfz12_1 := blk_frozen BK491.out 1; have hfz12_2 := blk_frozen BK491.out 2
     go_wp2_with (first | ((with_reducible refine gate_callee (f := 69) rfl ?_); refine goesLA_ (some 12) rfl rfl Tryd.func69 rfl #[.agg #[.bool a0_0, .int .u64 a0_1, .int .u64 a0_2]] rfl ?_; (with_reducible refine (sawtoothref02_belowS.calls a0_0 a0_1 a0_2 false _ A8.out).mono ?_); rintro e w13 ⟨rfl, hb⟩; refine ⟨_, rfl, ?_⟩; replace BK491 := bdZ BK491 hb; replace HB := stA hb; clear hb))
     go_ret
     exact ⟨by first | rfl | (simp [errW_none, errW_some] <;> rfl) | (simp [*, errW_none, errW_some] <;> rfl), by repeat (first | (with_reducible first | exact HB.out | apply below_alloc | apply pw_below_drewN | apply below_drew1 | refine below_set ?_ GE491.out) | exact HB.out)⟩
   ·replace c7 := Bool.eq_false_iff.mpr c7
    subst c7
    have H1 : ((sawtoothref02_belowS.f a0_0 a0_1 a0_2).bind fun t493 => (if t493 = true then (some (wrap64 (-(wrap64 (a0_2))))) else (some (wrap64 (a0_2))))) = some r := by rw [if_neg (show ¬ (false = true) by decide)] at H; exact H
    clear H; have H := H1; clear H1; replace H := Option.bind_eq_some_iff.mp H; obtain ⟨t493, A140, H⟩ := H; replace H : (if t493 = true then (some (wrap64 (-(wrap64 (a0_2))))) else (some (wrap64 (a0_2)))) = some r := H; have A14 := Aside0.mk A140; clear A140
    by_cases c15 : t493 = true
    ·subst c15
     have H1 : (some (wrap64 (-(wrap64 (a0_2))))) = some r := by rw [if_pos rfl] at H; exact H
     clear H; have H := H1; clear H1; obtain rfl := Option.some.inj H; have hcz16_0 : wc.cell? ⟨gb491, 0, none⟩ = some (.bool a0_0) := (blk_cell BK491.out 0).trans rfl; have hcz16_1 : wc.cell? ⟨gb491, 1, none⟩ = some (.int .u64 a0_1) := (blk_cell BK491.out 1).trans rfl; have hcz16_2 : wc.cell? ⟨gb491, 2, none⟩ = some (.int .u64 a0_2) := (blk_cell BK491.out 2).trans rfl; have hfz16_0 := blk_frozen BK491.out 0; have hfz16_1 := blk_frozen BK491.out 1; have hfz16_2 := blk_frozen BK491.out 2
     go_wp2_with (first | ((with_reducible refine gate_callee (f := 69) rfl ?_); refine goesLA_ (some 14) rfl rfl Tryd.func69 rfl #[.agg #[.bool a0_0, .int .u64 a0_1, .int .u64 a0_2]] rfl ?_; (with_reducible refine (sawtoothref02_belowS.calls a0_0 a0_1 a0_2 true _ A14.out).mono ?_); rintro e w17 ⟨rfl, hb⟩; refine ⟨_, rfl, ?_⟩; replace BK491 := bdZ BK491 hb; replace HB := stA hb; clear hb; have hcz18_0 := czZ BK491 0 (.bool a0_0); have hcz18_1 := czZ BK491 1 (.int .u64 a0_1); have hcz18_2 := czZ BK491 2 (.int .u64 a0_2); have hfz18_0 := blk_frozen BK491.out 0; have hfz18_1 := blk_frozen BK491.out 1; have hfz18_2 := blk_frozen BK491.out 2))
     go_ret
     exact ⟨by first | rfl | (simp [errW_none, errW_some] <;> rfl) | (simp [*, errW_none, errW_some] <;> rfl), by repeat (first | (with_reducible first | exact HB.out | apply below_alloc | apply pw_below_drewN | apply below_drew1 | refine below_set ?_ GE491.out) | exact HB.out)⟩
    ·replace c15 := Bool.eq_false_iff.mpr c15
     subst c15
     have H1 : (some (wrap64 (a0_2))) = some r := by rw [if_neg (show ¬ (false = true) by decide)] at H; exact H
     clear H; have H := H1; clear H1; obtain rfl := Option.some.inj H; have hcz19_0 : wc.cell? ⟨gb491, 0, none⟩ = some (.bool a0_0) := (blk_cell BK491.out 0).trans rfl; have hcz19_1 : wc.cell? ⟨gb491, 1, none⟩ = some (.int .u64 a0_1) := (blk_cell BK491.out 1).trans rfl; have hcz19_2 : wc.cell? ⟨gb491, 2, none⟩ = some (.int .u64 a0_2) := (blk_cell BK491.out 2).trans rfl; have hfz19_0 := blk_frozen BK491.out 0; have hfz19_1 := blk_frozen BK491.out 1; have hfz19_2 := blk_frozen BK491.out 2
     go_wp2_with (first | ((with_reducible refine gate_callee (f := 69) rfl ?_); refine goesLA_ (some 14) rfl rfl Tryd.func69 rfl #[.agg #[.bool a0_0, .int .u64 a0_1, .int .u64 a0_2]] rfl ?_; (with_reducible refine (sawtoothref02_belowS.calls a0_0 a0_1 a0_2 false _ A14.out).mono ?_); rintro e w20 ⟨rfl, hb⟩; refine ⟨_, rfl, ?_⟩; replace BK491 := bdZ BK491 hb; replace HB := stA hb; clear hb; have hcz21_0 := czZ BK491 0 (.bool a0_0); have hcz21_1 := czZ BK491 1 (.int .u64 a0_1); have hcz21_2 := czZ BK491 2 (.int .u64 a0_2); have hfz21_0 := blk_frozen BK491.out 0; have hfz21_1 := blk_frozen BK491.out 1; have hfz21_2 := blk_frozen BK491.out 2))
     go_ret
     exact ⟨by first | rfl | (simp [errW_none, errW_some] <;> rfl) | (simp [*, errW_none, errW_some] <;> rfl), by repeat (first | (with_reducible first | exact HB.out | apply below_alloc | apply pw_below_drewN | apply below_drew1 | refine below_set ?_ GE491.out) | exact HB.out)⟩

/-! ### sawtoothref02_IntS: the nearest int: pure, behind function 76 -/
noncomputable def sawtoothref02_IntS.f (n : Bool) (h l : Int) : Option Int := Sp.intF n h l
section Ref02Int
open Go.Proofs.YtceiakiihkaamaaDoor.Sp
theorem sawtoothref02_Int.main {n : Bool} {h l : Int} (h1 : U h) (h2 : U l) : sawtoothref02_Int.f 1 n h l = some (near (val n h l)) := by
 unfold sawtoothref02_Int.f
 have e : (if h > 0 then sawtoothref02_Int.j0 1 true n h l else sawtoothref02_Int.j0 1 (decide (l ≥ 9223372036854775808)) n h l) = sawtoothref02_Int.j0 1 (decide (h > 0 ∨ l ≥ 9223372036854775808)) n h l := by
  by_cases hh : h > 0
  ·rw [if_pos hh, decide_eq_true (Or.inl hh)]
  ·rw [if_neg hh]; congr 1; rw [decide_eq_decide]; omega
 rw [e]
 simp only [sawtoothref02_Int.j0, sawtoothref02_belowS.eq h1 h2, Option.bind_some]; have hw : wrap64 l = wrap64 l := rfl
 by_cases hb : h > 0 ∨ l ≥ 9223372036854775808
 ·rw [decide_eq_true hb, if_pos rfl]
  by_cases hn : val n h l < 0
  ·rw [decide_eq_true hn, if_pos rfl]
   unfold near val at *
   cases n <;> simp at hn ⊢ <;> omega
  ·rw [decide_eq_false hn, if_neg (by simp)]
   unfold near val at *
   cases n <;> simp at hn ⊢ <;> omega
 ·rw [decide_eq_false hb, if_neg (by simp), w64 (x := l) (by omega), w64 (x := -l) (by omega)]
  have hh : h = 0 := by omega
  subst hh
  by_cases hn : val n 0 l < 0
  ·rw [decide_eq_true hn, if_pos rfl, near_in]
   ·unfold val at *; cases n <;> simp at hn ⊢; omega
   ·unfold val; cases n <;> simp <;> omega
  ·rw [decide_eq_false hn, if_neg (by simp), near_in]
   ·unfold val at *; cases n <;> simp at hn ⊢; omega
   ·unfold val; cases n <;> simp <;> omega
end Ref02Int
theorem sawtoothref02_IntS.calls (a0_0 : Bool) (a0_1 a0_2 r : Int) (w : World) (h : sawtoothref02_IntS.f a0_0 a0_1 a0_2 = some r) :
  Calls Tryd.prog 76 #[.agg #[.bool a0_0, .int .u64 a0_1, .int .u64 a0_2]] w fun e w' => e = .returned (.int .i64 r) ∧ Below w.heap.size w w' := by
 obtain ⟨hc, h⟩ := Sp.need_some h; exact sawtoothref02_Int.calls 1 a0_0 a0_1 a0_2 r w (by rw [sawtoothref02_Int.main hc.1 hc.2]; exact h)

/-! ### sawtoothref04_part: function 55 -/
noncomputable def sawtoothref04_part.f (a0 : Int) (a1 : Int) (a2 : Int) (a3 : Int) : Option (Int × Int) := if a2 < 1 then (some (0, 20)) else ((sawtoothref02_MulS.f a0 a1).bind fun bt494 => ((sawtoothref02_OfS.f a3).bind fun bt497 => ((sawtoothref02_AddS.f bt494.1 bt494.2.1 bt494.2.2 bt497.1 bt497.2.1 bt497.2.2).bind fun bt500 => ((sawtoothref02_DivS.f bt500.1 bt500.2.1 bt500.2.2.1 (IntKind.u64.wrap (a2))).bind fun bt505 => ((sawtoothref02_IntS.f bt505.1 bt505.2.1 bt505.2.2.1).bind fun t511 => ((sawtoothref02_OfS.f t511).bind fun bt512 => ((sawtoothref02_CmpS.f bt505.1 bt505.2.1 bt505.2.2.1 bt512.1 bt512.2.1 bt512.2.2).bind fun t515 => (if t515 = 0 then (some (t511, 0)) else (some (0, 10))))))))))
set_option maxHeartbeats 8000000 in
set_option maxRecDepth 100000 in
theorem sawtoothref04_part.calls (a0 : Int) (a1 : Int) (a2 : Int) (a3 : Int) (r1 : Int) (r2 : Int) (w : World) (h : sawtoothref04_part.f a0 a1 a2 a3 = some (r1, r2)) :
  Calls Tryd.prog 55 #[.int .i64 a0, .int .i64 a1, .int .i64 a2, .int .i64 a3] w fun e w' => e = .returned (.tuple #[.int .i64 r1, .int .i64 r2]) ∧ Below w.heap.size w w' := by
 have hu35 := Tryd.underlying35; have HB := Aside0.mk (Below.refl w.heap.size w); have H : (if a2 < 1 then (some (0, 20)) else ((sawtoothref02_MulS.f a0 a1).bind fun bt494 => ((sawtoothref02_OfS.f a3).bind fun bt497 => ((sawtoothref02_AddS.f bt494.1 bt494.2.1 bt494.2.2 bt497.1 bt497.2.1 bt497.2.2).bind fun bt500 => ((sawtoothref02_DivS.f bt500.1 bt500.2.1 bt500.2.2.1 (IntKind.u64.wrap (a2))).bind fun bt505 => ((sawtoothref02_IntS.f bt505.1 bt505.2.1 bt505.2.2.1).bind fun t511 => ((sawtoothref02_OfS.f t511).bind fun bt512 => ((sawtoothref02_CmpS.f bt505.1 bt505.2.1 bt505.2.2.1 bt512.1 bt512.2.1 bt512.2.2).bind fun t515 => (if t515 = 0 then (some (t511, 0)) else (some (0, 10))))))))))) = some (r1, r2) := h; clear h
 by_cases c5 : a2 < 1
 ·rw [if_pos c5] at H
  have c5b0 : decide (a2 < 1) = true := decide_eq_true c5; clear c5; simp only [Option.some.injEq, Prod.mk.injEq] at H; obtain ⟨rfl, rfl⟩ := H
  go_enter Tryd.func55, Tryd.ntmps55
  go_wp2
  go_ret2
  exact ⟨by first | rfl | (simp [errW_none, errW_some] <;> rfl) | (simp [*, errW_none, errW_some] <;> rfl), by repeat (first | (with_reducible first | exact HB.out | apply below_alloc | apply pw_below_drewN | apply below_drew1) | exact HB.out)⟩
 ·rw [if_neg c5] at H
  have c5b0 : decide (a2 < 1) = false := decide_eq_false c5; clear c5; replace H := Option.bind_eq_some_iff.mp H; obtain ⟨⟨t494, t495, t496⟩, A60, H⟩ := H; (try dsimp only at H); have A6 := Aside0.mk A60; clear A60; replace H := Option.bind_eq_some_iff.mp H; obtain ⟨⟨t497, t498, t499⟩, A70, H⟩ := H; (try dsimp only at H); have A7 := Aside0.mk A70; clear A70; replace H := Option.bind_eq_some_iff.mp H; obtain ⟨⟨t500, t501, t502, t503⟩, A80, H⟩ := H; (try dsimp only at H); have A8 := Aside0.mk A80; clear A80; replace H := Option.bind_eq_some_iff.mp H; obtain ⟨⟨t505, t506, t507, t508, t509⟩, A90, H⟩ := H; (try dsimp only at H); have A9 := Aside0.mk A90; clear A90; replace H := Option.bind_eq_some_iff.mp H; obtain ⟨t511, A100, H⟩ := H; (try dsimp only at H); have A10 := Aside0.mk A100; clear A100; replace H := Option.bind_eq_some_iff.mp H; obtain ⟨⟨t512, t513, t514⟩, A110, H⟩ := H; replace H : ((sawtoothref02_CmpS.f t505 t506 t507 t512 t513 t514).bind fun t515 => (if t515 = 0 then (some (t511, 0)) else (some (0, 10)))) = some (r1, r2) := H; have A11 := Aside0.mk A110; clear A110; replace H := Option.bind_eq_some_iff.mp H; obtain ⟨t515, A120, H⟩ := H; replace H : (if t515 = 0 then (some (t511, 0)) else (some (0, 10))) = some (r1, r2) := H; have A12 := Aside0.mk A120; clear A120
  go_enter Tryd.func55, Tryd.ntmps55
  try go_wp2_with (first | ((with_reducible refine gate_callee (f := 74) rfl ?_); refine goesLA_ (some 21) rfl rfl Tryd.func74 rfl #[.int .i64 a0, .int .i64 a1] rfl ?_; (with_reducible refine (sawtoothref02_MulS.calls a0 a1 t494 t495 t496 _ A6.out).mono ?_); rintro e w14 ⟨rfl, hb⟩; refine ⟨_, rfl, ?_⟩; replace HB := stA hb; clear hb) | ((with_reducible refine gate_callee (f := 51) rfl ?_); refine goesLA_ (some 23) rfl rfl Tryd.func51 rfl #[.int .i64 a3] rfl ?_; (with_reducible refine (sawtoothref02_OfS.calls a3 t497 t498 t499 _ A7.out).mono ?_); rintro e w15 ⟨rfl, hb⟩; refine ⟨_, rfl, ?_⟩; replace HB := stA hb; clear hb) | ((with_reducible refine gate_callee (f := 73) rfl ?_); refine goesLA_ (some 24) rfl rfl Tryd.func73 rfl #[.agg #[.bool t494, .int .u64 t495, .int .u64 t496], .agg #[.bool t497, .int .u64 t498, .int .u64 t499]] rfl ?_; (with_reducible refine (sawtoothref02_AddS.calls t494 t495 t496 t497 t498 t499 t500 t501 t502 t503 _ A8.out).mono ?_); rintro e w16 ⟨rfl, hb⟩; refine ⟨_, rfl, ?_⟩; replace HB := stA hb; clear hb) | ((with_reducible refine gate_dst (N := 10) rfl ?_); refine box_event ?hg (N := 10) ?hd (cs := #[.bool false, .int .u64 0, .int .u64 0]) (t := 35) ?hr ?_; (case hd => rfl); (case hg => rfl); (case hr => first | (go_simp; done) | (go_simp; rfl)); intro gb504 hg w17 hbox hb; have BK504 := Aside0.mk (hbox); obtain ⟨GW504, nHB⟩ := geA hg hb; have GE504 := GW504; replace HB := nHB; clear nHB; clear hb hbox hg; have hcz18_0 := czZ BK504 0 (.bool false); have hcz18_1 := czZ BK504 1 (.int .u64 0); have hcz18_2 := czZ BK504 2 (.int .u64 0); have hfz18_0 := blk_frozen BK504.out 0; have hfz18_1 := blk_frozen BK504.out 1; have hfz18_2 := blk_frozen BK504.out 2) | ((with_reducible refine gate_callee (f := 75) rfl ?_); refine goesLA_ (some 31) rfl rfl Tryd.func75 rfl #[.agg #[.bool t500, .int .u64 t501, .int .u64 t502], .int .u64 (IntKind.u64.wrap (a2))] rfl ?_; (with_reducible refine (sawtoothref02_DivS.calls t500 t501 t502 (IntKind.u64.wrap (a2)) t505 t506 t507 t508 t509 _ A9.out).mono ?_); rintro e w19 ⟨rfl, hb⟩; refine ⟨_, rfl, ?_⟩; replace BK504 := Aside0.mk (blk_below (g := gb504) (o := .cells #[.bool t500, .int .u64 t501, .int .u64 t502] 35 (0, 0)) (by (with_reducible repeat first | apply blk_drewN | apply blk_drew | apply blk_alloc); refine blk_put (cs := #[.bool t500, .int .u64 t501, .int .u64 0]) ?_ 2 _ rfl; (with_reducible repeat first | apply blk_drewN | apply blk_drew | apply blk_alloc); refine blk_put (cs := #[.bool t500, .int .u64 0, .int .u64 0]) ?_ 1 _ rfl; (with_reducible repeat first | apply blk_drewN | apply blk_drew | apply blk_alloc); refine blk_put (cs := #[.bool false, .int .u64 0, .int .u64 0]) ?_ 0 _ rfl; (with_reducible repeat first | apply blk_drewN | apply blk_drew | apply blk_alloc); exact BK504.out) hb); replace HB := stA hb; clear hb) | ((with_reducible refine gate_dst (N := 12) rfl ?_); refine box_event ?hg (N := 12) ?hd (cs := #[.bool false, .int .u64 0, .int .u64 0]) (t := 35) ?hr ?_; (case hd => rfl); (case hg => rfl); (case hr => first | (go_simp; done) | (go_simp; rfl)); intro gb510 hg w20 hbox hb; have BK510 := Aside0.mk (hbox); obtain ⟨GW510, nHB⟩ := geA hg hb; have GE510 := GW510; obtain ⟨NB504_510, NB510_504, nBK⟩ := nbA BK504 hg hb; replace BK504 := nBK; clear nBK; replace HB := nHB; clear nHB; clear hb hbox hg; have hnb21 := NB510_504.out; have hnc21 := NB504_510.out; have hcz22_0 := czZ BK510 0 (.bool false); have hcz22_1 := czZ BK510 1 (.int .u64 0); have hcz22_2 := czZ BK510 2 (.int .u64 0); have hfz22_0 := blk_frozen BK510.out 0; have hfz22_1 := blk_frozen BK510.out 1; have hfz22_2 := blk_frozen BK510.out 2) | ((with_reducible refine gate_callee (f := 76) rfl ?_); refine goesLA_ (some 36) rfl rfl Tryd.func76 rfl #[.agg #[.bool t505, .int .u64 t506, .int .u64 t507]] rfl ?_; (with_reducible refine (sawtoothref02_IntS.calls t505 t506 t507 t511 _ A10.out).mono ?_); rintro e w23 ⟨rfl, hb⟩; refine ⟨_, rfl, ?_⟩; replace BK504 := bfZ BK504 (fun h_ => by (with_reducible repeat first | apply blk_drewN | apply blk_drew | apply blk_alloc | refine farZ ?_ NB504_510 _); exact h_) hb; replace BK510 := Aside0.mk (blk_below (g := gb510) (o := .cells #[.bool t505, .int .u64 t506, .int .u64 t507] 35 (0, 0)) (by (with_reducible repeat first | apply blk_drewN | apply blk_drew | apply blk_alloc); refine blk_put (cs := #[.bool t505, .int .u64 t506, .int .u64 0]) ?_ 2 _ rfl; (with_reducible repeat first | apply blk_drewN | apply blk_drew | apply blk_alloc); refine blk_put (cs := #[.bool t505, .int .u64 0, .int .u64 0]) ?_ 1 _ rfl; (with_reducible repeat first | apply blk_drewN | apply blk_drew | apply blk_alloc); refine blk_put (cs := #[.bool false, .int .u64 0, .int .u64 0]) ?_ 0 _ rfl; (with_reducible repeat first | apply blk_drewN | apply blk_drew | apply blk_alloc); exact BK510.out) hb); replace HB := stA hb; clear hb))
  replace BK504 := Aside0.mk (blk_drew BK504.out); replace BK510 := Aside0.mk (blk_drew BK510.out); replace HB := Aside0.mk (below_drew1 HB.out); refine start_ (n := 5) (S := fun w' => w'.cell? ⟨gb510, 0, none⟩ = some (.bool t505) ∧ w'.cell? ⟨gb510, 1, none⟩ = some (.int .u64 t506) ∧ w'.cell? ⟨gb510, 2, none⟩ = some (.int .u64 t507)) (ds := []) #[N,N,N,N,N] (by kernel_rfl) rfl rfl ⟨(blk_cell BK510.out 0).trans rfl, (blk_cell BK510.out 1).trans rfl, (blk_cell BK510.out 2).trans rfl⟩ (fun hHeld => ?_)
  generalize w23.drew = w24 at BK504 BK510 HB hHeld ⊢
  refine pureA_ (i := 1) (N := some 38) #[N,Y,N,N,N] rfl rfl (by kernel_rfl) ?_
  refine take_ (i := 0) (N := some 37) (v := ?_) (a' := ?_) #[Y,Y,N,N,N] rfl rfl (by kernel_rfl) (fun _ _ _ h => h) (Or.inl ⟨by rfl, ?_⟩) hHeld ?_ ?_; rotate_left
  ·rintro w' ⟨s0, s1, s2⟩; go_simp
   with_reducible rfl
  rotate_left
  ·simp only [Act.put, sA, sB, sC, i64_w, i32_w]
   rfl
  refine one_ (i := 2) (N := some 39) #[Y,Y,Y,N,N] rfl rfl (by kernel_rfl) (by decide) (fun K hK => ?_); refine goesA_ Tryd.func51 rfl #[.int .i64 t511] (by rfl) rfl rfl ?_
  with_reducible refine (sawtoothref02_OfS.calls t511 t512 t513 t514 _ A11.out).mono ?_
  rintro e w25 ⟨rfl, hb⟩; refine ⟨_, rfl, ?_⟩; replace BK504 := bbZ BK504 hb; replace BK510 := bbZ BK510 hb; replace HB := Aside0.mk (below_step HB.out hb); clear hb; refine hK.out _ _ ⟨(blk_cell BK510.out 0).trans rfl, (blk_cell BK510.out 1).trans rfl, (blk_cell BK510.out 2).trans rfl⟩ (fun hHeld => ?_); clear hK K; refine normA_ (some 39) ?_
  refine one_ (i := 3) (N := some 40) #[Y,Y,Y,Y,N] rfl rfl (by kernel_rfl) (by decide) (fun K hK => ?_); refine goesA_ Tryd.func52 rfl #[.agg #[.bool t505, .int .u64 t506, .int .u64 t507], .agg #[.bool t512, .int .u64 t513, .int .u64 t514]] (by rfl) rfl rfl ?_
  with_reducible refine (sawtoothref02_CmpS.calls t505 t506 t507 t512 t513 t514 t515 _ A12.out).mono ?_
  rintro e w26 ⟨rfl, hb⟩; refine ⟨_, rfl, ?_⟩; replace BK504 := bbZ BK504 hb; replace BK510 := bbZ BK510 hb; replace HB := Aside0.mk (below_step HB.out hb); clear hb; refine hK.out _ _ ⟨(blk_cell BK510.out 0).trans rfl, (blk_cell BK510.out 1).trans rfl, (blk_cell BK510.out 2).trans rfl⟩ (fun hHeld => ?_); clear hK K; refine normA_ (some 40) ?_
  refine pureA_ (i := 4) (N := some 41) #[Y,Y,Y,Y,Y] rfl rfl (by kernel_rfl) ?_
  refine done_ (by kernel_rfl) ?_
  by_cases c13 : t515 = 0
  ·rw [if_pos c13] at H
   have c13b0 : (t515 == 0) = true := beq_iff_eq.mpr c13; have c13b1 : (t515 != 0) = false := bne_eq_false_iff_eq.mpr c13; clear c13; simp only [Option.some.injEq, Prod.mk.injEq] at H; obtain ⟨rfl, rfl⟩ := H
   try go_wp2
   go_ret2
   exact ⟨by first | rfl | (simp [errW_none, errW_some] <;> rfl) | (simp [*, errW_none, errW_some] <;> rfl), by repeat (first | (with_reducible first | exact HB.out | apply below_alloc | apply pw_below_drewN | apply below_drew1 | refine below_set ?_ (Aside0.out (by assumption))) | exact HB.out)⟩
  ·rw [if_neg c13] at H
   have c13b0 : (t515 == 0) = false := beq_eq_false_iff_ne.mpr c13; have c13b1 : (t515 != 0) = true := bne_iff_ne.mpr c13; simp only [Option.some.injEq, Prod.mk.injEq] at H; obtain ⟨rfl, rfl⟩ := H
   try go_wp2
   go_ret2
   exact ⟨by first | rfl | (simp [errW_none, errW_some] <;> rfl) | (simp [*, errW_none, errW_some] <;> rfl), by repeat (first | (with_reducible first | exact HB.out | apply below_alloc | apply pw_below_drewN | apply below_drew1 | refine below_set ?_ (Aside0.out (by assumption))) | exact HB.out)⟩

/-! ### sawtoothref04_partS: a part of a product, and some more: pure, behind function 55 -/
noncomputable def sawtoothref04_partS.f (a b c d : Int) : Option (Int × Int) := Sp.need (Sp.I a ∧ Sp.I b ∧ Sp.I c ∧ Sp.I d) (if c < 1 then some (0, 20) else Sp.fit ((a * b + d) / c))
section Ref04Part
open Go.Proofs.YtceiakiihkaamaaDoor.Sp
theorem sawtoothref04_partS.eq {a b c d : Int} (h1 : I a) (h2 : I b) (h3 : I c) (h4 : I d) : sawtoothref04_partS.f a b c d = if c < 1 then some (0, 20) else fit ((a * b + d) / c) := need_pos ⟨h1, h2, h3, h4⟩
theorem sawtoothref04_part.main {a b c d : Int} (h1 : I a) (h2 : I b) (h3 : I c) (h4 : I d) : sawtoothref04_part.f a b c d = if c < 1 then some (0, 20) else fit ((a * b + d) / c) := by
 unfold sawtoothref04_part.f sawtoothref02_MulS.f sawtoothref02_OfS.f sawtoothref02_AddS.f sawtoothref02_DivS.f sawtoothref02_IntS.f sawtoothref02_CmpS.f
 by_cases hc : c < 1
 ·rw [if_pos hc, if_pos hc]
 have m := mulI h1 h2
 rw [if_neg hc, if_neg hc, mulF_eq h1 h2, ofF_eq h4]
 simp only [Option.bind_some]
 rw [addF_enc (by omega) (by omega), held_in (by omega), u64w_in (x := c) (by omega)]
 simp only [Option.bind_some]
 have hB : B (a * b + d) := by omega
 rw [divF_enc hB (by omega), quo_pos (by omega)]
 simp only [Option.bind_some]; have hq := div_B hB (show 0 < c by omega)
 generalize (a * b + d) / c = q at *
 rw [intF_enc hq]
 simp only [Option.bind_some]
 rw [ofF_eq (near_I _)]
 simp only [Option.bind_some]
 rw [cmpF_enc hq (I_B (near_I _))]
 simp only [Option.bind_some]
 unfold fit
 by_cases hi : I q
 ·rw [near_in hi, cmpI_eq rfl, if_pos rfl, if_pos hi]
 ·rw [if_neg hi, if_neg]
  unfold cmpI near
  split
  ·omega
  ·split
   ·have := near_I q; unfold near at this; split at * <;> (try split at *) <;> omega
   ·omega
end Ref04Part
theorem sawtoothref04_partS.calls (a b c d r1 r2 : Int) (w : World) (h : sawtoothref04_partS.f a b c d = some (r1, r2)) :
  Calls Tryd.prog 55 #[.int .i64 a, .int .i64 b, .int .i64 c, .int .i64 d] w fun e w' => e = .returned (.tuple #[.int .i64 r1, .int .i64 r2]) ∧ Below w.heap.size w w' := by
 obtain ⟨⟨h1, h2, h3, h4⟩, h⟩ := Sp.need_some h; exact sawtoothref04_part.calls a b c d r1 r2 w (by rw [sawtoothref04_part.main h1 h2 h3 h4]; exact h)

/-! ### sawtoothref04_Floor: function 34 -/
noncomputable def sawtoothref04_Floor.f (a0 : Int) (a1 : Int) (a2 : Int) : Option (Int × Int) := (sawtoothref04_partS.f a0 a1 a2 0).bind fun bt516 => (some (bt516.1, bt516.2))
set_option maxHeartbeats 8000000 in
set_option maxRecDepth 100000 in
theorem sawtoothref04_Floor.calls (a0 : Int) (a1 : Int) (a2 : Int) (r1 : Int) (r2 : Int) (w : World) (h : sawtoothref04_Floor.f a0 a1 a2 = some (r1, r2)) :
  Calls Tryd.prog 34 #[.int .i64 a0, .int .i64 a1, .int .i64 a2] w fun e w' => e = .returned (.tuple #[.int .i64 r1, .int .i64 r2]) ∧ Below w.heap.size w w' := by
 have HB := Aside0.mk (Below.refl w.heap.size w); have H : ((sawtoothref04_partS.f a0 a1 a2 0).bind fun bt516 => (some (bt516.1, bt516.2))) = some (r1, r2) := h; clear h; replace H := Option.bind_eq_some_iff.mp H; obtain ⟨⟨t516, t517⟩, A40, H⟩ := H; replace H : (some (t516, t517)) = some (r1, r2) := H; have A4 := Aside0.mk A40; clear A40; simp only [Option.some.injEq, Prod.mk.injEq] at H; obtain ⟨rfl, rfl⟩ := H
 go_enter Tryd.func34, Tryd.ntmps34
 go_wp2_with (first | ((with_reducible refine gate_callee (f := 55) rfl ?_); refine goesLA_ (some 11) rfl rfl Tryd.func55 rfl #[.int .i64 a0, .int .i64 a1, .int .i64 a2, .int .i64 0] rfl ?_; (with_reducible refine (sawtoothref04_partS.calls a0 a1 a2 0 t516 t517 _ A4.out).mono ?_); rintro e w5 ⟨rfl, hb⟩; refine ⟨_, rfl, ?_⟩; replace HB := stA hb; clear hb))
 go_ret2
 exact ⟨by first | rfl | (simp [errW_none, errW_some] <;> rfl) | (simp [*, errW_none, errW_some] <;> rfl), by repeat (first | (with_reducible first | exact HB.out | apply below_alloc | apply pw_below_drewN | apply below_drew1) | exact HB.out)⟩

/-! ### sawtoothref04_FloorS: a part of a product, from below: pure, behind function 34 -/
noncomputable def sawtoothref04_FloorS.f (a b c : Int) : Option (Int × Int) := Sp.need (Sp.I a ∧ Sp.I b ∧ Sp.I c) (Sp.floorQ a b c)
section
open Go.Proofs.YtceiakiihkaamaaDoor.Sp
theorem sawtoothref04_FloorS.eq {a b c : Int} (h1 : I a) (h2 : I b) (h3 : I c) : sawtoothref04_FloorS.f a b c = floorQ a b c := need_pos ⟨h1, h2, h3⟩
theorem sawtoothref04_Floor.main {a b c : Int} (h1 : I a) (h2 : I b) (h3 : I c) : sawtoothref04_Floor.f a b c = floorQ a b c := by
 unfold sawtoothref04_Floor.f
 rw [sawtoothref04_partS.eq h1 h2 h3 (by omega)]
 rw [show ∀ x : Option (Int × Int), (x.bind fun bt => some (bt.1, bt.2)) = x from fun x => by cases x <;> rfl]
 unfold floorQ; rw [Int.add_zero]
end
theorem sawtoothref04_FloorS.calls (a b c r1 r2 : Int) (w : World) (h : sawtoothref04_FloorS.f a b c = some (r1, r2)) :
  Calls Tryd.prog 34 #[.int .i64 a, .int .i64 b, .int .i64 c] w fun e w' => e = .returned (.tuple #[.int .i64 r1, .int .i64 r2]) ∧ Below w.heap.size w w' := by
 obtain ⟨⟨h1, h2, h3⟩, h⟩ := Sp.need_some h; exact sawtoothref04_Floor.calls a b c r1 r2 w (by rw [sawtoothref04_Floor.main h1 h2 h3]; exact h)

/-! ### sawtoothref11_Fast: function 16 -/
noncomputable def sawtoothref11_Fast.f (a0 : Int) (a1 : Int) : Option (Int) := if a1 ≥ a0 then (some a1) else (if a1 < 0 then (some 0) else ((sawtoothref04_FloorS.f a1 17 20).bind fun bt518 => (some bt518.1)))
set_option maxHeartbeats 8000000 in
set_option maxRecDepth 100000 in
theorem sawtoothref11_Fast.calls (a0 : Int) (a1 : Int) (r : Int) (w : World) (h : sawtoothref11_Fast.f a0 a1 = some r) :
  Calls Tryd.prog 16 #[.int .i64 a0, .int .i64 a1] w fun e w' => e = .returned (.int .i64 r) ∧ Below w.heap.size w w' := by
 have HB := Aside0.mk (Below.refl w.heap.size w); have H : (if a1 ≥ a0 then (some a1) else (if a1 < 0 then (some 0) else ((sawtoothref04_FloorS.f a1 17 20).bind fun bt518 => (some bt518.1)))) = some r := h; clear h
 by_cases c3 : a1 ≥ a0
 ·rw [if_pos c3] at H
  have c3b0 : decide (a0 ≤ a1) = true := decide_eq_true c3; clear c3; obtain rfl := Option.some.inj H
  go_enter Tryd.func16, Tryd.ntmps16
  go_wp2
  go_ret
  exact ⟨by first | rfl | (simp [errW_none, errW_some] <;> rfl) | (simp [*, errW_none, errW_some] <;> rfl), by repeat (first | (with_reducible first | exact HB.out | apply below_alloc | apply pw_below_drewN | apply below_drew1) | exact HB.out)⟩
 ·rw [if_neg c3] at H
  have c3b0 : decide (a0 ≤ a1) = false := decide_eq_false c3; clear c3
  by_cases c4 : a1 < 0
  ·rw [if_pos c4] at H
   have c4b0 : decide (a1 < 0) = true := decide_eq_true c4; clear c4; obtain rfl := Option.some.inj H
   go_enter Tryd.func16, Tryd.ntmps16
   go_wp2
   go_ret
   exact ⟨by first | rfl | (simp [errW_none, errW_some] <;> rfl) | (simp [*, errW_none, errW_some] <;> rfl), by repeat (first | (with_reducible first | exact HB.out | apply below_alloc | apply pw_below_drewN | apply below_drew1) | exact HB.out)⟩
  ·rw [if_neg c4] at H
   have c4b0 : decide (a1 < 0) = false := decide_eq_false c4; clear c4; replace H := Option.bind_eq_some_iff.mp H; obtain ⟨⟨t518, t519⟩, A50, H⟩ := H; replace H : (some t518) = some r := H; have A5 := Aside0.mk A50; clear A50; obtain rfl := Option.some.inj H
   go_enter Tryd.func16, Tryd.ntmps16
   go_wp2_with (first | ((with_reducible refine gate_callee (f := 34) rfl ?_); refine goesLA_ (some 15) rfl rfl Tryd.func34 rfl #[.int .i64 a1, .int .i64 17, .int .i64 20] rfl ?_; (with_reducible refine (sawtoothref04_FloorS.calls a1 17 20 t518 t519 _ A5.out).mono ?_); rintro e w6 ⟨rfl, hb⟩; refine ⟨_, rfl, ?_⟩; replace HB := stA hb; clear hb))
   go_ret
   exact ⟨by first | rfl | (simp [errW_none, errW_some] <;> rfl) | (simp [*, errW_none, errW_some] <;> rfl), by repeat (first | (with_reducible first | exact HB.out | apply below_alloc | apply pw_below_drewN | apply below_drew1) | exact HB.out)⟩

/-! ### sawtoothref11_FastS: up to where a window grows next: pure, behind function 16 -/
noncomputable def sawtoothref11_FastS.f (a b : Int) : Option Int := Sp.need (Sp.I a ∧ Sp.I b) (some (Sp.fastQ a b))
section
open Go.Proofs.YtceiakiihkaamaaDoor.Sp
theorem sawtoothref11_FastS.eq {a b : Int} (h1 : I a) (h2 : I b) : sawtoothref11_FastS.f a b = some (fastQ a b) := need_pos ⟨h1, h2⟩
theorem sawtoothref11_Fast.main {a b : Int} (h1 : I a) (h2 : I b) : sawtoothref11_Fast.f a b = some (fastQ a b) := by
 unfold sawtoothref11_Fast.f fastQ
 by_cases c : b ≥ a
 ·rw [if_pos c, if_pos c]
 ·rw [if_neg c, if_neg c]
  by_cases c2 : b < 0
  ·rw [if_pos c2, if_pos c2]; rfl
  ·rw [if_neg c2, if_neg c2, sawtoothref04_FloorS.eq h2 (by omega) (by omega), floorQ_in (by omega) (by omega)]
   rfl
end
theorem sawtoothref11_FastS.calls (a b r1 : Int) (w : World) (h : sawtoothref11_FastS.f a b = some r1) :
  Calls Tryd.prog 16 #[.int .i64 a, .int .i64 b] w fun e w' => e = .returned (.int .i64 r1) ∧ Below w.heap.size w w' := by
 obtain ⟨⟨h1, h2⟩, h⟩ := Sp.need_some h; exact sawtoothref11_Fast.calls a b r1 w (by rw [sawtoothref11_Fast.main h1 h2]; exact h)

end Go.Proofs.YtceiakiihkaamaaDoor.Px
