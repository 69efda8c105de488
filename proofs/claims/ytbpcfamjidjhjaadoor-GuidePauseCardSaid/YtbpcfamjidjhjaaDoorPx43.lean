/- Printed by px.py, over the kit's print. Conditions: none beside the theorems' own. -/
import Derived.Test.YtbpcfamjidjhjaaDoorPx0
import Derived.Test.YtbpcfamjidjhjaaDoorPx2
import Derived.Test.YtbpcfamjidjhjaaDoorPx8
import Derived.Test.YtbpcfamjidjhjaaDoorPx31
import Derived.Test.YtbpcfamjidjhjaaDoorPx42
namespace Go.Proofs.YtbpcfamjidjhjaaDoor.Px
open Go.RowKit Go.Proofs.YtbpcfamjidjhjaaDoorW.PrintWords Go.Proofs.YtbpcfamjidjhjaaDoorW.PrintLast Go.Proofs.YtbpcfamjidjhjaaDoorW.PrintMore
attribute [local go_sem] max2_int min2_int max_two min_two max_three min_three max_four min_four
set_option linter.unusedVariables false
set_option linter.unusedSimpArgs false

attribute [local go_sem high] eqA25
/-! ### sawtoothlaw19_GuidePause: function 8 -/
noncomputable def sawtoothlaw19_GuidePause.f (a0_0 : Bool) (a0_1 : Int) (a0_2 : Int) (a0_3 : Int) (a0_4 : Int) (a0_5 : Int) (a1 : Int) (a2 : Int) : Option (Bool) := (sawtoothlaw19_awakeS.f).bind fun t508 => ((epoch_CheckS.f a0_0 a0_1 a0_2 a0_3 a0_4 a0_5).bind fun t509 => (if t509 = true then ((guide_Pause.f a0_0 a0_1 a0_2 a0_3 a0_4 a0_5 (wrap64 (a1)) (wrap64 (a2))).bind fun bt510 => (if t508 = true then ((epoch_CheckS.f bt510.1 bt510.2.1 bt510.2.2.1 bt510.2.2.2.1 bt510.2.2.2.2.1 bt510.2.2.2.2.2).bind fun t517 => (if t517 = true then ((sawtoothlaw19_on.f a0_0 a0_1 a0_2 a0_3 a0_4 a0_5).bind fun t518 => (if bt510.2.1 = (mn (wrap64 (a0_1 + (wrap64 ((mx (wrap64 ((wrap64 (a2)) - (wrap64 (a1)))) 0) * t518)))) (mx 1099511627776 a0_1)) then (if bt510.2.2.2.1 = a0_3 then (if bt510.2.2.2.2.1 = a0_4 then (if (mx (wrap64 ((wrap64 (a2)) - (wrap64 (a1)))) 0) > 0 then (some true) else (some (bt510.1 == a0_0 && (bt510.2.1 == a0_1 && (bt510.2.2.1 == a0_2 && (bt510.2.2.2.1 == a0_3 && (bt510.2.2.2.2.1 == a0_4 && (bt510.2.2.2.2.2 == a0_5)))))))) else (none)) else (none)) else (none))) else (none))) else (none))) else (some t508)))
def sawtoothlaw19_GuidePause.T6 : Bool × List (List Nat × List Nat) := (true, [([], []), ([0], [0]), ([1], [1]), ([2, 1, 1], [1, 2]), ([1, 3], [1, 3]), ([4, 3], [4]), ([5], [5]), ([6, 5], [5, 6]), ([5], [5]), ([8, 5], [5, 8]), ([5], [5]), ([5], [5]), ([11, 5, 5], [5, 11]), ([10, 12, 5], [5, 10, 12]), ([9, 13, 5], [5, 9, 13]), ([5], [5]), ([15, 5], [5, 15]), ([16, 5], [5, 16]), ([14, 17, 5], [5, 14, 17]), ([7, 18, 5], [5, 7, 18]), ([5, 19], [5, 19]), ([20, 12], [20]), ([21], [21]), ([22, 21], [21, 22]), ([21], [21]), ([24, 21], [21, 24]), ([23, 25, 21], [21, 23, 25]), ([21, 26], [21, 26]), ([27, 21], [27]), ([28], [28]), ([29, 28], [28, 29]), ([28], [28]), ([31, 28], [28, 31]), ([30, 32, 28], [28, 30, 32]), ([28, 33], [28, 33]), ([34, 28], [34]), ([35], [35]), ([36, 35], [35, 36]), ([37, 35, 35], [35, 37]), ([38], [38]), ([38], [38]), ([39, 40, 38], [38, 39, 40]), ([38, 41, 35], [35, 38, 41]), ([35, 42], [35, 42]), ([43, 38, 0, 1, 2, 3, 4, 5, 6, 7, 8, 9, 10, 11, 12, 13, 14, 15, 16, 17, 18, 19, 20, 21, 22, 23, 24, 25, 26, 27, 28, 29, 30, 31, 32, 33, 34, 35, 36, 37, 38, 39, 40, 41, 42, 43], [43])])
def sawtoothlaw19_GuidePause.B6 : List Nat := [0, 1, 3, 7, 15, 31, 63, 127, 63, 319, 63, 63, 2111, 7231, 16191, 63, 32831, 98367, 261951, 524287, 1048575, 2097151, 4194303, 8388607, 4194303, 20971519, 67108863, 134217727, 268435455, 536870911, 1073741823, 536870911, 2684354559, 8589934591, 17179869183, 34359738367, 68719476735, 137438953471, 274877906943, 549755813887, 549755813887, 2199023255551, 4398046511103, 8796093022207, 17592186044415]
theorem sawtoothlaw19_GuidePause.tab6 : rtab .any (opsOf Tryd.f8 6) = sawtoothlaw19_GuidePause.T6 := by kernel_rfl
theorem sawtoothlaw19_GuidePause.bits6 : waitsOk sawtoothlaw19_GuidePause.T6.2 sawtoothlaw19_GuidePause.B6 = true := by kernel_rfl
set_option maxHeartbeats 8000000 in
set_option maxRecDepth 100000 in
theorem sawtoothlaw19_GuidePause.calls (a0_0 : Bool) (a0_1 : Int) (a0_2 : Int) (a0_3 : Int) (a0_4 : Int) (a0_5 : Int) (a1 : Int) (a2 : Int) (r : Bool) (w : World) (h : sawtoothlaw19_GuidePause.f a0_0 a0_1 a0_2 a0_3 a0_4 a0_5 a1 a2 = some r) (hL : Tens w) :
  Calls Tryd.prog 8 #[.agg #[.bool a0_0, .int .i64 a0_1, .int .i64 a0_2, .int .i64 a0_3, .int .i64 a0_4, .int .i64 a0_5], .int .u32 a1, .int .u32 a2] w fun e w' => e = .returned (.bool r) ∧ Below w.heap.size w w' := by
 have hu25 := Tryd.underlying25; have HB := Aside0.mk (Below.refl w.heap.size w); have H : ((sawtoothlaw19_awakeS.f).bind fun t508 => ((epoch_CheckS.f a0_0 a0_1 a0_2 a0_3 a0_4 a0_5).bind fun t509 => (if t509 = true then ((guide_Pause.f a0_0 a0_1 a0_2 a0_3 a0_4 a0_5 (wrap64 (a1)) (wrap64 (a2))).bind fun bt510 => (if t508 = true then ((epoch_CheckS.f bt510.1 bt510.2.1 bt510.2.2.1 bt510.2.2.2.1 bt510.2.2.2.2.1 bt510.2.2.2.2.2).bind fun t517 => (if t517 = true then ((sawtoothlaw19_on.f a0_0 a0_1 a0_2 a0_3 a0_4 a0_5).bind fun t518 => (if bt510.2.1 = (mn (wrap64 (a0_1 + (wrap64 ((mx (wrap64 ((wrap64 (a2)) - (wrap64 (a1)))) 0) * t518)))) (mx 1099511627776 a0_1)) then (if bt510.2.2.2.1 = a0_3 then (if bt510.2.2.2.2.1 = a0_4 then (if (mx (wrap64 ((wrap64 (a2)) - (wrap64 (a1)))) 0) > 0 then (some true) else (some (bt510.1 == a0_0 && (bt510.2.1 == a0_1 && (bt510.2.2.1 == a0_2 && (bt510.2.2.2.1 == a0_3 && (bt510.2.2.2.2.1 == a0_4 && (bt510.2.2.2.2.2 == a0_5)))))))) else (none)) else (none)) else (none))) else (none))) else (none))) else (some t508)))) = some r := h; clear h; replace H := Option.bind_eq_some_iff.mp H; obtain ⟨t508, A40, H⟩ := H; (try dsimp only at H); have A4 := Aside0.mk A40; clear A40; replace H := Option.bind_eq_some_iff.mp H; obtain ⟨t509, A50, H⟩ := H; (try dsimp only at H); have A5 := Aside0.mk A50; clear A50
 by_cases c6 : t509 = true
 ·subst c6
  have H1 : ((guide_Pause.f a0_0 a0_1 a0_2 a0_3 a0_4 a0_5 (wrap64 (a1)) (wrap64 (a2))).bind fun bt510 => (if t508 = true then ((epoch_CheckS.f bt510.1 bt510.2.1 bt510.2.2.1 bt510.2.2.2.1 bt510.2.2.2.2.1 bt510.2.2.2.2.2).bind fun t517 => (if t517 = true then ((sawtoothlaw19_on.f a0_0 a0_1 a0_2 a0_3 a0_4 a0_5).bind fun t518 => (if bt510.2.1 = (mn (wrap64 (a0_1 + (wrap64 ((mx (wrap64 ((wrap64 (a2)) - (wrap64 (a1)))) 0) * t518)))) (mx 1099511627776 a0_1)) then (if bt510.2.2.2.1 = a0_3 then (if bt510.2.2.2.2.1 = a0_4 then (if (mx (wrap64 ((wrap64 (a2)) - (wrap64 (a1)))) 0) > 0 then (some true) else (some (bt510.1 == a0_0 && (bt510.2.1 == a0_1 && (bt510.2.2.1 == a0_2 && (bt510.2.2.2.1 == a0_3 && (bt510.2.2.2.2.1 == a0_4 && (bt510.2.2.2.2.2 == a0_5)))))))) else (none)) else (none)) else (none))) else (none))) else (none))) = some r := by rw [if_pos rfl] at H; exact H
  clear H; have H := H1; clear H1; replace H := Option.bind_eq_some_iff.mp H; obtain ⟨⟨t510, t511, t512, t513, t514, t515⟩, A70, H⟩ := H; (try dsimp only at H); have A7 := Aside0.mk A70; clear A70
  obtain ⟨ji8, hji8⟩ : ∃ j_ : Int, (mx (wrap64 ((wrap64 (a2)) - (wrap64 (a1)))) 0) = j_ := ⟨_, rfl⟩
  replace H : (if t508 = true then ((epoch_CheckS.f t510 t511 t512 t513 t514 t515).bind fun t517 => (if t517 = true then ((sawtoothlaw19_on.f a0_0 a0_1 a0_2 a0_3 a0_4 a0_5).bind fun t518 => (if t511 = (mn (wrap64 (a0_1 + (wrap64 ((ji8) * t518)))) (mx 1099511627776 a0_1)) then (if t513 = a0_3 then (if t514 = a0_4 then (if (ji8) > 0 then (some true) else (some (t510 == a0_0 && (t511 == a0_1 && (t512 == a0_2 && (t513 == a0_3 && (t514 == a0_4 && (t515 == a0_5)))))))) else (none)) else (none)) else (none))) else (none))) else (none)) = some r := by first | (rw [hji8] at H; exact H) | (simp only [hji8] at H ⊢; exact H)
  (try rw [hji8] at A4)
  (try rw [hji8] at A5)
  (try rw [hji8] at A7)
  (try (have hji8l : 0 ≤ ji8 := by (rw [← hji8]; unfold mx; (repeat' split) <;> omega)))
  (try (have hji8m : 0 ≤ ji8 := by omega))
  have hji8_ : (if (wrap64 ((wrap64 (a2)) - (wrap64 (a1)))) < 0 then 0 else (wrap64 ((wrap64 (a2)) - (wrap64 (a1))))) = ji8 := hji8
  by_cases c9 : t508 = true
  ·subst c9
   have H1 : ((epoch_CheckS.f t510 t511 t512 t513 t514 t515).bind fun t517 => (if t517 = true then ((sawtoothlaw19_on.f a0_0 a0_1 a0_2 a0_3 a0_4 a0_5).bind fun t518 => (if t511 = (mn (wrap64 (a0_1 + (wrap64 ((ji8) * t518)))) (mx 1099511627776 a0_1)) then (if t513 = a0_3 then (if t514 = a0_4 then (if (ji8) > 0 then (some true) else (some (t510 == a0_0 && (t511 == a0_1 && (t512 == a0_2 && (t513 == a0_3 && (t514 == a0_4 && (t515 == a0_5)))))))) else (none)) else (none)) else (none))) else (none))) = some r := by rw [if_pos rfl] at H; exact H
   clear H; have H := H1; clear H1; replace H := Option.bind_eq_some_iff.mp H; obtain ⟨t517, A100, H⟩ := H; (try dsimp only at H); have A10 := Aside0.mk A100; clear A100
   by_cases c11 : t517 = true
   ·subst c11
    have H1 : ((sawtoothlaw19_on.f a0_0 a0_1 a0_2 a0_3 a0_4 a0_5).bind fun t518 => (if t511 = (mn (wrap64 (a0_1 + (wrap64 ((ji8) * t518)))) (mx 1099511627776 a0_1)) then (if t513 = a0_3 then (if t514 = a0_4 then (if (ji8) > 0 then (some true) else (some (t510 == a0_0 && (t511 == a0_1 && (t512 == a0_2 && (t513 == a0_3 && (t514 == a0_4 && (t515 == a0_5)))))))) else (none)) else (none)) else (none))) = some r := by rw [if_pos rfl] at H; exact H
    clear H; have H := H1; clear H1; replace H := Option.bind_eq_some_iff.mp H; obtain ⟨t518, A120, H⟩ := H; (try dsimp only at H); have A12 := Aside0.mk A120; clear A120
    obtain ⟨ji13, hji13⟩ : ∃ j_ : Int, (mx 1099511627776 a0_1) = j_ := ⟨_, rfl⟩
    replace H : (if t511 = (mn (wrap64 (a0_1 + (wrap64 ((ji8) * t518)))) (ji13)) then (if t513 = a0_3 then (if t514 = a0_4 then (if (ji8) > 0 then (some true) else (some (t510 == a0_0 && (t511 == a0_1 && (t512 == a0_2 && (t513 == a0_3 && (t514 == a0_4 && (t515 == a0_5)))))))) else (none)) else (none)) else (none)) = some r := by first | (rw [hji13] at H; exact H) | (simp only [hji13] at H ⊢; exact H)
    (try rw [hji13] at A4)
    (try rw [hji13] at A5)
    (try rw [hji13] at A7)
    (try rw [hji13] at A10)
    (try rw [hji13] at A12)
    (try (have hji13l : 1099511627776 ≤ ji13 := by (rw [← hji13]; unfold mx; (repeat' split) <;> omega)))
    (try (have hji13m : 0 ≤ ji13 := by omega))
    have hji13_ : (if 1099511627776 < a0_1 then a0_1 else 1099511627776) = ji13 := hji13
    obtain ⟨ji14, hji14⟩ : ∃ j_ : Int, (mn (wrap64 (a0_1 + (wrap64 ((ji8) * t518)))) (ji13)) = j_ := ⟨_, rfl⟩
    replace H : (if t511 = (ji14) then (if t513 = a0_3 then (if t514 = a0_4 then (if (ji8) > 0 then (some true) else (some (t510 == a0_0 && (t511 == a0_1 && (t512 == a0_2 && (t513 == a0_3 && (t514 == a0_4 && (t515 == a0_5)))))))) else (none)) else (none)) else (none)) = some r := by first | (rw [hji14] at H; exact H) | (simp only [hji14] at H ⊢; exact H)
    (try rw [hji14] at A4)
    (try rw [hji14] at A5)
    (try rw [hji14] at A7)
    (try rw [hji14] at A10)
    (try rw [hji14] at A12)
    have hji14_ : (if (ji13) < (wrap64 (a0_1 + (wrap64 ((ji8) * t518)))) then (ji13) else (wrap64 (a0_1 + (wrap64 ((ji8) * t518))))) = ji14 := hji14
    by_cases c15 : t511 = (ji14)
    ·rw [if_pos c15] at H
     have c15b0 : (t511 == (ji14)) = true := beq_iff_eq.mpr c15; have c15b1 : (t511 != (ji14)) = false := bne_eq_false_iff_eq.mpr c15; clear c15
     by_cases c16 : t513 = a0_3
     ·rw [if_pos c16] at H
      have c16b0 : (t513 == a0_3) = true := beq_iff_eq.mpr c16; have c16b1 : (t513 != a0_3) = false := bne_eq_false_iff_eq.mpr c16; clear c16
      by_cases c17 : t514 = a0_4
      ·rw [if_pos c17] at H
       have c17b0 : (t514 == a0_4) = true := beq_iff_eq.mpr c17; have c17b1 : (t514 != a0_4) = false := bne_eq_false_iff_eq.mpr c17; clear c17
       by_cases c18 : (ji8) > 0
       ·rw [if_pos c18] at H
        have c18b0 : decide (0 < (ji8)) = true := decide_eq_true c18; clear c18; obtain rfl := Option.some.inj H
        go_enter Tryd.func8, Tryd.ntmps8
        try go_wp2_with (first | ((with_reducible refine gate_dst (N := 3) rfl ?_); refine box_event ?hg (N := 3) ?hd (cs := #[.bool a0_0, .int .i64 a0_1, .int .i64 a0_2, .int .i64 a0_3, .int .i64 a0_4, .int .i64 a0_5]) (t := 25) ?hr ?_; (case hd => rfl); (case hg => rfl); (case hr => first | (go_simp; done) | (go_simp; rfl)); intro gb507 hg w19 hbox hb; have BK507 := Aside0.mk (hbox); obtain ⟨GW507, nHB⟩ := geA hg hb; have GE507 := GW507; replace HB := nHB; clear nHB; clear hb hbox hg) | ((with_reducible refine gate_callee (f := 9) rfl ?_); refine goesLA_ (some 10) rfl rfl Tryd.func9 rfl #[] rfl ?_; (with_reducible refine (sawtoothlaw19_awakeS.calls  true _ A4.out ?hT_).mono ?_); (case hT_ => exact tensB hL (by repeat (first | (with_reducible first | exact HB.out | apply below_alloc | apply pw_below_drewN | apply below_drew1 | refine below_set ?_ (Aside0.out (by assumption))) | exact HB.out))); rintro e w20 ⟨rfl, hb⟩; refine ⟨_, rfl, ?_⟩; replace BK507 := bdZ BK507 hb; replace HB := stA hb; clear hb; have hcz21_0 := czZ BK507 0 (.bool a0_0); have hcz21_1 := czZ BK507 1 (.int .i64 a0_1); have hcz21_2 := czZ BK507 2 (.int .i64 a0_2); have hcz21_3 := czZ BK507 3 (.int .i64 a0_3); have hcz21_4 := czZ BK507 4 (.int .i64 a0_4); have hcz21_5 := czZ BK507 5 (.int .i64 a0_5); have hfz21_0 := blk_frozen BK507.out 0; have hfz21_1 := blk_frozen BK507.out 1; have hfz21_2 := blk_frozen BK507.out 2; have hfz21_3 := blk_frozen BK507.out 3; have hfz21_4 := blk_frozen BK507.out 4; have hfz21_5 := blk_frozen BK507.out 5) | ((with_reducible refine gate_callee (f := 23) rfl ?_); refine goesLA_ (some 12) rfl rfl Tryd.func23 rfl #[.agg #[.bool a0_0, .int .i64 a0_1, .int .i64 a0_2, .int .i64 a0_3, .int .i64 a0_4, .int .i64 a0_5]] rfl ?_; (with_reducible refine (epoch_CheckS.calls a0_0 a0_1 a0_2 a0_3 a0_4 a0_5 true _ A5.out ?hT_).mono ?_); (case hT_ => exact tensB hL (by repeat (first | (with_reducible first | exact HB.out | apply below_alloc | apply pw_below_drewN | apply below_drew1 | refine below_set ?_ (Aside0.out (by assumption))) | exact HB.out))); rintro e w22 ⟨rfl, hb⟩; refine ⟨_, rfl, ?_⟩; replace BK507 := bdZ BK507 hb; replace HB := stA hb; clear hb; have hcz23_0 := czZ BK507 0 (.bool a0_0); have hcz23_1 := czZ BK507 1 (.int .i64 a0_1); have hcz23_2 := czZ BK507 2 (.int .i64 a0_2); have hcz23_3 := czZ BK507 3 (.int .i64 a0_3); have hcz23_4 := czZ BK507 4 (.int .i64 a0_4); have hcz23_5 := czZ BK507 5 (.int .i64 a0_5); have hfz23_0 := blk_frozen BK507.out 0; have hfz23_1 := blk_frozen BK507.out 1; have hfz23_2 := blk_frozen BK507.out 2; have hfz23_3 := blk_frozen BK507.out 3; have hfz23_4 := blk_frozen BK507.out 4; have hfz23_5 := blk_frozen BK507.out 5) | ((with_reducible refine gate_callee (f := 17) rfl ?_); refine goesLA_ (some 20) rfl rfl Tryd.func17 rfl #[.agg #[.bool a0_0, .int .i64 a0_1, .int .i64 a0_2, .int .i64 a0_3, .int .i64 a0_4, .int .i64 a0_5], .int .i64 (wrap64 (a1)), .int .i64 (wrap64 (a2))] rfl ?_; (with_reducible refine (guide_Pause.calls a0_0 a0_1 a0_2 a0_3 a0_4 a0_5 (wrap64 (a1)) (wrap64 (a2)) t510 t511 t512 t513 t514 t515 _ A7.out).mono ?_); rintro e w24 ⟨rfl, hb⟩; refine ⟨_, rfl, ?_⟩; replace BK507 := bdZ BK507 hb; replace HB := stA hb; clear hb) | ((with_reducible refine gate_dst (N := 8) rfl ?_); refine box_event ?hg (N := 8) ?hd (cs := #[.bool false, .int .i64 0, .int .i64 0, .int .i64 0, .int .i64 0, .int .i64 0]) (t := 25) ?hr ?_; (case hd => rfl); (case hg => rfl); (case hr => first | (go_simp; done) | (go_simp; rfl)); intro gb516 hg w25 hbox hb; have BK516 := Aside0.mk (hbox); obtain ⟨GW516, nHB⟩ := geA hg hb; have GE516 := GW516; obtain ⟨NB507_516, NB516_507, nBK⟩ := nbA BK507 hg hb; replace BK507 := nBK; clear nBK; replace HB := nHB; clear nHB; clear hb hbox hg; have hnb26 := NB516_507.out; have hnc26 := NB507_516.out; have hcz27_0 := czZ BK516 0 (.bool false); have hcz27_1 := czZ BK516 1 (.int .i64 0); have hcz27_2 := czZ BK516 2 (.int .i64 0); have hcz27_3 := czZ BK516 3 (.int .i64 0); have hcz27_4 := czZ BK516 4 (.int .i64 0); have hcz27_5 := czZ BK516 5 (.int .i64 0); have hfz27_0 := blk_frozen BK516.out 0; have hfz27_1 := blk_frozen BK516.out 1; have hfz27_2 := blk_frozen BK516.out 2; have hfz27_3 := blk_frozen BK516.out 3; have hfz27_4 := blk_frozen BK516.out 4; have hfz27_5 := blk_frozen BK516.out 5))
        have n0_ : Aside0 (((((((w25.setCell ⟨gb516, 0, none⟩ (.bool t510)).setCell ⟨gb516, 1, none⟩ (.int .i64 t511)).setCell ⟨gb516, 2, none⟩ (.int .i64 t512)).setCell ⟨gb516, 3, none⟩ (.int .i64 t513)).setCell ⟨gb516, 4, none⟩ (.int .i64 t514)).setCell ⟨gb516, 5, none⟩ (.int .i64 t515)).heap[gb507]? = some (.cells #[.bool a0_0, .int .i64 a0_1, .int .i64 a0_2, .int .i64 a0_3, .int .i64 a0_4, .int .i64 a0_5] 25 (0, 0))) := ⟨by (with_reducible repeat first | apply blk_drewN | apply blk_drew | apply blk_alloc); refine blk_far ?_ NB507_516.out _; (with_reducible repeat first | apply blk_drewN | apply blk_drew | apply blk_alloc); refine blk_far ?_ NB507_516.out _; (with_reducible repeat first | apply blk_drewN | apply blk_drew | apply blk_alloc); refine blk_far ?_ NB507_516.out _; (with_reducible repeat first | apply blk_drewN | apply blk_drew | apply blk_alloc); refine blk_far ?_ NB507_516.out _; (with_reducible repeat first | apply blk_drewN | apply blk_drew | apply blk_alloc); refine blk_far ?_ NB507_516.out _; (with_reducible repeat first | apply blk_drewN | apply blk_drew | apply blk_alloc); refine blk_far ?_ NB507_516.out _; (with_reducible repeat first | apply blk_drewN | apply blk_drew | apply blk_alloc); exact BK507.out⟩
        have n1_ : Aside0 (((((((w25.setCell ⟨gb516, 0, none⟩ (.bool t510)).setCell ⟨gb516, 1, none⟩ (.int .i64 t511)).setCell ⟨gb516, 2, none⟩ (.int .i64 t512)).setCell ⟨gb516, 3, none⟩ (.int .i64 t513)).setCell ⟨gb516, 4, none⟩ (.int .i64 t514)).setCell ⟨gb516, 5, none⟩ (.int .i64 t515)).heap[gb516]? = some (.cells #[.bool t510, .int .i64 t511, .int .i64 t512, .int .i64 t513, .int .i64 t514, .int .i64 t515] 25 (0, 0))) := ⟨by (with_reducible repeat first | apply blk_drewN | apply blk_drew | apply blk_alloc); refine blk_put (cs := #[.bool t510, .int .i64 t511, .int .i64 t512, .int .i64 t513, .int .i64 t514, .int .i64 0]) ?_ 5 _ rfl; (with_reducible repeat first | apply blk_drewN | apply blk_drew | apply blk_alloc); refine blk_put (cs := #[.bool t510, .int .i64 t511, .int .i64 t512, .int .i64 t513, .int .i64 0, .int .i64 0]) ?_ 4 _ rfl; (with_reducible repeat first | apply blk_drewN | apply blk_drew | apply blk_alloc); refine blk_put (cs := #[.bool t510, .int .i64 t511, .int .i64 t512, .int .i64 0, .int .i64 0, .int .i64 0]) ?_ 3 _ rfl; (with_reducible repeat first | apply blk_drewN | apply blk_drew | apply blk_alloc); refine blk_put (cs := #[.bool t510, .int .i64 t511, .int .i64 0, .int .i64 0, .int .i64 0, .int .i64 0]) ?_ 2 _ rfl; (with_reducible repeat first | apply blk_drewN | apply blk_drew | apply blk_alloc); refine blk_put (cs := #[.bool t510, .int .i64 0, .int .i64 0, .int .i64 0, .int .i64 0, .int .i64 0]) ?_ 1 _ rfl; (with_reducible repeat first | apply blk_drewN | apply blk_drew | apply blk_alloc); refine blk_put (cs := #[.bool false, .int .i64 0, .int .i64 0, .int .i64 0, .int .i64 0, .int .i64 0]) ?_ 0 _ rfl; (with_reducible repeat first | apply blk_drewN | apply blk_drew | apply blk_alloc); exact BK516.out⟩
        have n2_ : Aside0 (Below w.heap.size w ((((((w25.setCell ⟨gb516, 0, none⟩ (.bool t510)).setCell ⟨gb516, 1, none⟩ (.int .i64 t511)).setCell ⟨gb516, 2, none⟩ (.int .i64 t512)).setCell ⟨gb516, 3, none⟩ (.int .i64 t513)).setCell ⟨gb516, 4, none⟩ (.int .i64 t514)).setCell ⟨gb516, 5, none⟩ (.int .i64 t515))) := ⟨by repeat (first | (with_reducible first | exact HB.out | apply below_alloc | apply pw_below_drewN | apply below_drew1 | refine below_set ?_ (Aside0.out (by assumption))) | exact HB.out)⟩
        (try clear BK507); (try clear BK516); (try clear HB)
        generalize ((((((w25.setCell ⟨gb516, 0, none⟩ (.bool t510)).setCell ⟨gb516, 1, none⟩ (.int .i64 t511)).setCell ⟨gb516, 2, none⟩ (.int .i64 t512)).setCell ⟨gb516, 3, none⟩ (.int .i64 t513)).setCell ⟨gb516, 4, none⟩ (.int .i64 t514)).setCell ⟨gb516, 5, none⟩ (.int .i64 t515)) = w28 at n0_ n1_ n2_ ⊢
        have BK507 := n0_; have BK516 := n1_; have HB := n2_; clear n0_ n1_ n2_; replace BK507 := Aside0.mk (blk_drew BK507.out); replace BK516 := Aside0.mk (blk_drew BK516.out); replace HB := Aside0.mk (below_drew1 HB.out); refine start_ (n := 45) (S := fun w' => w'.cell? ⟨gb516, 0, none⟩ = some (.bool t510) ∧ w'.cell? ⟨gb516, 1, none⟩ = some (.int .i64 t511) ∧ w'.cell? ⟨gb516, 2, none⟩ = some (.int .i64 t512) ∧ w'.cell? ⟨gb516, 3, none⟩ = some (.int .i64 t513) ∧ w'.cell? ⟨gb516, 4, none⟩ = some (.int .i64 t514) ∧ w'.cell? ⟨gb516, 5, none⟩ = some (.int .i64 t515) ∧ w'.cell? ⟨gb507, 0, none⟩ = some (.bool a0_0) ∧ w'.cell? ⟨gb507, 1, none⟩ = some (.int .i64 a0_1) ∧ w'.cell? ⟨gb507, 2, none⟩ = some (.int .i64 a0_2) ∧ w'.cell? ⟨gb507, 3, none⟩ = some (.int .i64 a0_3) ∧ w'.cell? ⟨gb507, 4, none⟩ = some (.int .i64 a0_4) ∧ w'.cell? ⟨gb507, 5, none⟩ = some (.int .i64 a0_5)) (ds := []) #[N,N,N,N,N,N,N,N,N,N,N,N,N,N,N,N,N,N,N,N,N,N,N,N,N,N,N,N,N,N,N,N,N,N,N,N,N,N,N,N,N,N,N,N,N] (by kernel_rfl) rfl rfl ⟨(blk_cell BK516.out 0).trans rfl, (blk_cell BK516.out 1).trans rfl, (blk_cell BK516.out 2).trans rfl, (blk_cell BK516.out 3).trans rfl, (blk_cell BK516.out 4).trans rfl, (blk_cell BK516.out 5).trans rfl, (blk_cell BK507.out 0).trans rfl, (blk_cell BK507.out 1).trans rfl, (blk_cell BK507.out 2).trans rfl, (blk_cell BK507.out 3).trans rfl, (blk_cell BK507.out 4).trans rfl, (blk_cell BK507.out 5).trans rfl⟩ (fun hHeld => ?_); refine with_tabW sawtoothlaw19_GuidePause.tab6 sawtoothlaw19_GuidePause.bits6 (fun HT_ HW_ => ?_)
        generalize w28.drew = w29 at BK507 BK516 HB hHeld ⊢
        refine pureA_ (i := 0) (N := some 27) #[Y,N,N,N,N,N,N,N,N,N,N,N,N,N,N,N,N,N,N,N,N,N,N,N,N,N,N,N,N,N,N,N,N,N,N,N,N,N,N,N,N,N,N,N,N] rfl rfl (any_of HT_.out (by kernel_rfl)) ?_
        refine pureA_ (i := 1) (N := some 28) #[Y,Y,N,N,N,N,N,N,N,N,N,N,N,N,N,N,N,N,N,N,N,N,N,N,N,N,N,N,N,N,N,N,N,N,N,N,N,N,N,N,N,N,N,N,N] rfl rfl (any_of HT_.out (by kernel_rfl)) ?_
        refine take_ (i := 2) (N := some 29) (v := ?_) (a' := ?_) #[Y,Y,Y,N,N,N,N,N,N,N,N,N,N,N,N,N,N,N,N,N,N,N,N,N,N,N,N,N,N,N,N,N,N,N,N,N,N,N,N,N,N,N,N,N,N] rfl rfl (take_ofW HT_.out HW_.out (by kernel_rfl)) (fun _ _ _ h => h) (Or.inl ⟨by rfl, ?_⟩) hHeld ?_ ?_; rotate_left
        ·rintro w' ⟨s0, s1, s2, s3, s4, s5, s6, s7, s8, s9, s10, s11⟩; go_simp
         with_reducible rfl
        rotate_left
        ·simp only [Act.put, sA, sB, sC, i64_w, i32_w]
         rfl
        refine one_ (i := 3) (N := some 30) #[Y,Y,Y,Y,N,N,N,N,N,N,N,N,N,N,N,N,N,N,N,N,N,N,N,N,N,N,N,N,N,N,N,N,N,N,N,N,N,N,N,N,N,N,N,N,N] rfl rfl (one_of HT_.out (by kernel_rfl)) (by decide) (fun K hK => ?_); refine goesA_ Tryd.func23 rfl #[.agg #[.bool t510, .int .i64 t511, .int .i64 t512, .int .i64 t513, .int .i64 t514, .int .i64 t515]] (by rfl) rfl rfl ?_
        (with_reducible refine (epoch_CheckS.calls t510 t511 t512 t513 t514 t515 true _ A10.out ?hT_).mono ?_); (case hT_ => exact tensB hL (by repeat (first | (with_reducible first | exact HB.out | apply below_alloc | apply pw_below_drewN | apply below_drew1 | refine below_set ?_ (Aside0.out (by assumption))) | exact HB.out)))
        rintro e w30 ⟨rfl, hb⟩; refine ⟨_, rfl, ?_⟩; replace BK507 := bbZ BK507 hb; replace BK516 := bbZ BK516 hb; replace HB := Aside0.mk (below_step HB.out hb); clear hb; refine hK.out _ _ ⟨(blk_cell BK516.out 0).trans rfl, (blk_cell BK516.out 1).trans rfl, (blk_cell BK516.out 2).trans rfl, (blk_cell BK516.out 3).trans rfl, (blk_cell BK516.out 4).trans rfl, (blk_cell BK516.out 5).trans rfl, (blk_cell BK507.out 0).trans rfl, (blk_cell BK507.out 1).trans rfl, (blk_cell BK507.out 2).trans rfl, (blk_cell BK507.out 3).trans rfl, (blk_cell BK507.out 4).trans rfl, (blk_cell BK507.out 5).trans rfl⟩ (fun hHeld => ?_); clear hK K; refine normA_ (some 30) ?_
        refine pureA_ (i := 4) (N := some 31) #[Y,Y,Y,Y,Y,N,N,N,N,N,N,N,N,N,N,N,N,N,N,N,N,N,N,N,N,N,N,N,N,N,N,N,N,N,N,N,N,N,N,N,N,N,N,N,N] rfl rfl (any_of HT_.out (by kernel_rfl)) ?_
        refine pureA_ (i := 5) (N := some 32) #[Y,Y,Y,Y,Y,Y,N,N,N,N,N,N,N,N,N,N,N,N,N,N,N,N,N,N,N,N,N,N,N,N,N,N,N,N,N,N,N,N,N,N,N,N,N,N,N] rfl rfl (any_of HT_.out (by kernel_rfl)) ?_
        refine pureA_ (i := 6) (N := some 33) #[Y,Y,Y,Y,Y,Y,Y,N,N,N,N,N,N,N,N,N,N,N,N,N,N,N,N,N,N,N,N,N,N,N,N,N,N,N,N,N,N,N,N,N,N,N,N,N,N] rfl rfl (any_of HT_.out (by kernel_rfl)) ?_
        refine pureA_ (i := 8) (N := some 35) #[Y,Y,Y,Y,Y,Y,Y,N,Y,N,N,N,N,N,N,N,N,N,N,N,N,N,N,N,N,N,N,N,N,N,N,N,N,N,N,N,N,N,N,N,N,N,N,N,N] rfl rfl (any_of HT_.out (by kernel_rfl)) ?_
        refine pureA_ (i := 10) (N := some 37) #[Y,Y,Y,Y,Y,Y,Y,N,Y,N,Y,N,N,N,N,N,N,N,N,N,N,N,N,N,N,N,N,N,N,N,N,N,N,N,N,N,N,N,N,N,N,N,N,N,N] rfl rfl (any_of HT_.out (by kernel_rfl)) ?_
        refine pureA_ (i := 15) (N := some 42) #[Y,Y,Y,Y,Y,Y,Y,N,Y,N,Y,N,N,N,N,Y,N,N,N,N,N,N,N,N,N,N,N,N,N,N,N,N,N,N,N,N,N,N,N,N,N,N,N,N,N] rfl rfl (any_of HT_.out (by kernel_rfl)) ?_
        refine take_ (i := 7) (N := some 34) (v := ?_) (a' := ?_) #[Y,Y,Y,Y,Y,Y,Y,Y,Y,N,Y,N,N,N,N,Y,N,N,N,N,N,N,N,N,N,N,N,N,N,N,N,N,N,N,N,N,N,N,N,N,N,N,N,N,N] rfl rfl (take_ofW HT_.out HW_.out (by kernel_rfl)) (fun _ _ _ h => h) (Or.inl ⟨by rfl, ?_⟩) hHeld ?_ ?_; rotate_left
        ·rintro w' ⟨s0, s1, s2, s3, s4, s5, s6, s7, s8, s9, s10, s11⟩; go_simp
         with_reducible rfl
        rotate_left
        ·simp only [Act.put, sA, sB, sC, i64_w, i32_w]
         rfl
        refine take_ (i := 9) (N := some 36) (v := ?_) (a' := ?_) #[Y,Y,Y,Y,Y,Y,Y,Y,Y,Y,Y,N,N,N,N,Y,N,N,N,N,N,N,N,N,N,N,N,N,N,N,N,N,N,N,N,N,N,N,N,N,N,N,N,N,N] rfl rfl (take_ofW HT_.out HW_.out (by kernel_rfl)) (fun _ _ _ h => h) (Or.inl ⟨by rfl, ?_⟩) hHeld ?_ ?_; rotate_left
        ·rintro w' ⟨s0, s1, s2, s3, s4, s5, s6, s7, s8, s9, s10, s11⟩; go_simp
         with_reducible rfl
        rotate_left
        ·simp only [Act.put, sA, sB, sC, i64_w, i32_w]
         rfl
        refine take_ (i := 11) (N := some 38) (v := ?_) (a' := ?_) #[Y,Y,Y,Y,Y,Y,Y,Y,Y,Y,Y,Y,N,N,N,Y,N,N,N,N,N,N,N,N,N,N,N,N,N,N,N,N,N,N,N,N,N,N,N,N,N,N,N,N,N] rfl rfl (take_ofW HT_.out HW_.out (by kernel_rfl)) (fun _ _ _ h => h) (Or.inl ⟨by rfl, ?_⟩) hHeld ?_ ?_; rotate_left
        ·rintro w' ⟨s0, s1, s2, s3, s4, s5, s6, s7, s8, s9, s10, s11⟩; go_simp
         with_reducible rfl
        rotate_left
        ·simp only [Act.put, sA, sB, sC, i64_w, i32_w]
         rfl
        refine take_ (i := 16) (N := some 43) (v := ?_) (a' := ?_) #[Y,Y,Y,Y,Y,Y,Y,Y,Y,Y,Y,Y,N,N,N,Y,Y,N,N,N,N,N,N,N,N,N,N,N,N,N,N,N,N,N,N,N,N,N,N,N,N,N,N,N,N] rfl rfl (take_ofW HT_.out HW_.out (by kernel_rfl)) (fun _ _ _ h => h) (Or.inl ⟨by rfl, ?_⟩) hHeld ?_ ?_; rotate_left
        ·rintro w' ⟨s0, s1, s2, s3, s4, s5, s6, s7, s8, s9, s10, s11⟩; go_simp
         with_reducible rfl
        rotate_left
        ·simp only [Act.put, sA, sB, sC, i64_w, i32_w]
         rfl
        refine pureA_ (i := 17) (N := some 44) #[Y,Y,Y,Y,Y,Y,Y,Y,Y,Y,Y,Y,N,N,N,Y,Y,Y,N,N,N,N,N,N,N,N,N,N,N,N,N,N,N,N,N,N,N,N,N,N,N,N,N,N,N] rfl rfl (any_of HT_.out (by kernel_rfl)) ?_
        refine one_ (i := 12) (N := some 39) #[Y,Y,Y,Y,Y,Y,Y,Y,Y,Y,Y,Y,Y,N,N,Y,Y,Y,N,N,N,N,N,N,N,N,N,N,N,N,N,N,N,N,N,N,N,N,N,N,N,N,N,N,N] rfl rfl (one_of HT_.out (by kernel_rfl)) (by decide) (fun K hK => ?_); refine goesA_ Tryd.func24 rfl #[.agg #[.bool a0_0, .int .i64 a0_1, .int .i64 a0_2, .int .i64 a0_3, .int .i64 a0_4, .int .i64 a0_5]] (by rfl) rfl rfl ?_
        with_reducible refine (sawtoothlaw19_on.calls a0_0 a0_1 a0_2 a0_3 a0_4 a0_5 t518 _ A12.out).mono ?_
        rintro e w31 ⟨rfl, hb⟩; refine ⟨_, rfl, ?_⟩; replace BK507 := bbZ BK507 hb; replace BK516 := bbZ BK516 hb; replace HB := Aside0.mk (below_step HB.out hb); clear hb; refine hK.out _ _ ⟨(blk_cell BK516.out 0).trans rfl, (blk_cell BK516.out 1).trans rfl, (blk_cell BK516.out 2).trans rfl, (blk_cell BK516.out 3).trans rfl, (blk_cell BK516.out 4).trans rfl, (blk_cell BK516.out 5).trans rfl, (blk_cell BK507.out 0).trans rfl, (blk_cell BK507.out 1).trans rfl, (blk_cell BK507.out 2).trans rfl, (blk_cell BK507.out 3).trans rfl, (blk_cell BK507.out 4).trans rfl, (blk_cell BK507.out 5).trans rfl⟩ (fun hHeld => ?_); clear hK K; refine normA_ (some 39) ?_
        refine pureA_ (i := 13) (N := some 40) #[Y,Y,Y,Y,Y,Y,Y,Y,Y,Y,Y,Y,Y,Y,N,Y,Y,Y,N,N,N,N,N,N,N,N,N,N,N,N,N,N,N,N,N,N,N,N,N,N,N,N,N,N,N] rfl rfl (any_of HT_.out (by kernel_rfl)) ?_
        refine pureA_ (i := 14) (N := some 41) #[Y,Y,Y,Y,Y,Y,Y,Y,Y,Y,Y,Y,Y,Y,Y,Y,Y,Y,N,N,N,N,N,N,N,N,N,N,N,N,N,N,N,N,N,N,N,N,N,N,N,N,N,N,N] rfl rfl (any_of HT_.out (by kernel_rfl)) ?_
        refine pureA_ (i := 18) (N := some 45) #[Y,Y,Y,Y,Y,Y,Y,Y,Y,Y,Y,Y,Y,Y,Y,Y,Y,Y,Y,N,N,N,N,N,N,N,N,N,N,N,N,N,N,N,N,N,N,N,N,N,N,N,N,N,N] rfl rfl (any_of HT_.out (by kernel_rfl)) ?_
        refine pureA_ (i := 19) (N := some 46) #[Y,Y,Y,Y,Y,Y,Y,Y,Y,Y,Y,Y,Y,Y,Y,Y,Y,Y,Y,Y,N,N,N,N,N,N,N,N,N,N,N,N,N,N,N,N,N,N,N,N,N,N,N,N,N] rfl rfl (any_of HT_.out (by kernel_rfl)) ?_
        refine pureA_ (i := 20) (N := some 47) #[Y,Y,Y,Y,Y,Y,Y,Y,Y,Y,Y,Y,Y,Y,Y,Y,Y,Y,Y,Y,Y,N,N,N,N,N,N,N,N,N,N,N,N,N,N,N,N,N,N,N,N,N,N,N,N] rfl rfl (any_of HT_.out (by kernel_rfl)) ?_
        refine pureA_ (i := 21) (N := some 48) #[Y,Y,Y,Y,Y,Y,Y,Y,Y,Y,Y,Y,Y,Y,Y,Y,Y,Y,Y,Y,Y,Y,N,N,N,N,N,N,N,N,N,N,N,N,N,N,N,N,N,N,N,N,N,N,N] rfl rfl (any_of HT_.out (by kernel_rfl)) ?_
        refine pureA_ (i := 22) (N := some 49) #[Y,Y,Y,Y,Y,Y,Y,Y,Y,Y,Y,Y,Y,Y,Y,Y,Y,Y,Y,Y,Y,Y,Y,N,N,N,N,N,N,N,N,N,N,N,N,N,N,N,N,N,N,N,N,N,N] rfl rfl (any_of HT_.out (by kernel_rfl)) ?_
        refine pureA_ (i := 24) (N := some 51) #[Y,Y,Y,Y,Y,Y,Y,Y,Y,Y,Y,Y,Y,Y,Y,Y,Y,Y,Y,Y,Y,Y,Y,N,Y,N,N,N,N,N,N,N,N,N,N,N,N,N,N,N,N,N,N,N,N] rfl rfl (any_of HT_.out (by kernel_rfl)) ?_
        refine take_ (i := 23) (N := some 50) (v := ?_) (a' := ?_) #[Y,Y,Y,Y,Y,Y,Y,Y,Y,Y,Y,Y,Y,Y,Y,Y,Y,Y,Y,Y,Y,Y,Y,Y,Y,N,N,N,N,N,N,N,N,N,N,N,N,N,N,N,N,N,N,N,N] rfl rfl (take_ofW HT_.out HW_.out (by kernel_rfl)) (fun _ _ _ h => h) (Or.inl ⟨by rfl, ?_⟩) hHeld ?_ ?_; rotate_left
        ·rintro w' ⟨s0, s1, s2, s3, s4, s5, s6, s7, s8, s9, s10, s11⟩; go_simp
         with_reducible rfl
        rotate_left
        ·simp only [Act.put, sA, sB, sC, i64_w, i32_w]
         rfl
        refine take_ (i := 25) (N := some 52) (v := ?_) (a' := ?_) #[Y,Y,Y,Y,Y,Y,Y,Y,Y,Y,Y,Y,Y,Y,Y,Y,Y,Y,Y,Y,Y,Y,Y,Y,Y,Y,N,N,N,N,N,N,N,N,N,N,N,N,N,N,N,N,N,N,N] rfl rfl (take_ofW HT_.out HW_.out (by kernel_rfl)) (fun _ _ _ h => h) (Or.inl ⟨by rfl, ?_⟩) hHeld ?_ ?_; rotate_left
        ·rintro w' ⟨s0, s1, s2, s3, s4, s5, s6, s7, s8, s9, s10, s11⟩; go_simp
         with_reducible rfl
        rotate_left
        ·simp only [Act.put, sA, sB, sC, i64_w, i32_w]
         rfl
        refine pureA_ (i := 26) (N := some 53) #[Y,Y,Y,Y,Y,Y,Y,Y,Y,Y,Y,Y,Y,Y,Y,Y,Y,Y,Y,Y,Y,Y,Y,Y,Y,Y,Y,N,N,N,N,N,N,N,N,N,N,N,N,N,N,N,N,N,N] rfl rfl (any_of HT_.out (by kernel_rfl)) ?_
        refine pureA_ (i := 27) (N := some 54) #[Y,Y,Y,Y,Y,Y,Y,Y,Y,Y,Y,Y,Y,Y,Y,Y,Y,Y,Y,Y,Y,Y,Y,Y,Y,Y,Y,Y,N,N,N,N,N,N,N,N,N,N,N,N,N,N,N,N,N] rfl rfl (any_of HT_.out (by kernel_rfl)) ?_
        refine pureA_ (i := 28) (N := some 55) #[Y,Y,Y,Y,Y,Y,Y,Y,Y,Y,Y,Y,Y,Y,Y,Y,Y,Y,Y,Y,Y,Y,Y,Y,Y,Y,Y,Y,Y,N,N,N,N,N,N,N,N,N,N,N,N,N,N,N,N] rfl rfl (any_of HT_.out (by kernel_rfl)) ?_
        refine pureA_ (i := 29) (N := some 56) #[Y,Y,Y,Y,Y,Y,Y,Y,Y,Y,Y,Y,Y,Y,Y,Y,Y,Y,Y,Y,Y,Y,Y,Y,Y,Y,Y,Y,Y,Y,N,N,N,N,N,N,N,N,N,N,N,N,N,N,N] rfl rfl (any_of HT_.out (by kernel_rfl)) ?_
        refine pureA_ (i := 31) (N := some 58) #[Y,Y,Y,Y,Y,Y,Y,Y,Y,Y,Y,Y,Y,Y,Y,Y,Y,Y,Y,Y,Y,Y,Y,Y,Y,Y,Y,Y,Y,Y,N,Y,N,N,N,N,N,N,N,N,N,N,N,N,N] rfl rfl (any_of HT_.out (by kernel_rfl)) ?_
        refine take_ (i := 30) (N := some 57) (v := ?_) (a' := ?_) #[Y,Y,Y,Y,Y,Y,Y,Y,Y,Y,Y,Y,Y,Y,Y,Y,Y,Y,Y,Y,Y,Y,Y,Y,Y,Y,Y,Y,Y,Y,Y,Y,N,N,N,N,N,N,N,N,N,N,N,N,N] rfl rfl (take_ofW HT_.out HW_.out (by kernel_rfl)) (fun _ _ _ h => h) (Or.inl ⟨by rfl, ?_⟩) hHeld ?_ ?_; rotate_left
        ·rintro w' ⟨s0, s1, s2, s3, s4, s5, s6, s7, s8, s9, s10, s11⟩; go_simp
         with_reducible rfl
        rotate_left
        ·simp only [Act.put, sA, sB, sC, i64_w, i32_w]
         rfl
        refine take_ (i := 32) (N := some 59) (v := ?_) (a' := ?_) #[Y,Y,Y,Y,Y,Y,Y,Y,Y,Y,Y,Y,Y,Y,Y,Y,Y,Y,Y,Y,Y,Y,Y,Y,Y,Y,Y,Y,Y,Y,Y,Y,Y,N,N,N,N,N,N,N,N,N,N,N,N] rfl rfl (take_ofW HT_.out HW_.out (by kernel_rfl)) (fun _ _ _ h => h) (Or.inl ⟨by rfl, ?_⟩) hHeld ?_ ?_; rotate_left
        ·rintro w' ⟨s0, s1, s2, s3, s4, s5, s6, s7, s8, s9, s10, s11⟩; go_simp
         with_reducible rfl
        rotate_left
        ·simp only [Act.put, sA, sB, sC, i64_w, i32_w]
         rfl
        refine pureA_ (i := 33) (N := some 60) #[Y,Y,Y,Y,Y,Y,Y,Y,Y,Y,Y,Y,Y,Y,Y,Y,Y,Y,Y,Y,Y,Y,Y,Y,Y,Y,Y,Y,Y,Y,Y,Y,Y,Y,N,N,N,N,N,N,N,N,N,N,N] rfl rfl (any_of HT_.out (by kernel_rfl)) ?_
        refine pureA_ (i := 34) (N := some 61) #[Y,Y,Y,Y,Y,Y,Y,Y,Y,Y,Y,Y,Y,Y,Y,Y,Y,Y,Y,Y,Y,Y,Y,Y,Y,Y,Y,Y,Y,Y,Y,Y,Y,Y,Y,N,N,N,N,N,N,N,N,N,N] rfl rfl (any_of HT_.out (by kernel_rfl)) ?_
        refine pureA_ (i := 35) (N := some 62) #[Y,Y,Y,Y,Y,Y,Y,Y,Y,Y,Y,Y,Y,Y,Y,Y,Y,Y,Y,Y,Y,Y,Y,Y,Y,Y,Y,Y,Y,Y,Y,Y,Y,Y,Y,Y,N,N,N,N,N,N,N,N,N] rfl rfl (any_of HT_.out (by kernel_rfl)) ?_
        refine pureA_ (i := 36) (N := some 63) #[Y,Y,Y,Y,Y,Y,Y,Y,Y,Y,Y,Y,Y,Y,Y,Y,Y,Y,Y,Y,Y,Y,Y,Y,Y,Y,Y,Y,Y,Y,Y,Y,Y,Y,Y,Y,Y,N,N,N,N,N,N,N,N] rfl rfl (any_of HT_.out (by kernel_rfl)) ?_
        refine pureA_ (i := 37) (N := some 64) #[Y,Y,Y,Y,Y,Y,Y,Y,Y,Y,Y,Y,Y,Y,Y,Y,Y,Y,Y,Y,Y,Y,Y,Y,Y,Y,Y,Y,Y,Y,Y,Y,Y,Y,Y,Y,Y,Y,N,N,N,N,N,N,N] rfl rfl (any_of HT_.out (by kernel_rfl)) ?_
        refine pureA_ (i := 38) (N := some 65) #[Y,Y,Y,Y,Y,Y,Y,Y,Y,Y,Y,Y,Y,Y,Y,Y,Y,Y,Y,Y,Y,Y,Y,Y,Y,Y,Y,Y,Y,Y,Y,Y,Y,Y,Y,Y,Y,Y,Y,N,N,N,N,N,N] rfl rfl (any_of HT_.out (by kernel_rfl)) ?_
        refine pure_ (i := 39) (N := some 66) (v := undef) (a' := ?_) #[Y,Y,Y,Y,Y,Y,Y,Y,Y,Y,Y,Y,Y,Y,Y,Y,Y,Y,Y,Y,Y,Y,Y,Y,Y,Y,Y,Y,Y,Y,Y,Y,Y,Y,Y,Y,Y,Y,Y,Y,N,N,N,N,N] rfl rfl (any_of HT_.out (by kernel_rfl)) (fun _ _ _ h => h) (Or.inr ⟨by rfl, rfl⟩) ?_ ?_; rotate_left
        ·simp only [Act.put, sA, sB, sC, i64_w, i32_w]
         rfl
        refine pure_ (i := 40) (N := some 67) (v := undef) (a' := ?_) #[Y,Y,Y,Y,Y,Y,Y,Y,Y,Y,Y,Y,Y,Y,Y,Y,Y,Y,Y,Y,Y,Y,Y,Y,Y,Y,Y,Y,Y,Y,Y,Y,Y,Y,Y,Y,Y,Y,Y,Y,Y,N,N,N,N] rfl rfl (any_of HT_.out (by kernel_rfl)) (fun _ _ _ h => h) (Or.inr ⟨by rfl, rfl⟩) ?_ ?_; rotate_left
        ·simp only [Act.put, sA, sB, sC, i64_w, i32_w]
         rfl
        refine pure_ (i := 41) (N := some 68) (v := undef) (a' := ?_) #[Y,Y,Y,Y,Y,Y,Y,Y,Y,Y,Y,Y,Y,Y,Y,Y,Y,Y,Y,Y,Y,Y,Y,Y,Y,Y,Y,Y,Y,Y,Y,Y,Y,Y,Y,Y,Y,Y,Y,Y,Y,Y,N,N,N] rfl rfl (any_of HT_.out (by kernel_rfl)) (fun _ _ _ h => h) (Or.inr ⟨by rfl, rfl⟩) ?_ ?_; rotate_left
        ·simp only [Act.put, sA, sB, sC, i64_w, i32_w]
         rfl
        refine pureA_ (i := 42) (N := some 69) #[Y,Y,Y,Y,Y,Y,Y,Y,Y,Y,Y,Y,Y,Y,Y,Y,Y,Y,Y,Y,Y,Y,Y,Y,Y,Y,Y,Y,Y,Y,Y,Y,Y,Y,Y,Y,Y,Y,Y,Y,Y,Y,Y,N,N] rfl rfl (any_of HT_.out (by kernel_rfl)) ?_
        refine pureA_ (i := 43) (N := some 70) #[Y,Y,Y,Y,Y,Y,Y,Y,Y,Y,Y,Y,Y,Y,Y,Y,Y,Y,Y,Y,Y,Y,Y,Y,Y,Y,Y,Y,Y,Y,Y,Y,Y,Y,Y,Y,Y,Y,Y,Y,Y,Y,Y,Y,N] rfl rfl (any_of HT_.out (by kernel_rfl)) ?_
        refine pureA_ (i := 44) (N := some 6) #[Y,Y,Y,Y,Y,Y,Y,Y,Y,Y,Y,Y,Y,Y,Y,Y,Y,Y,Y,Y,Y,Y,Y,Y,Y,Y,Y,Y,Y,Y,Y,Y,Y,Y,Y,Y,Y,Y,Y,Y,Y,Y,Y,Y,Y] rfl rfl (any_of HT_.out (by kernel_rfl)) ?_
        refine done_ (done_of HT_.out (by kernel_rfl)) ?_
        try go_wp2
        go_ret
        exact ⟨by first | rfl | (simp [errW_none, errW_some] <;> rfl) | (simp only [← hji8, ← hji13, ← hji14]; first | rfl | (simp [errW_none, errW_some] <;> rfl)) | (simp [*, errW_none, errW_some] <;> rfl), by repeat (first | (with_reducible first | exact HB.out | apply below_alloc | apply pw_below_drewN | apply below_drew1 | refine below_set ?_ (Aside0.out (by assumption))) | exact HB.out)⟩
       ·rw [if_neg c18] at H
        have c18b0 : decide (0 < (ji8)) = false := decide_eq_false c18; clear c18; obtain rfl := Option.some.inj H
        go_enter Tryd.func8, Tryd.ntmps8
        try go_wp2_with (first | ((with_reducible refine gate_dst (N := 3) rfl ?_); refine box_event ?hg (N := 3) ?hd (cs := #[.bool a0_0, .int .i64 a0_1, .int .i64 a0_2, .int .i64 a0_3, .int .i64 a0_4, .int .i64 a0_5]) (t := 25) ?hr ?_; (case hd => rfl); (case hg => rfl); (case hr => first | (go_simp; done) | (go_simp; rfl)); intro gb507 hg w32 hbox hb; have BK507 := Aside0.mk (hbox); obtain ⟨GW507, nHB⟩ := geA hg hb; have GE507 := GW507; replace HB := nHB; clear nHB; clear hb hbox hg) | ((with_reducible refine gate_callee (f := 9) rfl ?_); refine goesLA_ (some 10) rfl rfl Tryd.func9 rfl #[] rfl ?_; (with_reducible refine (sawtoothlaw19_awakeS.calls  true _ A4.out ?hT_).mono ?_); (case hT_ => exact tensB hL (by repeat (first | (with_reducible first | exact HB.out | apply below_alloc | apply pw_below_drewN | apply below_drew1 | refine below_set ?_ (Aside0.out (by assumption))) | exact HB.out))); rintro e w33 ⟨rfl, hb⟩; refine ⟨_, rfl, ?_⟩; replace BK507 := bdZ BK507 hb; replace HB := stA hb; clear hb; have hcz34_0 := czZ BK507 0 (.bool a0_0); have hcz34_1 := czZ BK507 1 (.int .i64 a0_1); have hcz34_2 := czZ BK507 2 (.int .i64 a0_2); have hcz34_3 := czZ BK507 3 (.int .i64 a0_3); have hcz34_4 := czZ BK507 4 (.int .i64 a0_4); have hcz34_5 := czZ BK507 5 (.int .i64 a0_5); have hfz34_0 := blk_frozen BK507.out 0; have hfz34_1 := blk_frozen BK507.out 1; have hfz34_2 := blk_frozen BK507.out 2; have hfz34_3 := blk_frozen BK507.out 3; have hfz34_4 := blk_frozen BK507.out 4; have hfz34_5 := blk_frozen BK507.out 5) | ((with_reducible refine gate_callee (f := 23) rfl ?_); refine goesLA_ (some 12) rfl rfl Tryd.func23 rfl #[.agg #[.bool a0_0, .int .i64 a0_1, .int .i64 a0_2, .int .i64 a0_3, .int .i64 a0_4, .int .i64 a0_5]] rfl ?_; (with_reducible refine (epoch_CheckS.calls a0_0 a0_1 a0_2 a0_3 a0_4 a0_5 true _ A5.out ?hT_).mono ?_); (case hT_ => exact tensB hL (by repeat (first | (with_reducible first | exact HB.out | apply below_alloc | apply pw_below_drewN | apply below_drew1 | refine below_set ?_ (Aside0.out (by assumption))) | exact HB.out))); rintro e w35 ⟨rfl, hb⟩; refine ⟨_, rfl, ?_⟩; replace BK507 := bdZ BK507 hb; replace HB := stA hb; clear hb; have hcz36_0 := czZ BK507 0 (.bool a0_0); have hcz36_1 := czZ BK507 1 (.int .i64 a0_1); have hcz36_2 := czZ BK507 2 (.int .i64 a0_2); have hcz36_3 := czZ BK507 3 (.int .i64 a0_3); have hcz36_4 := czZ BK507 4 (.int .i64 a0_4); have hcz36_5 := czZ BK507 5 (.int .i64 a0_5); have hfz36_0 := blk_frozen BK507.out 0; have hfz36_1 := blk_frozen BK507.out 1; have hfz36_2 := blk_frozen BK507.out 2; have hfz36_3 := blk_frozen BK507.out 3; have hfz36_4 := blk_frozen BK507.out 4; have hfz36_5 := blk_frozen BK507.out 5) | ((with_reducible refine gate_callee (f := 17) rfl ?_); refine goesLA_ (some 20) rfl rfl Tryd.func17 rfl #[.agg #[.bool a0_0, .int .i64 a0_1, .int .i64 a0_2, .int .i64 a0_3, .int .i64 a0_4, .int .i64 a0_5], .int .i64 (wrap64 (a1)), .int .i64 (wrap64 (a2))] rfl ?_; (with_reducible refine (guide_Pause.calls a0_0 a0_1 a0_2 a0_3 a0_4 a0_5 (wrap64 (a1)) (wrap64 (a2)) t510 t511 t512 t513 t514 t515 _ A7.out).mono ?_); rintro e w37 ⟨rfl, hb⟩; refine ⟨_, rfl, ?_⟩; replace BK507 := bdZ BK507 hb; replace HB := stA hb; clear hb) | ((with_reducible refine gate_dst (N := 8) rfl ?_); refine box_event ?hg (N := 8) ?hd (cs := #[.bool false, .int .i64 0, .int .i64 0, .int .i64 0, .int .i64 0, .int .i64 0]) (t := 25) ?hr ?_; (case hd => rfl); (case hg => rfl); (case hr => first | (go_simp; done) | (go_simp; rfl)); intro gb516 hg w38 hbox hb; have BK516 := Aside0.mk (hbox); obtain ⟨GW516, nHB⟩ := geA hg hb; have GE516 := GW516; obtain ⟨NB507_516, NB516_507, nBK⟩ := nbA BK507 hg hb; replace BK507 := nBK; clear nBK; replace HB := nHB; clear nHB; clear hb hbox hg; have hnb39 := NB516_507.out; have hnc39 := NB507_516.out; have hcz40_0 := czZ BK516 0 (.bool false); have hcz40_1 := czZ BK516 1 (.int .i64 0); have hcz40_2 := czZ BK516 2 (.int .i64 0); have hcz40_3 := czZ BK516 3 (.int .i64 0); have hcz40_4 := czZ BK516 4 (.int .i64 0); have hcz40_5 := czZ BK516 5 (.int .i64 0); have hfz40_0 := blk_frozen BK516.out 0; have hfz40_1 := blk_frozen BK516.out 1; have hfz40_2 := blk_frozen BK516.out 2; have hfz40_3 := blk_frozen BK516.out 3; have hfz40_4 := blk_frozen BK516.out 4; have hfz40_5 := blk_frozen BK516.out 5))
        have n0_ : Aside0 (((((((w38.setCell ⟨gb516, 0, none⟩ (.bool t510)).setCell ⟨gb516, 1, none⟩ (.int .i64 t511)).setCell ⟨gb516, 2, none⟩ (.int .i64 t512)).setCell ⟨gb516, 3, none⟩ (.int .i64 t513)).setCell ⟨gb516, 4, none⟩ (.int .i64 t514)).setCell ⟨gb516, 5, none⟩ (.int .i64 t515)).heap[gb507]? = some (.cells #[.bool a0_0, .int .i64 a0_1, .int .i64 a0_2, .int .i64 a0_3, .int .i64 a0_4, .int .i64 a0_5] 25 (0, 0))) := ⟨by (with_reducible repeat first | apply blk_drewN | apply blk_drew | apply blk_alloc); refine blk_far ?_ NB507_516.out _; (with_reducible repeat first | apply blk_drewN | apply blk_drew | apply blk_alloc); refine blk_far ?_ NB507_516.out _; (with_reducible repeat first | apply blk_drewN | apply blk_drew | apply blk_alloc); refine blk_far ?_ NB507_516.out _; (with_reducible repeat first | apply blk_drewN | apply blk_drew | apply blk_alloc); refine blk_far ?_ NB507_516.out _; (with_reducible repeat first | apply blk_drewN | apply blk_drew | apply blk_alloc); refine blk_far ?_ NB507_516.out _; (with_reducible repeat first | apply blk_drewN | apply blk_drew | apply blk_alloc); refine blk_far ?_ NB507_516.out _; (with_reducible repeat first | apply blk_drewN | apply blk_drew | apply blk_alloc); exact BK507.out⟩
        have n1_ : Aside0 (((((((w38.setCell ⟨gb516, 0, none⟩ (.bool t510)).setCell ⟨gb516, 1, none⟩ (.int .i64 t511)).setCell ⟨gb516, 2, none⟩ (.int .i64 t512)).setCell ⟨gb516, 3, none⟩ (.int .i64 t513)).setCell ⟨gb516, 4, none⟩ (.int .i64 t514)).setCell ⟨gb516, 5, none⟩ (.int .i64 t515)).heap[gb516]? = some (.cells #[.bool t510, .int .i64 t511, .int .i64 t512, .int .i64 t513, .int .i64 t514, .int .i64 t515] 25 (0, 0))) := ⟨by (with_reducible repeat first | apply blk_drewN | apply blk_drew | apply blk_alloc); refine blk_put (cs := #[.bool t510, .int .i64 t511, .int .i64 t512, .int .i64 t513, .int .i64 t514, .int .i64 0]) ?_ 5 _ rfl; (with_reducible repeat first | apply blk_drewN | apply blk_drew | apply blk_alloc); refine blk_put (cs := #[.bool t510, .int .i64 t511, .int .i64 t512, .int .i64 t513, .int .i64 0, .int .i64 0]) ?_ 4 _ rfl; (with_reducible repeat first | apply blk_drewN | apply blk_drew | apply blk_alloc); refine blk_put (cs := #[.bool t510, .int .i64 t511, .int .i64 t512, .int .i64 0, .int .i64 0, .int .i64 0]) ?_ 3 _ rfl; (with_reducible repeat first | apply blk_drewN | apply blk_drew | apply blk_alloc); refine blk_put (cs := #[.bool t510, .int .i64 t511, .int .i64 0, .int .i64 0, .int .i64 0, .int .i64 0]) ?_ 2 _ rfl; (with_reducible repeat first | apply blk_drewN | apply blk_drew | apply blk_alloc); refine blk_put (cs := #[.bool t510, .int .i64 0, .int .i64 0, .int .i64 0, .int .i64 0, .int .i64 0]) ?_ 1 _ rfl; (with_reducible repeat first | apply blk_drewN | apply blk_drew | apply blk_alloc); refine blk_put (cs := #[.bool false, .int .i64 0, .int .i64 0, .int .i64 0, .int .i64 0, .int .i64 0]) ?_ 0 _ rfl; (with_reducible repeat first | apply blk_drewN | apply blk_drew | apply blk_alloc); exact BK516.out⟩
        have n2_ : Aside0 (Below w.heap.size w ((((((w38.setCell ⟨gb516, 0, none⟩ (.bool t510)).setCell ⟨gb516, 1, none⟩ (.int .i64 t511)).setCell ⟨gb516, 2, none⟩ (.int .i64 t512)).setCell ⟨gb516, 3, none⟩ (.int .i64 t513)).setCell ⟨gb516, 4, none⟩ (.int .i64 t514)).setCell ⟨gb516, 5, none⟩ (.int .i64 t515))) := ⟨by repeat (first | (with_reducible first | exact HB.out | apply below_alloc | apply pw_below_drewN | apply below_drew1 | refine below_set ?_ (Aside0.out (by assumption))) | exact HB.out)⟩
        (try clear BK507); (try clear BK516); (try clear HB)
        generalize ((((((w38.setCell ⟨gb516, 0, none⟩ (.bool t510)).setCell ⟨gb516, 1, none⟩ (.int .i64 t511)).setCell ⟨gb516, 2, none⟩ (.int .i64 t512)).setCell ⟨gb516, 3, none⟩ (.int .i64 t513)).setCell ⟨gb516, 4, none⟩ (.int .i64 t514)).setCell ⟨gb516, 5, none⟩ (.int .i64 t515)) = w41 at n0_ n1_ n2_ ⊢
        have BK507 := n0_; have BK516 := n1_; have HB := n2_; clear n0_ n1_ n2_; replace BK507 := Aside0.mk (blk_drew BK507.out); replace BK516 := Aside0.mk (blk_drew BK516.out); replace HB := Aside0.mk (below_drew1 HB.out); refine start_ (n := 45) (S := fun w' => w'.cell? ⟨gb516, 0, none⟩ = some (.bool t510) ∧ w'.cell? ⟨gb516, 1, none⟩ = some (.int .i64 t511) ∧ w'.cell? ⟨gb516, 2, none⟩ = some (.int .i64 t512) ∧ w'.cell? ⟨gb516, 3, none⟩ = some (.int .i64 t513) ∧ w'.cell? ⟨gb516, 4, none⟩ = some (.int .i64 t514) ∧ w'.cell? ⟨gb516, 5, none⟩ = some (.int .i64 t515) ∧ w'.cell? ⟨gb507, 0, none⟩ = some (.bool a0_0) ∧ w'.cell? ⟨gb507, 1, none⟩ = some (.int .i64 a0_1) ∧ w'.cell? ⟨gb507, 2, none⟩ = some (.int .i64 a0_2) ∧ w'.cell? ⟨gb507, 3, none⟩ = some (.int .i64 a0_3) ∧ w'.cell? ⟨gb507, 4, none⟩ = some (.int .i64 a0_4) ∧ w'.cell? ⟨gb507, 5, none⟩ = some (.int .i64 a0_5)) (ds := []) #[N,N,N,N,N,N,N,N,N,N,N,N,N,N,N,N,N,N,N,N,N,N,N,N,N,N,N,N,N,N,N,N,N,N,N,N,N,N,N,N,N,N,N,N,N] (by kernel_rfl) rfl rfl ⟨(blk_cell BK516.out 0).trans rfl, (blk_cell BK516.out 1).trans rfl, (blk_cell BK516.out 2).trans rfl, (blk_cell BK516.out 3).trans rfl, (blk_cell BK516.out 4).trans rfl, (blk_cell BK516.out 5).trans rfl, (blk_cell BK507.out 0).trans rfl, (blk_cell BK507.out 1).trans rfl, (blk_cell BK507.out 2).trans rfl, (blk_cell BK507.out 3).trans rfl, (blk_cell BK507.out 4).trans rfl, (blk_cell BK507.out 5).trans rfl⟩ (fun hHeld => ?_); refine with_tabW sawtoothlaw19_GuidePause.tab6 sawtoothlaw19_GuidePause.bits6 (fun HT_ HW_ => ?_)
        generalize w41.drew = w42 at BK507 BK516 HB hHeld ⊢
        refine pureA_ (i := 0) (N := some 27) #[Y,N,N,N,N,N,N,N,N,N,N,N,N,N,N,N,N,N,N,N,N,N,N,N,N,N,N,N,N,N,N,N,N,N,N,N,N,N,N,N,N,N,N,N,N] rfl rfl (any_of HT_.out (by kernel_rfl)) ?_
        refine pureA_ (i := 1) (N := some 28) #[Y,Y,N,N,N,N,N,N,N,N,N,N,N,N,N,N,N,N,N,N,N,N,N,N,N,N,N,N,N,N,N,N,N,N,N,N,N,N,N,N,N,N,N,N,N] rfl rfl (any_of HT_.out (by kernel_rfl)) ?_
        refine take_ (i := 2) (N := some 29) (v := ?_) (a' := ?_) #[Y,Y,Y,N,N,N,N,N,N,N,N,N,N,N,N,N,N,N,N,N,N,N,N,N,N,N,N,N,N,N,N,N,N,N,N,N,N,N,N,N,N,N,N,N,N] rfl rfl (take_ofW HT_.out HW_.out (by kernel_rfl)) (fun _ _ _ h => h) (Or.inl ⟨by rfl, ?_⟩) hHeld ?_ ?_; rotate_left
        ·rintro w' ⟨s0, s1, s2, s3, s4, s5, s6, s7, s8, s9, s10, s11⟩; go_simp
         with_reducible rfl
        rotate_left
        ·simp only [Act.put, sA, sB, sC, i64_w, i32_w]
         rfl
        refine one_ (i := 3) (N := some 30) #[Y,Y,Y,Y,N,N,N,N,N,N,N,N,N,N,N,N,N,N,N,N,N,N,N,N,N,N,N,N,N,N,N,N,N,N,N,N,N,N,N,N,N,N,N,N,N] rfl rfl (one_of HT_.out (by kernel_rfl)) (by decide) (fun K hK => ?_); refine goesA_ Tryd.func23 rfl #[.agg #[.bool t510, .int .i64 t511, .int .i64 t512, .int .i64 t513, .int .i64 t514, .int .i64 t515]] (by rfl) rfl rfl ?_
        (with_reducible refine (epoch_CheckS.calls t510 t511 t512 t513 t514 t515 true _ A10.out ?hT_).mono ?_); (case hT_ => exact tensB hL (by repeat (first | (with_reducible first | exact HB.out | apply below_alloc | apply pw_below_drewN | apply below_drew1 | refine below_set ?_ (Aside0.out (by assumption))) | exact HB.out)))
        rintro e w43 ⟨rfl, hb⟩; refine ⟨_, rfl, ?_⟩; replace BK507 := bbZ BK507 hb; replace BK516 := bbZ BK516 hb; replace HB := Aside0.mk (below_step HB.out hb); clear hb; refine hK.out _ _ ⟨(blk_cell BK516.out 0).trans rfl, (blk_cell BK516.out 1).trans rfl, (blk_cell BK516.out 2).trans rfl, (blk_cell BK516.out 3).trans rfl, (blk_cell BK516.out 4).trans rfl, (blk_cell BK516.out 5).trans rfl, (blk_cell BK507.out 0).trans rfl, (blk_cell BK507.out 1).trans rfl, (blk_cell BK507.out 2).trans rfl, (blk_cell BK507.out 3).trans rfl, (blk_cell BK507.out 4).trans rfl, (blk_cell BK507.out 5).trans rfl⟩ (fun hHeld => ?_); clear hK K; refine normA_ (some 30) ?_
        refine pureA_ (i := 4) (N := some 31) #[Y,Y,Y,Y,Y,N,N,N,N,N,N,N,N,N,N,N,N,N,N,N,N,N,N,N,N,N,N,N,N,N,N,N,N,N,N,N,N,N,N,N,N,N,N,N,N] rfl rfl (any_of HT_.out (by kernel_rfl)) ?_
        refine pureA_ (i := 5) (N := some 32) #[Y,Y,Y,Y,Y,Y,N,N,N,N,N,N,N,N,N,N,N,N,N,N,N,N,N,N,N,N,N,N,N,N,N,N,N,N,N,N,N,N,N,N,N,N,N,N,N] rfl rfl (any_of HT_.out (by kernel_rfl)) ?_
        refine pureA_ (i := 6) (N := some 33) #[Y,Y,Y,Y,Y,Y,Y,N,N,N,N,N,N,N,N,N,N,N,N,N,N,N,N,N,N,N,N,N,N,N,N,N,N,N,N,N,N,N,N,N,N,N,N,N,N] rfl rfl (any_of HT_.out (by kernel_rfl)) ?_
        refine pureA_ (i := 8) (N := some 35) #[Y,Y,Y,Y,Y,Y,Y,N,Y,N,N,N,N,N,N,N,N,N,N,N,N,N,N,N,N,N,N,N,N,N,N,N,N,N,N,N,N,N,N,N,N,N,N,N,N] rfl rfl (any_of HT_.out (by kernel_rfl)) ?_
        refine pureA_ (i := 10) (N := some 37) #[Y,Y,Y,Y,Y,Y,Y,N,Y,N,Y,N,N,N,N,N,N,N,N,N,N,N,N,N,N,N,N,N,N,N,N,N,N,N,N,N,N,N,N,N,N,N,N,N,N] rfl rfl (any_of HT_.out (by kernel_rfl)) ?_
        refine pureA_ (i := 15) (N := some 42) #[Y,Y,Y,Y,Y,Y,Y,N,Y,N,Y,N,N,N,N,Y,N,N,N,N,N,N,N,N,N,N,N,N,N,N,N,N,N,N,N,N,N,N,N,N,N,N,N,N,N] rfl rfl (any_of HT_.out (by kernel_rfl)) ?_
        refine take_ (i := 7) (N := some 34) (v := ?_) (a' := ?_) #[Y,Y,Y,Y,Y,Y,Y,Y,Y,N,Y,N,N,N,N,Y,N,N,N,N,N,N,N,N,N,N,N,N,N,N,N,N,N,N,N,N,N,N,N,N,N,N,N,N,N] rfl rfl (take_ofW HT_.out HW_.out (by kernel_rfl)) (fun _ _ _ h => h) (Or.inl ⟨by rfl, ?_⟩) hHeld ?_ ?_; rotate_left
        ·rintro w' ⟨s0, s1, s2, s3, s4, s5, s6, s7, s8, s9, s10, s11⟩; go_simp
         with_reducible rfl
        rotate_left
        ·simp only [Act.put, sA, sB, sC, i64_w, i32_w]
         rfl
        refine take_ (i := 9) (N := some 36) (v := ?_) (a' := ?_) #[Y,Y,Y,Y,Y,Y,Y,Y,Y,Y,Y,N,N,N,N,Y,N,N,N,N,N,N,N,N,N,N,N,N,N,N,N,N,N,N,N,N,N,N,N,N,N,N,N,N,N] rfl rfl (take_ofW HT_.out HW_.out (by kernel_rfl)) (fun _ _ _ h => h) (Or.inl ⟨by rfl, ?_⟩) hHeld ?_ ?_; rotate_left
        ·rintro w' ⟨s0, s1, s2, s3, s4, s5, s6, s7, s8, s9, s10, s11⟩; go_simp
         with_reducible rfl
        rotate_left
        ·simp only [Act.put, sA, sB, sC, i64_w, i32_w]
         rfl
        refine take_ (i := 11) (N := some 38) (v := ?_) (a' := ?_) #[Y,Y,Y,Y,Y,Y,Y,Y,Y,Y,Y,Y,N,N,N,Y,N,N,N,N,N,N,N,N,N,N,N,N,N,N,N,N,N,N,N,N,N,N,N,N,N,N,N,N,N] rfl rfl (take_ofW HT_.out HW_.out (by kernel_rfl)) (fun _ _ _ h => h) (Or.inl ⟨by rfl, ?_⟩) hHeld ?_ ?_; rotate_left
        ·rintro w' ⟨s0, s1, s2, s3, s4, s5, s6, s7, s8, s9, s10, s11⟩; go_simp
         with_reducible rfl
        rotate_left
        ·simp only [Act.put, sA, sB, sC, i64_w, i32_w]
         rfl
        refine take_ (i := 16) (N := some 43) (v := ?_) (a' := ?_) #[Y,Y,Y,Y,Y,Y,Y,Y,Y,Y,Y,Y,N,N,N,Y,Y,N,N,N,N,N,N,N,N,N,N,N,N,N,N,N,N,N,N,N,N,N,N,N,N,N,N,N,N] rfl rfl (take_ofW HT_.out HW_.out (by kernel_rfl)) (fun _ _ _ h => h) (Or.inl ⟨by rfl, ?_⟩) hHeld ?_ ?_; rotate_left
        ·rintro w' ⟨s0, s1, s2, s3, s4, s5, s6, s7, s8, s9, s10, s11⟩; go_simp
         with_reducible rfl
        rotate_left
        ·simp only [Act.put, sA, sB, sC, i64_w, i32_w]
         rfl
        refine pureA_ (i := 17) (N := some 44) #[Y,Y,Y,Y,Y,Y,Y,Y,Y,Y,Y,Y,N,N,N,Y,Y,Y,N,N,N,N,N,N,N,N,N,N,N,N,N,N,N,N,N,N,N,N,N,N,N,N,N,N,N] rfl rfl (any_of HT_.out (by kernel_rfl)) ?_
        refine one_ (i := 12) (N := some 39) #[Y,Y,Y,Y,Y,Y,Y,Y,Y,Y,Y,Y,Y,N,N,Y,Y,Y,N,N,N,N,N,N,N,N,N,N,N,N,N,N,N,N,N,N,N,N,N,N,N,N,N,N,N] rfl rfl (one_of HT_.out (by kernel_rfl)) (by decide) (fun K hK => ?_); refine goesA_ Tryd.func24 rfl #[.agg #[.bool a0_0, .int .i64 a0_1, .int .i64 a0_2, .int .i64 a0_3, .int .i64 a0_4, .int .i64 a0_5]] (by rfl) rfl rfl ?_
        with_reducible refine (sawtoothlaw19_on.calls a0_0 a0_1 a0_2 a0_3 a0_4 a0_5 t518 _ A12.out).mono ?_
        rintro e w44 ⟨rfl, hb⟩; refine ⟨_, rfl, ?_⟩; replace BK507 := bbZ BK507 hb; replace BK516 := bbZ BK516 hb; replace HB := Aside0.mk (below_step HB.out hb); clear hb; refine hK.out _ _ ⟨(blk_cell BK516.out 0).trans rfl, (blk_cell BK516.out 1).trans rfl, (blk_cell BK516.out 2).trans rfl, (blk_cell BK516.out 3).trans rfl, (blk_cell BK516.out 4).trans rfl, (blk_cell BK516.out 5).trans rfl, (blk_cell BK507.out 0).trans rfl, (blk_cell BK507.out 1).trans rfl, (blk_cell BK507.out 2).trans rfl, (blk_cell BK507.out 3).trans rfl, (blk_cell BK507.out 4).trans rfl, (blk_cell BK507.out 5).trans rfl⟩ (fun hHeld => ?_); clear hK K; refine normA_ (some 39) ?_
        refine pureA_ (i := 13) (N := some 40) #[Y,Y,Y,Y,Y,Y,Y,Y,Y,Y,Y,Y,Y,Y,N,Y,Y,Y,N,N,N,N,N,N,N,N,N,N,N,N,N,N,N,N,N,N,N,N,N,N,N,N,N,N,N] rfl rfl (any_of HT_.out (by kernel_rfl)) ?_
        refine pureA_ (i := 14) (N := some 41) #[Y,Y,Y,Y,Y,Y,Y,Y,Y,Y,Y,Y,Y,Y,Y,Y,Y,Y,N,N,N,N,N,N,N,N,N,N,N,N,N,N,N,N,N,N,N,N,N,N,N,N,N,N,N] rfl rfl (any_of HT_.out (by kernel_rfl)) ?_
        refine pureA_ (i := 18) (N := some 45) #[Y,Y,Y,Y,Y,Y,Y,Y,Y,Y,Y,Y,Y,Y,Y,Y,Y,Y,Y,N,N,N,N,N,N,N,N,N,N,N,N,N,N,N,N,N,N,N,N,N,N,N,N,N,N] rfl rfl (any_of HT_.out (by kernel_rfl)) ?_
        refine pureA_ (i := 19) (N := some 46) #[Y,Y,Y,Y,Y,Y,Y,Y,Y,Y,Y,Y,Y,Y,Y,Y,Y,Y,Y,Y,N,N,N,N,N,N,N,N,N,N,N,N,N,N,N,N,N,N,N,N,N,N,N,N,N] rfl rfl (any_of HT_.out (by kernel_rfl)) ?_
        refine pureA_ (i := 20) (N := some 47) #[Y,Y,Y,Y,Y,Y,Y,Y,Y,Y,Y,Y,Y,Y,Y,Y,Y,Y,Y,Y,Y,N,N,N,N,N,N,N,N,N,N,N,N,N,N,N,N,N,N,N,N,N,N,N,N] rfl rfl (any_of HT_.out (by kernel_rfl)) ?_
        refine pureA_ (i := 21) (N := some 48) #[Y,Y,Y,Y,Y,Y,Y,Y,Y,Y,Y,Y,Y,Y,Y,Y,Y,Y,Y,Y,Y,Y,N,N,N,N,N,N,N,N,N,N,N,N,N,N,N,N,N,N,N,N,N,N,N] rfl rfl (any_of HT_.out (by kernel_rfl)) ?_
        refine pureA_ (i := 22) (N := some 49) #[Y,Y,Y,Y,Y,Y,Y,Y,Y,Y,Y,Y,Y,Y,Y,Y,Y,Y,Y,Y,Y,Y,Y,N,N,N,N,N,N,N,N,N,N,N,N,N,N,N,N,N,N,N,N,N,N] rfl rfl (any_of HT_.out (by kernel_rfl)) ?_
        refine pureA_ (i := 24) (N := some 51) #[Y,Y,Y,Y,Y,Y,Y,Y,Y,Y,Y,Y,Y,Y,Y,Y,Y,Y,Y,Y,Y,Y,Y,N,Y,N,N,N,N,N,N,N,N,N,N,N,N,N,N,N,N,N,N,N,N] rfl rfl (any_of HT_.out (by kernel_rfl)) ?_
        refine take_ (i := 23) (N := some 50) (v := ?_) (a' := ?_) #[Y,Y,Y,Y,Y,Y,Y,Y,Y,Y,Y,Y,Y,Y,Y,Y,Y,Y,Y,Y,Y,Y,Y,Y,Y,N,N,N,N,N,N,N,N,N,N,N,N,N,N,N,N,N,N,N,N] rfl rfl (take_ofW HT_.out HW_.out (by kernel_rfl)) (fun _ _ _ h => h) (Or.inl ⟨by rfl, ?_⟩) hHeld ?_ ?_; rotate_left
        ·rintro w' ⟨s0, s1, s2, s3, s4, s5, s6, s7, s8, s9, s10, s11⟩; go_simp
         with_reducible rfl
        rotate_left
        ·simp only [Act.put, sA, sB, sC, i64_w, i32_w]
         rfl
        refine take_ (i := 25) (N := some 52) (v := ?_) (a' := ?_) #[Y,Y,Y,Y,Y,Y,Y,Y,Y,Y,Y,Y,Y,Y,Y,Y,Y,Y,Y,Y,Y,Y,Y,Y,Y,Y,N,N,N,N,N,N,N,N,N,N,N,N,N,N,N,N,N,N,N] rfl rfl (take_ofW HT_.out HW_.out (by kernel_rfl)) (fun _ _ _ h => h) (Or.inl ⟨by rfl, ?_⟩) hHeld ?_ ?_; rotate_left
        ·rintro w' ⟨s0, s1, s2, s3, s4, s5, s6, s7, s8, s9, s10, s11⟩; go_simp
         with_reducible rfl
        rotate_left
        ·simp only [Act.put, sA, sB, sC, i64_w, i32_w]
         rfl
        refine pureA_ (i := 26) (N := some 53) #[Y,Y,Y,Y,Y,Y,Y,Y,Y,Y,Y,Y,Y,Y,Y,Y,Y,Y,Y,Y,Y,Y,Y,Y,Y,Y,Y,N,N,N,N,N,N,N,N,N,N,N,N,N,N,N,N,N,N] rfl rfl (any_of HT_.out (by kernel_rfl)) ?_
        refine pureA_ (i := 27) (N := some 54) #[Y,Y,Y,Y,Y,Y,Y,Y,Y,Y,Y,Y,Y,Y,Y,Y,Y,Y,Y,Y,Y,Y,Y,Y,Y,Y,Y,Y,N,N,N,N,N,N,N,N,N,N,N,N,N,N,N,N,N] rfl rfl (any_of HT_.out (by kernel_rfl)) ?_
        refine pureA_ (i := 28) (N := some 55) #[Y,Y,Y,Y,Y,Y,Y,Y,Y,Y,Y,Y,Y,Y,Y,Y,Y,Y,Y,Y,Y,Y,Y,Y,Y,Y,Y,Y,Y,N,N,N,N,N,N,N,N,N,N,N,N,N,N,N,N] rfl rfl (any_of HT_.out (by kernel_rfl)) ?_
        refine pureA_ (i := 29) (N := some 56) #[Y,Y,Y,Y,Y,Y,Y,Y,Y,Y,Y,Y,Y,Y,Y,Y,Y,Y,Y,Y,Y,Y,Y,Y,Y,Y,Y,Y,Y,Y,N,N,N,N,N,N,N,N,N,N,N,N,N,N,N] rfl rfl (any_of HT_.out (by kernel_rfl)) ?_
        refine pureA_ (i := 31) (N := some 58) #[Y,Y,Y,Y,Y,Y,Y,Y,Y,Y,Y,Y,Y,Y,Y,Y,Y,Y,Y,Y,Y,Y,Y,Y,Y,Y,Y,Y,Y,Y,N,Y,N,N,N,N,N,N,N,N,N,N,N,N,N] rfl rfl (any_of HT_.out (by kernel_rfl)) ?_
        refine take_ (i := 30) (N := some 57) (v := ?_) (a' := ?_) #[Y,Y,Y,Y,Y,Y,Y,Y,Y,Y,Y,Y,Y,Y,Y,Y,Y,Y,Y,Y,Y,Y,Y,Y,Y,Y,Y,Y,Y,Y,Y,Y,N,N,N,N,N,N,N,N,N,N,N,N,N] rfl rfl (take_ofW HT_.out HW_.out (by kernel_rfl)) (fun _ _ _ h => h) (Or.inl ⟨by rfl, ?_⟩) hHeld ?_ ?_; rotate_left
        ·rintro w' ⟨s0, s1, s2, s3, s4, s5, s6, s7, s8, s9, s10, s11⟩; go_simp
         with_reducible rfl
        rotate_left
        ·simp only [Act.put, sA, sB, sC, i64_w, i32_w]
         rfl
        refine take_ (i := 32) (N := some 59) (v := ?_) (a' := ?_) #[Y,Y,Y,Y,Y,Y,Y,Y,Y,Y,Y,Y,Y,Y,Y,Y,Y,Y,Y,Y,Y,Y,Y,Y,Y,Y,Y,Y,Y,Y,Y,Y,Y,N,N,N,N,N,N,N,N,N,N,N,N] rfl rfl (take_ofW HT_.out HW_.out (by kernel_rfl)) (fun _ _ _ h => h) (Or.inl ⟨by rfl, ?_⟩) hHeld ?_ ?_; rotate_left
        ·rintro w' ⟨s0, s1, s2, s3, s4, s5, s6, s7, s8, s9, s10, s11⟩; go_simp
         with_reducible rfl
        rotate_left
        ·simp only [Act.put, sA, sB, sC, i64_w, i32_w]
         rfl
        refine pureA_ (i := 33) (N := some 60) #[Y,Y,Y,Y,Y,Y,Y,Y,Y,Y,Y,Y,Y,Y,Y,Y,Y,Y,Y,Y,Y,Y,Y,Y,Y,Y,Y,Y,Y,Y,Y,Y,Y,Y,N,N,N,N,N,N,N,N,N,N,N] rfl rfl (any_of HT_.out (by kernel_rfl)) ?_
        refine pureA_ (i := 34) (N := some 61) #[Y,Y,Y,Y,Y,Y,Y,Y,Y,Y,Y,Y,Y,Y,Y,Y,Y,Y,Y,Y,Y,Y,Y,Y,Y,Y,Y,Y,Y,Y,Y,Y,Y,Y,Y,N,N,N,N,N,N,N,N,N,N] rfl rfl (any_of HT_.out (by kernel_rfl)) ?_
        refine pureA_ (i := 35) (N := some 62) #[Y,Y,Y,Y,Y,Y,Y,Y,Y,Y,Y,Y,Y,Y,Y,Y,Y,Y,Y,Y,Y,Y,Y,Y,Y,Y,Y,Y,Y,Y,Y,Y,Y,Y,Y,Y,N,N,N,N,N,N,N,N,N] rfl rfl (any_of HT_.out (by kernel_rfl)) ?_
        refine pureA_ (i := 36) (N := some 63) #[Y,Y,Y,Y,Y,Y,Y,Y,Y,Y,Y,Y,Y,Y,Y,Y,Y,Y,Y,Y,Y,Y,Y,Y,Y,Y,Y,Y,Y,Y,Y,Y,Y,Y,Y,Y,Y,N,N,N,N,N,N,N,N] rfl rfl (any_of HT_.out (by kernel_rfl)) ?_
        refine pureA_ (i := 37) (N := some 64) #[Y,Y,Y,Y,Y,Y,Y,Y,Y,Y,Y,Y,Y,Y,Y,Y,Y,Y,Y,Y,Y,Y,Y,Y,Y,Y,Y,Y,Y,Y,Y,Y,Y,Y,Y,Y,Y,Y,N,N,N,N,N,N,N] rfl rfl (any_of HT_.out (by kernel_rfl)) ?_
        refine pureA_ (i := 38) (N := some 65) #[Y,Y,Y,Y,Y,Y,Y,Y,Y,Y,Y,Y,Y,Y,Y,Y,Y,Y,Y,Y,Y,Y,Y,Y,Y,Y,Y,Y,Y,Y,Y,Y,Y,Y,Y,Y,Y,Y,Y,N,N,N,N,N,N] rfl rfl (any_of HT_.out (by kernel_rfl)) ?_
        refine take_ (i := 39) (N := some 66) (v := ?_) (a' := ?_) #[Y,Y,Y,Y,Y,Y,Y,Y,Y,Y,Y,Y,Y,Y,Y,Y,Y,Y,Y,Y,Y,Y,Y,Y,Y,Y,Y,Y,Y,Y,Y,Y,Y,Y,Y,Y,Y,Y,Y,Y,N,N,N,N,N] rfl rfl (take_ofW HT_.out HW_.out (by kernel_rfl)) (fun _ _ _ h => h) (Or.inl ⟨by rfl, ?_⟩) hHeld ?_ ?_; rotate_left
        ·rintro w' ⟨s0, s1, s2, s3, s4, s5, s6, s7, s8, s9, s10, s11⟩; go_simp
         with_reducible rfl
        rotate_left
        ·simp only [Act.put, sA, sB, sC, i64_w, i32_w]
         rfl
        refine take_ (i := 40) (N := some 67) (v := ?_) (a' := ?_) #[Y,Y,Y,Y,Y,Y,Y,Y,Y,Y,Y,Y,Y,Y,Y,Y,Y,Y,Y,Y,Y,Y,Y,Y,Y,Y,Y,Y,Y,Y,Y,Y,Y,Y,Y,Y,Y,Y,Y,Y,Y,N,N,N,N] rfl rfl (take_ofW HT_.out HW_.out (by kernel_rfl)) (fun _ _ _ h => h) (Or.inl ⟨by rfl, ?_⟩) hHeld ?_ ?_; rotate_left
        ·rintro w' ⟨s0, s1, s2, s3, s4, s5, s6, s7, s8, s9, s10, s11⟩; go_simp
         with_reducible rfl
        rotate_left
        ·simp only [Act.put, sA, sB, sC, i64_w, i32_w]
         rfl
        refine pureA_ (i := 41) (N := some 68) #[Y,Y,Y,Y,Y,Y,Y,Y,Y,Y,Y,Y,Y,Y,Y,Y,Y,Y,Y,Y,Y,Y,Y,Y,Y,Y,Y,Y,Y,Y,Y,Y,Y,Y,Y,Y,Y,Y,Y,Y,Y,Y,N,N,N] rfl rfl (any_of HT_.out (by kernel_rfl)) ?_
        refine pureA_ (i := 42) (N := some 69) #[Y,Y,Y,Y,Y,Y,Y,Y,Y,Y,Y,Y,Y,Y,Y,Y,Y,Y,Y,Y,Y,Y,Y,Y,Y,Y,Y,Y,Y,Y,Y,Y,Y,Y,Y,Y,Y,Y,Y,Y,Y,Y,Y,N,N] rfl rfl (any_of HT_.out (by kernel_rfl)) ?_
        refine pureA_ (i := 43) (N := some 70) #[Y,Y,Y,Y,Y,Y,Y,Y,Y,Y,Y,Y,Y,Y,Y,Y,Y,Y,Y,Y,Y,Y,Y,Y,Y,Y,Y,Y,Y,Y,Y,Y,Y,Y,Y,Y,Y,Y,Y,Y,Y,Y,Y,Y,N] rfl rfl (any_of HT_.out (by kernel_rfl)) ?_
        refine pureA_ (i := 44) (N := some 6) #[Y,Y,Y,Y,Y,Y,Y,Y,Y,Y,Y,Y,Y,Y,Y,Y,Y,Y,Y,Y,Y,Y,Y,Y,Y,Y,Y,Y,Y,Y,Y,Y,Y,Y,Y,Y,Y,Y,Y,Y,Y,Y,Y,Y,Y] rfl rfl (any_of HT_.out (by kernel_rfl)) ?_
        refine done_ (done_of HT_.out (by kernel_rfl)) ?_
        try go_wp2
        go_ret
        exact ⟨by first | rfl | (simp [errW_none, errW_some] <;> rfl) | (simp only [← hji8, ← hji13, ← hji14]; first | rfl | (simp [errW_none, errW_some] <;> rfl)) | (simp [*, errW_none, errW_some] <;> rfl), by repeat (first | (with_reducible first | exact HB.out | apply below_alloc | apply pw_below_drewN | apply below_drew1 | refine below_set ?_ (Aside0.out (by assumption))) | exact HB.out)⟩
      ·rw [if_neg c17] at H
       have c17b0 : (t514 == a0_4) = false := beq_eq_false_iff_ne.mpr c17; have c17b1 : (t514 != a0_4) = true := bne_iff_ne.mpr c17; exact absurd H (by simp)
     ·rw [if_neg c16] at H
      have c16b0 : (t513 == a0_3) = false := beq_eq_false_iff_ne.mpr c16; have c16b1 : (t513 != a0_3) = true := bne_iff_ne.mpr c16; exact absurd H (by simp)
    ·rw [if_neg c15] at H
     have c15b0 : (t511 == (ji14)) = false := beq_eq_false_iff_ne.mpr c15; have c15b1 : (t511 != (ji14)) = true := bne_iff_ne.mpr c15; exact absurd H (by simp)
   ·replace c11 := Bool.eq_false_iff.mpr c11
    subst c11
    have H1 : (none) = some r := by rw [if_neg (show ¬ (false = true) by decide)] at H; exact H
    clear H; have H := H1; clear H1; exact absurd H (by simp)
  ·replace c9 := Bool.eq_false_iff.mpr c9
   subst c9
   have H1 : (none) = some r := by rw [if_neg (show ¬ (false = true) by decide)] at H; exact H
   clear H; have H := H1; clear H1; exact absurd H (by simp)
 ·replace c6 := Bool.eq_false_iff.mpr c6
  subst c6
  have H1 : (some t508) = some r := by rw [if_neg (show ¬ (false = true) by decide)] at H; exact H
  clear H; have H := H1; clear H1; obtain rfl := Option.some.inj H
  go_enter Tryd.func8, Tryd.ntmps8
  go_wp2_with (first | ((with_reducible refine gate_dst (N := 3) rfl ?_); refine box_event ?hg (N := 3) ?hd (cs := #[.bool a0_0, .int .i64 a0_1, .int .i64 a0_2, .int .i64 a0_3, .int .i64 a0_4, .int .i64 a0_5]) (t := 25) ?hr ?_; (case hd => rfl); (case hg => rfl); (case hr => first | (go_simp; done) | (go_simp; rfl)); intro gb507 hg w45 hbox hb; have BK507 := Aside0.mk (hbox); obtain ⟨GW507, nHB⟩ := geA hg hb; have GE507 := GW507; replace HB := nHB; clear nHB; clear hb hbox hg) | ((with_reducible refine gate_callee (f := 9) rfl ?_); refine goesLA_ (some 10) rfl rfl Tryd.func9 rfl #[] rfl ?_; (with_reducible refine (sawtoothlaw19_awakeS.calls  t508 _ A4.out ?hT_).mono ?_); (case hT_ => exact tensB hL (by repeat (first | (with_reducible first | exact HB.out | apply below_alloc | apply pw_below_drewN | apply below_drew1 | refine below_set ?_ (Aside0.out (by assumption))) | exact HB.out))); rintro e w46 ⟨rfl, hb⟩; refine ⟨_, rfl, ?_⟩; replace BK507 := bdZ BK507 hb; replace HB := stA hb; clear hb; have hcz47_0 := czZ BK507 0 (.bool a0_0); have hcz47_1 := czZ BK507 1 (.int .i64 a0_1); have hcz47_2 := czZ BK507 2 (.int .i64 a0_2); have hcz47_3 := czZ BK507 3 (.int .i64 a0_3); have hcz47_4 := czZ BK507 4 (.int .i64 a0_4); have hcz47_5 := czZ BK507 5 (.int .i64 a0_5); have hfz47_0 := blk_frozen BK507.out 0; have hfz47_1 := blk_frozen BK507.out 1; have hfz47_2 := blk_frozen BK507.out 2; have hfz47_3 := blk_frozen BK507.out 3; have hfz47_4 := blk_frozen BK507.out 4; have hfz47_5 := blk_frozen BK507.out 5) | ((with_reducible refine gate_callee (f := 23) rfl ?_); refine goesLA_ (some 12) rfl rfl Tryd.func23 rfl #[.agg #[.bool a0_0, .int .i64 a0_1, .int .i64 a0_2, .int .i64 a0_3, .int .i64 a0_4, .int .i64 a0_5]] rfl ?_; (with_reducible refine (epoch_CheckS.calls a0_0 a0_1 a0_2 a0_3 a0_4 a0_5 false _ A5.out ?hT_).mono ?_); (case hT_ => exact tensB hL (by repeat (first | (with_reducible first | exact HB.out | apply below_alloc | apply pw_below_drewN | apply below_drew1 | refine below_set ?_ (Aside0.out (by assumption))) | exact HB.out))); rintro e w48 ⟨rfl, hb⟩; refine ⟨_, rfl, ?_⟩; replace BK507 := bdZ BK507 hb; replace HB := stA hb; clear hb))
  go_ret
  exact ⟨by first | rfl | (simp [errW_none, errW_some] <;> rfl) | (simp [*, errW_none, errW_some] <;> rfl), by repeat (first | (with_reducible first | exact HB.out | apply below_alloc | apply pw_below_drewN | apply below_drew1 | refine below_set ?_ GE507.out) | exact HB.out)⟩

end Go.Proofs.YtbpcfamjidjhjaaDoor.Px
