/- Printed by a program of this session (wip/tool/px.py), over the kit's print: for each Go function a Lean function, and the proof that the machine's call answers as that function says. Conditions: none beside what the theorems state. -/
import Derived.Test.YtkoeehacildioaaPx0
import Derived.Test.YtkoeehacildioaaPx9
import Derived.Test.YtkoeehacildioaaPx13
import Derived.Test.YtkoeehacildioaaPx21
import Derived.Test.YtkoeehacildioaaPx23
import Derived.Test.YtkoeehacildioaaPx27
namespace Go.Proofs.Ytkoeehacildioaa.Px
open Go.RowKit Go.Proofs.YtkoeehacildioaaW.PrintWords Go.Proofs.YtkoeehacildioaaW.PrintLast Go.Proofs.YtkoeehacildioaaW.PrintMore
attribute [local go_sem] max2_int min2_int max_two min_two max_three min_three max_four min_four   -- for this text's walks alone
set_option linter.unusedVariables false
set_option linter.unusedSimpArgs false

/-! ### sawtoothlaw02_BigOrder: function 7 -/
mutual
noncomputable def sawtoothlaw02_BigOrder.j0 : Nat → Int → Int → Bool → Int → Int → Int → Bool → Bool → Int → Int → Bool → Int → Int → Bool → Int → Int → Bool → Int → Int → Option (Bool)
 | 0, _, _, _, _, _, _, _, _, _, _, _, _, _, _, _, _, _, _, _ => none
 | k + 1, x3, x4, x11, x12, x14, x16, x17, x319000, x319001, x319002, x320000, x320001, x320002, x328000, x328001, x328002, x333000, x333001, x333002 => if x3 < x4 then ((big_OfS.f x3).bind fun bt335 => ((big_OfS.f x4).bind fun bt338 => ((big_CmpS.f bt335.1 bt335.2.1 bt335.2.2 bt338.1 bt338.2.1 bt338.2.2).bind fun t341 => (if t341 = (-1) then (sawtoothlaw02_BigOrder.j1 k x11 x12 x14 x16 x17 true x319000 x319001 x319002 x320000 x320001 x320002 x328000 x328001 x328002 x333000 x333001 x333002) else (if x3 = x4 then (none) else (if x3 > x4 then (none) else (sawtoothlaw02_BigOrder.j1 k x11 x12 x14 x16 x17 false x319000 x319001 x319002 x320000 x320001 x320002 x328000 x328001 x328002 x333000 x333001 x333002))))))) else (if x3 = x4 then ((big_OfS.f x3).bind fun bt342 => ((big_OfS.f x4).bind fun bt345 => ((big_CmpS.f bt342.1 bt342.2.1 bt342.2.2 bt345.1 bt345.2.1 bt345.2.2).bind fun t348 => (if t348 = 0 then (sawtoothlaw02_BigOrder.j1 k x11 x12 x14 x16 x17 true x319000 x319001 x319002 x320000 x320001 x320002 x328000 x328001 x328002 x333000 x333001 x333002) else (if x3 > x4 then (none) else (sawtoothlaw02_BigOrder.j1 k x11 x12 x14 x16 x17 false x319000 x319001 x319002 x320000 x320001 x320002 x328000 x328001 x328002 x333000 x333001 x333002)))))) else (if x3 > x4 then ((big_OfS.f x3).bind fun bt349 => ((big_OfS.f x4).bind fun bt352 => ((big_CmpS.f bt349.1 bt349.2.1 bt349.2.2 bt352.1 bt352.2.1 bt352.2.2).bind fun t355 => (sawtoothlaw02_BigOrder.j1 k x11 x12 x14 x16 x17 (t355 == 1) x319000 x319001 x319002 x320000 x320001 x320002 x328000 x328001 x328002 x333000 x333001 x333002)))) else (sawtoothlaw02_BigOrder.j1 k x11 x12 x14 x16 x17 false x319000 x319001 x319002 x320000 x320001 x320002 x328000 x328001 x328002 x333000 x333001 x333002)))
noncomputable def sawtoothlaw02_BigOrder.j1 : Nat → Bool → Int → Int → Int → Bool → Bool → Bool → Int → Int → Bool → Int → Int → Bool → Int → Int → Bool → Int → Int → Option (Bool)
 | 0, _, _, _, _, _, _, _, _, _, _, _, _, _, _, _, _, _, _ => none
 | k + 1, x11, x12, x14, x16, x17, x18, x319000, x319001, x319002, x320000, x320001, x320002, x328000, x328001, x328002, x333000, x333001, x333002 => if x11 = true then ((big_CmpS.f x320000 x320001 x320002 x319000 x319001 x319002).bind fun t356 => (if x12 = (wrap64 (-t356)) then ((big_NegS.f x319000 x319001 x319002).bind fun bt357 => ((big_NegS.f x320000 x320001 x320002).bind fun bt360 => ((big_CmpS.f bt357.1 bt357.2.1 bt357.2.2 bt360.1 bt360.2.1 bt360.2.2).bind fun t363 => (if t363 = (wrap64 (-x12)) then (if x17 = true then (if x18 = true then (if x14 = 0 then (if x16 = 0 then ((big_CmpS.f x328000 x328001 x328002 x333000 x333001 x333002).bind fun t364 => (some (t364 == x12))) else (some true)) else (some true)) else (none)) else (none)) else (none))))) else (none))) else (none)
end
noncomputable def sawtoothlaw02_BigOrder.f (k : Nat) (a0_0 : Bool) (a0_1 : Int) (a0_2 : Int) (a1_0 : Bool) (a1_1 : Int) (a1_2 : Int) (a2_0 : Bool) (a2_1 : Int) (a2_2 : Int) (a3 : Int) (a4 : Int) : Option (Bool) := (sawtoothlaw02_awakeS.f).bind fun t321 => ((big_CmpS.f a0_0 a0_1 a0_2 a1_0 a1_1 a1_2).bind fun t322 => ((big_AddS.f a0_0 a0_1 a0_2 a2_0 a2_1 a2_2).bind fun bt323 => ((big_AddS.f a1_0 a1_1 a1_2 a2_0 a2_1 a2_2).bind fun bt328 => (if t322 ≤ 0 then (sawtoothlaw02_BigOrder.j0 k a3 a4 t321 t322 bt323.2.2.2 bt328.2.2.2 true a0_0 a0_1 a0_2 a1_0 a1_1 a1_2 bt323.1 bt323.2.1 bt323.2.2.1 bt328.1 bt328.2.1 bt328.2.2.1) else ((big_CmpS.f a1_0 a1_1 a1_2 a2_0 a2_1 a2_2).bind fun t333 => (if t333 ≤ 0 then (sawtoothlaw02_BigOrder.j0 k a3 a4 t321 t322 bt323.2.2.2 bt328.2.2.2 true a0_0 a0_1 a0_2 a1_0 a1_1 a1_2 bt323.1 bt323.2.1 bt323.2.2.1 bt328.1 bt328.2.1 bt328.2.2.1) else ((big_CmpS.f a0_0 a0_1 a0_2 a2_0 a2_1 a2_2).bind fun t334 => (sawtoothlaw02_BigOrder.j0 k a3 a4 t321 t322 bt323.2.2.2 bt328.2.2.2 (decide (t334 > 0)) a0_0 a0_1 a0_2 a1_0 a1_1 a1_2 bt323.1 bt323.2.1 bt323.2.2.1 bt328.1 bt328.2.1 bt328.2.2.1))))))))
theorem sawtoothlaw02_BigOrder.mono_l : ∀ k, (∀ y0 y1 y2 y3 y4 y5 y6 y7 y8 y9 y10 y11 y12 y13 y14 y15 y16 y17 y18, LeO (sawtoothlaw02_BigOrder.j0 k y0 y1 y2 y3 y4 y5 y6 y7 y8 y9 y10 y11 y12 y13 y14 y15 y16 y17 y18) (sawtoothlaw02_BigOrder.j0 (k + 1) y0 y1 y2 y3 y4 y5 y6 y7 y8 y9 y10 y11 y12 y13 y14 y15 y16 y17 y18)) ∧ (∀ y0 y1 y2 y3 y4 y5 y6 y7 y8 y9 y10 y11 y12 y13 y14 y15 y16 y17, LeO (sawtoothlaw02_BigOrder.j1 k y0 y1 y2 y3 y4 y5 y6 y7 y8 y9 y10 y11 y12 y13 y14 y15 y16 y17) (sawtoothlaw02_BigOrder.j1 (k + 1) y0 y1 y2 y3 y4 y5 y6 y7 y8 y9 y10 y11 y12 y13 y14 y15 y16 y17))
 | 0 => ⟨fun _ _ _ _ _ _ _ _ _ _ _ _ _ _ _ _ _ _ _ r h => by simp [sawtoothlaw02_BigOrder.j0] at h, fun _ _ _ _ _ _ _ _ _ _ _ _ _ _ _ _ _ _ r h => by simp [sawtoothlaw02_BigOrder.j1] at h⟩
 | k + 1 => by
  obtain ⟨ih0, ih1⟩ := sawtoothlaw02_BigOrder.mono_l k; refine ⟨?_, ?_⟩
  ·intro y0 y1 y2 y3 y4 y5 y6 y7 y8 y9 y10 y11 y12 y13 y14 y15 y16 y17 y18
   unfold sawtoothlaw02_BigOrder.j0
   repeat' first
   | (with_reducible exact ih0 _ _ _ _ _ _ _ _ _ _ _ _ _ _ _ _ _ _ _)
   | (with_reducible exact ih1 _ _ _ _ _ _ _ _ _ _ _ _ _ _ _ _ _ _)
   | (with_reducible exact LeO.refl _)
   | (with_reducible exact LeO.none _)
   | (with_reducible refine LeO.ite ?_ ?_)
   | (with_reducible refine LeO.bind ?_ (fun _ => ?_))
   | exact ih0 _ _ _ _ _ _ _ _ _ _ _ _ _ _ _ _ _ _ _
   | exact ih1 _ _ _ _ _ _ _ _ _ _ _ _ _ _ _ _ _ _
   | exact LeO.none _
   | refine LeO.ite ?_ ?_
   | refine LeO.bind ?_ (fun _ => ?_)
  ·intro y0 y1 y2 y3 y4 y5 y6 y7 y8 y9 y10 y11 y12 y13 y14 y15 y16 y17
   unfold sawtoothlaw02_BigOrder.j1
   repeat' first
   | (with_reducible exact ih0 _ _ _ _ _ _ _ _ _ _ _ _ _ _ _ _ _ _ _)
   | (with_reducible exact ih1 _ _ _ _ _ _ _ _ _ _ _ _ _ _ _ _ _ _)
   | (with_reducible exact LeO.refl _)
   | (with_reducible exact LeO.none _)
   | (with_reducible refine LeO.ite ?_ ?_)
   | (with_reducible refine LeO.bind ?_ (fun _ => ?_))
   | exact ih0 _ _ _ _ _ _ _ _ _ _ _ _ _ _ _ _ _ _ _
   | exact ih1 _ _ _ _ _ _ _ _ _ _ _ _ _ _ _ _ _ _
   | exact LeO.none _
   | refine LeO.ite ?_ ?_
   | refine LeO.bind ?_ (fun _ => ?_)
theorem sawtoothlaw02_BigOrder.mono : ∀ a0 a1 a2 a3 a4 a5 a6 a7 a8 a9 a10 k, LeO (sawtoothlaw02_BigOrder.f k a0 a1 a2 a3 a4 a5 a6 a7 a8 a9 a10) (sawtoothlaw02_BigOrder.f (k + 1) a0 a1 a2 a3 a4 a5 a6 a7 a8 a9 a10) := by
 intro a0 a1 a2 a3 a4 a5 a6 a7 a8 a9 a10 k; obtain ⟨ih0, ih1⟩ := sawtoothlaw02_BigOrder.mono_l k
 unfold sawtoothlaw02_BigOrder.f
 repeat' first
   | (with_reducible exact ih0 _ _ _ _ _ _ _ _ _ _ _ _ _ _ _ _ _ _ _)
   | (with_reducible exact ih1 _ _ _ _ _ _ _ _ _ _ _ _ _ _ _ _ _ _)
   | (with_reducible exact LeO.refl _)
   | (with_reducible exact LeO.none _)
   | (with_reducible refine LeO.ite ?_ ?_)
   | (with_reducible refine LeO.bind ?_ (fun _ => ?_))
   | exact ih0 _ _ _ _ _ _ _ _ _ _ _ _ _ _ _ _ _ _ _
   | exact ih1 _ _ _ _ _ _ _ _ _ _ _ _ _ _ _ _ _ _
   | exact LeO.none _
   | refine LeO.ite ?_ ?_
   | refine LeO.bind ?_ (fun _ => ?_)
def sawtoothlaw02_BigOrder.T7 : Bool × List (List Nat × List Nat) := (true, [([], []), ([0], [0]), ([1], [1]), ([1], [1]), ([1], [1]), ([3, 4, 1, 1], [1, 3, 4]), ([5, 1], [1, 5]), ([2, 6, 1], [1, 2, 6]), ([1, 7], [1, 7]), ([8, 5], [8]), ([9], [9]), ([10, 9, 9], [9, 10]), ([9], [9]), ([12, 11, 9], [9, 12]), ([11, 13, 13, 9], [9, 11, 13]), ([9], [9]), ([15, 9], [9, 15]), ([14, 16, 9], [9, 14, 16]), ([9, 17], [9, 17]), ([18, 14], [18]), ([19], [19]), ([19, 20], [19, 20]), ([21, 19], [21]), ([22], [22]), ([22, 23], [22, 23]), ([24, 22], [24]), ([25], [25]), ([26, 25], [25, 26]), ([27, 25, 25], [25, 27]), ([28], [28]), ([29, 28], [28, 29]), ([28, 30, 25], [25, 28, 30]), ([31, 28, 25], [25, 31]), ([32], [32]), ([32], [32]), ([33, 34, 32, 32], [32, 33, 34]), ([32], [32]), ([35, 36, 32], [32, 35, 36]), ([32, 37, 25], [25, 32, 37]), ([25, 38], [25, 38]), ([39, 35, 0, 1, 2, 3, 4, 5, 6, 7, 8, 9, 10, 11, 12, 13, 14, 15, 16, 17, 18, 19, 20, 21, 22, 23, 24, 25, 26, 27, 28, 29, 30, 31, 32, 33, 34, 35, 36, 37, 38, 39], [39])])
def sawtoothlaw02_BigOrder.B7 : List Nat := [0, 1, 3, 3, 3, 27, 59, 127, 255, 511, 1023, 2047, 1023, 8191, 16383, 1023, 33791, 131071, 262143, 524287, 1048575, 2097151, 4194303, 8388607, 16777215, 33554431, 67108863, 134217727, 268435455, 536870911, 1073741823, 2147483647, 4294967295, 8589934591, 8589934591, 34359738367, 8589934591, 137438953471, 274877906943, 549755813887, 1099511627775]
theorem sawtoothlaw02_BigOrder.tab7 : rtab .any (opsOf Try.f7 7) = sawtoothlaw02_BigOrder.T7 := by kernel_rfl
theorem sawtoothlaw02_BigOrder.bits7 : waitsOk sawtoothlaw02_BigOrder.T7.2 sawtoothlaw02_BigOrder.B7 = true := by kernel_rfl
set_option maxHeartbeats 8000000 in
set_option maxRecDepth 100000 in
theorem sawtoothlaw02_BigOrder.calls (k : Nat) (a0_0 : Bool) (a0_1 : Int) (a0_2 : Int) (a1_0 : Bool) (a1_1 : Int) (a1_2 : Int) (a2_0 : Bool) (a2_1 : Int) (a2_2 : Int) (a3 : Int) (a4 : Int) (r : Bool) (w : World) (h : sawtoothlaw02_BigOrder.f k a0_0 a0_1 a0_2 a1_0 a1_1 a1_2 a2_0 a2_1 a2_2 a3 a4 = some r) :
  Calls Try.prog 7 #[.agg #[.bool a0_0, .int .u64 a0_1, .int .u64 a0_2], .agg #[.bool a1_0, .int .u64 a1_1, .int .u64 a1_2], .agg #[.bool a2_0, .int .u64 a2_1, .int .u64 a2_2], .int .i64 a3, .int .i64 a4] w fun e w' => e = .returned (.bool r) ∧ Below w.heap.size w w' := by
 have hu24 := Try.underlying24; have HB := Aside0.mk (Below.refl w.heap.size w); have H : ((sawtoothlaw02_awakeS.f).bind fun t321 => ((big_CmpS.f a0_0 a0_1 a0_2 a1_0 a1_1 a1_2).bind fun t322 => ((big_AddS.f a0_0 a0_1 a0_2 a2_0 a2_1 a2_2).bind fun bt323 => ((big_AddS.f a1_0 a1_1 a1_2 a2_0 a2_1 a2_2).bind fun bt328 => (if t322 ≤ 0 then (sawtoothlaw02_BigOrder.j0 k a3 a4 t321 t322 bt323.2.2.2 bt328.2.2.2 true a0_0 a0_1 a0_2 a1_0 a1_1 a1_2 bt323.1 bt323.2.1 bt323.2.2.1 bt328.1 bt328.2.1 bt328.2.2.1) else ((big_CmpS.f a1_0 a1_1 a1_2 a2_0 a2_1 a2_2).bind fun t333 => (if t333 ≤ 0 then (sawtoothlaw02_BigOrder.j0 k a3 a4 t321 t322 bt323.2.2.2 bt328.2.2.2 true a0_0 a0_1 a0_2 a1_0 a1_1 a1_2 bt323.1 bt323.2.1 bt323.2.2.1 bt328.1 bt328.2.1 bt328.2.2.1) else ((big_CmpS.f a0_0 a0_1 a0_2 a2_0 a2_1 a2_2).bind fun t334 => (sawtoothlaw02_BigOrder.j0 k a3 a4 t321 t322 bt323.2.2.2 bt328.2.2.2 (decide (t334 > 0)) a0_0 a0_1 a0_2 a1_0 a1_1 a1_2 bt323.1 bt323.2.1 bt323.2.2.1 bt328.1 bt328.2.1 bt328.2.2.1))))))))) = some r := h; clear h; replace H := Option.bind_eq_some_iff.mp H; obtain ⟨t321, A60, H⟩ := H; (try dsimp only at H); have A6 := Aside0.mk A60; clear A60; replace H := Option.bind_eq_some_iff.mp H; obtain ⟨t322, A70, H⟩ := H; (try dsimp only at H); have A7 := Aside0.mk A70; clear A70; replace H := Option.bind_eq_some_iff.mp H; obtain ⟨⟨t323, t324, t325, t326⟩, A80, H⟩ := H; (try dsimp only at H); have A8 := Aside0.mk A80; clear A80; replace H := Option.bind_eq_some_iff.mp H; obtain ⟨⟨t328, t329, t330, t331⟩, A90, H⟩ := H; (try dsimp only at H); have A9 := Aside0.mk A90; clear A90; have HC10 := Aside0.mk H; clear H
 go_enter Try.func7, Try.ntmps7
 go_upto_region 5 with (first | ((with_reducible refine gate_dst (N := 5) rfl ?_); refine box_event ?hg (N := 5) ?hd (cs := #[.bool a0_0, .int .u64 a0_1, .int .u64 a0_2]) (t := 24) ?hr ?_; (case hd => rfl); (case hg => rfl); (case hr => first | (go_simp; done) | (go_simp; rfl)); intro gb318 hg w11 hbox hb; have BK318 := Aside0.mk (hbox); obtain ⟨GW318, nHB⟩ := geA hg hb; have GE318 := GW318; replace HB := nHB; clear nHB; clear hb hbox hg) | ((with_reducible refine gate_dst (N := 6) rfl ?_); refine box_event ?hg (N := 6) ?hd (cs := #[.bool a1_0, .int .u64 a1_1, .int .u64 a1_2]) (t := 24) ?hr ?_; (case hd => rfl); (case hg => rfl); (case hr => first | (go_simp; done) | (go_simp; rfl)); intro gb319 hg w12 hbox hb; have BK319 := Aside0.mk (hbox); obtain ⟨GW319, nHB⟩ := geA hg hb; have GE319 := GW319; obtain ⟨NB318_319, NB319_318, nBK⟩ := nbA BK318 hg hb; replace BK318 := nBK; clear nBK; replace HB := nHB; clear nHB; clear hb hbox hg) | ((with_reducible refine gate_dst (N := 7) rfl ?_); refine box_event ?hg (N := 7) ?hd (cs := #[.bool a2_0, .int .u64 a2_1, .int .u64 a2_2]) (t := 24) ?hr ?_; (case hd => rfl); (case hg => rfl); (case hr => first | (go_simp; done) | (go_simp; rfl)); intro gb320 hg w13 hbox hb; have BK320 := Aside0.mk (hbox); obtain ⟨GW320, nHB⟩ := geA hg hb; have GE320 := GW320; obtain ⟨NB318_320, NB320_318, nBK⟩ := nbA BK318 hg hb; replace BK318 := nBK; clear nBK; obtain ⟨NB319_320, NB320_319, nBK⟩ := nbA BK319 hg hb; replace BK319 := nBK; clear nBK; replace HB := nHB; clear nHB; clear hb hbox hg) | ((with_reducible refine gate_callee (f := 15) rfl ?_); refine goesLA_ (some 19) rfl rfl Try.func15 rfl #[] rfl ?_; (with_reducible refine (sawtoothlaw02_awakeS.calls  t321 _ A6.out).mono ?_); rintro e w14 ⟨rfl, hb⟩; refine ⟨_, rfl, ?_⟩; replace BK318 := bdZ BK318 hb; replace BK319 := bdZ BK319 hb; replace BK320 := bdZ BK320 hb; replace HB := stA hb; clear hb; have hnb15 := NB318_319.out; have hnc15 := NB319_318.out; have hnb16 := NB318_320.out; have hnc16 := NB320_318.out; have hcz17_0 := czZ BK318 0 (.bool a0_0); have hcz17_1 := czZ BK318 1 (.int .u64 a0_1); have hcz17_2 := czZ BK318 2 (.int .u64 a0_2); have hfz17_0 := blk_frozen BK318.out 0; have hfz17_1 := blk_frozen BK318.out 1; have hfz17_2 := blk_frozen BK318.out 2; have hnb18 := NB319_320.out; have hnc18 := NB320_319.out; have hcz19_0 := czZ BK319 0 (.bool a1_0); have hcz19_1 := czZ BK319 1 (.int .u64 a1_1); have hcz19_2 := czZ BK319 2 (.int .u64 a1_2); have hfz19_0 := blk_frozen BK319.out 0; have hfz19_1 := blk_frozen BK319.out 1; have hfz19_2 := blk_frozen BK319.out 2) | ((with_reducible refine gate_callee (f := 28) rfl ?_); refine goesLA_ (some 22) rfl rfl Try.func28 rfl #[.agg #[.bool a0_0, .int .u64 a0_1, .int .u64 a0_2], .agg #[.bool a1_0, .int .u64 a1_1, .int .u64 a1_2]] rfl ?_; (with_reducible refine (big_CmpS.calls a0_0 a0_1 a0_2 a1_0 a1_1 a1_2 t322 _ A7.out).mono ?_); rintro e w20 ⟨rfl, hb⟩; refine ⟨_, rfl, ?_⟩; replace BK318 := bdZ BK318 hb; replace BK319 := bdZ BK319 hb; replace BK320 := bdZ BK320 hb; replace HB := stA hb; clear hb; have hcz21_0 := czZ BK318 0 (.bool a0_0); have hcz21_1 := czZ BK318 1 (.int .u64 a0_1); have hcz21_2 := czZ BK318 2 (.int .u64 a0_2); have hfz21_0 := blk_frozen BK318.out 0; have hfz21_1 := blk_frozen BK318.out 1; have hfz21_2 := blk_frozen BK318.out 2; have hcz22_0 := czZ BK320 0 (.bool a2_0); have hcz22_1 := czZ BK320 1 (.int .u64 a2_1); have hcz22_2 := czZ BK320 2 (.int .u64 a2_2); have hfz22_0 := blk_frozen BK320.out 0; have hfz22_1 := blk_frozen BK320.out 1; have hfz22_2 := blk_frozen BK320.out 2) | ((with_reducible refine gate_callee (f := 16) rfl ?_); refine goesLA_ (some 26) rfl rfl Try.func16 rfl #[.agg #[.bool a0_0, .int .u64 a0_1, .int .u64 a0_2], .agg #[.bool a2_0, .int .u64 a2_1, .int .u64 a2_2]] rfl ?_; (with_reducible refine (big_AddS.calls a0_0 a0_1 a0_2 a2_0 a2_1 a2_2 t323 t324 t325 t326 _ A8.out).mono ?_); rintro e w23 ⟨rfl, hb⟩; refine ⟨_, rfl, ?_⟩; replace BK318 := bdZ BK318 hb; replace BK319 := bdZ BK319 hb; replace BK320 := bdZ BK320 hb; replace HB := stA hb; clear hb) | ((with_reducible refine gate_dst (N := 13) rfl ?_); refine box_event ?hg (N := 13) ?hd (cs := #[.bool false, .int .u64 0, .int .u64 0]) (t := 24) ?hr ?_; (case hd => rfl); (case hg => rfl); (case hr => first | (go_simp; done) | (go_simp; rfl)); intro gb327 hg w24 hbox hb; have BK327 := Aside0.mk (hbox); obtain ⟨GW327, nHB⟩ := geA hg hb; have GE327 := GW327; obtain ⟨NB318_327, NB327_318, nBK⟩ := nbA BK318 hg hb; replace BK318 := nBK; clear nBK; obtain ⟨NB319_327, NB327_319, nBK⟩ := nbA BK319 hg hb; replace BK319 := nBK; clear nBK; obtain ⟨NB320_327, NB327_320, nBK⟩ := nbA BK320 hg hb; replace BK320 := nBK; clear nBK; replace HB := nHB; clear nHB; clear hb hbox hg; have hnb25 := NB327_318.out; have hnc25 := NB318_327.out; have hnb26 := NB327_319.out; have hnc26 := NB319_327.out; have hnb27 := NB327_320.out; have hnc27 := NB320_327.out; have hcz28_0 := czZ BK327 0 (.bool false); have hcz28_1 := czZ BK327 1 (.int .u64 0); have hcz28_2 := czZ BK327 2 (.int .u64 0); have hfz28_0 := blk_frozen BK327.out 0; have hfz28_1 := blk_frozen BK327.out 1; have hfz28_2 := blk_frozen BK327.out 2; have hcz29_0 := czZ BK319 0 (.bool a1_0); have hcz29_1 := czZ BK319 1 (.int .u64 a1_1); have hcz29_2 := czZ BK319 2 (.int .u64 a1_2); have hfz29_0 := blk_frozen BK319.out 0; have hfz29_1 := blk_frozen BK319.out 1; have hfz29_2 := blk_frozen BK319.out 2; have hcz30_0 := czZ BK320 0 (.bool a2_0); have hcz30_1 := czZ BK320 1 (.int .u64 a2_1); have hcz30_2 := czZ BK320 2 (.int .u64 a2_2); have hfz30_0 := blk_frozen BK320.out 0; have hfz30_1 := blk_frozen BK320.out 1; have hfz30_2 := blk_frozen BK320.out 2) | ((with_reducible refine gate_callee (f := 16) rfl ?_); refine goesLA_ (some 32) rfl rfl Try.func16 rfl #[.agg #[.bool a1_0, .int .u64 a1_1, .int .u64 a1_2], .agg #[.bool a2_0, .int .u64 a2_1, .int .u64 a2_2]] rfl ?_; (with_reducible refine (big_AddS.calls a1_0 a1_1 a1_2 a2_0 a2_1 a2_2 t328 t329 t330 t331 _ A9.out).mono ?_); rintro e w31 ⟨rfl, hb⟩; refine ⟨_, rfl, ?_⟩; replace BK318 := bfZ BK318 (fun h_ => by (with_reducible repeat first | apply blk_drewN | apply blk_drew | apply blk_alloc | refine farZ ?_ NB318_327 _); exact h_) hb; replace BK319 := bfZ BK319 (fun h_ => by (with_reducible repeat first | apply blk_drewN | apply blk_drew | apply blk_alloc | refine farZ ?_ NB319_327 _); exact h_) hb; replace BK320 := bfZ BK320 (fun h_ => by (with_reducible repeat first | apply blk_drewN | apply blk_drew | apply blk_alloc | refine farZ ?_ NB320_327 _); exact h_) hb; replace BK327 := Aside0.mk (blk_below (g := gb327) (o := .cells #[.bool t323, .int .u64 t324, .int .u64 t325] 24 (0, 0)) (by (with_reducible repeat first | apply blk_drewN | apply blk_drew | apply blk_alloc); refine blk_put (cs := #[.bool t323, .int .u64 t324, .int .u64 0]) ?_ 2 _ rfl; (with_reducible repeat first | apply blk_drewN | apply blk_drew | apply blk_alloc); refine blk_put (cs := #[.bool t323, .int .u64 0, .int .u64 0]) ?_ 1 _ rfl; (with_reducible repeat first | apply blk_drewN | apply blk_drew | apply blk_alloc); refine blk_put (cs := #[.bool false, .int .u64 0, .int .u64 0]) ?_ 0 _ rfl; (with_reducible repeat first | apply blk_drewN | apply blk_drew | apply blk_alloc); exact BK327.out) hb); replace HB := stA hb; clear hb) | ((with_reducible refine gate_dst (N := 15) rfl ?_); refine box_event ?hg (N := 15) ?hd (cs := #[.bool false, .int .u64 0, .int .u64 0]) (t := 24) ?hr ?_; (case hd => rfl); (case hg => rfl); (case hr => first | (go_simp; done) | (go_simp; rfl)); intro gb332 hg w32 hbox hb; have BK332 := Aside0.mk (hbox); obtain ⟨GW332, nHB⟩ := geA hg hb; have GE332 := GW332; obtain ⟨NB318_332, NB332_318, nBK⟩ := nbA BK318 hg hb; replace BK318 := nBK; clear nBK; obtain ⟨NB319_332, NB332_319, nBK⟩ := nbA BK319 hg hb; replace BK319 := nBK; clear nBK; obtain ⟨NB320_332, NB332_320, nBK⟩ := nbA BK320 hg hb; replace BK320 := nBK; clear nBK; obtain ⟨NB327_332, NB332_327, nBK⟩ := nbA BK327 hg hb; replace BK327 := nBK; clear nBK; replace HB := nHB; clear nHB; clear hb hbox hg; have hnb33 := NB332_318.out; have hnc33 := NB318_332.out; have hnb34 := NB332_319.out; have hnc34 := NB319_332.out; have hnb35 := NB332_320.out; have hnc35 := NB320_332.out; have hnb36 := NB332_327.out; have hnc36 := NB327_332.out; have hcz37_0 := czZ BK332 0 (.bool false); have hcz37_1 := czZ BK332 1 (.int .u64 0); have hcz37_2 := czZ BK332 2 (.int .u64 0); have hfz37_0 := blk_frozen BK332.out 0; have hfz37_1 := blk_frozen BK332.out 1; have hfz37_2 := blk_frozen BK332.out 2))
 (try simp only [Act.put, sA, sB, sC])
 go_cut [17] (fun v17 wc => ∃ (kq : Nat) (x17_9 : Bool), v17 = .bool x17_9 ∧ Aside0 (sawtoothlaw02_BigOrder.j0 kq a3 a4 t321 t322 t326 t331 x17_9 a0_0 a0_1 a0_2 a1_0 a1_1 a1_2 t323 t324 t325 t328 t329 t330 = some r) ∧ Aside0 (kq ≤ k) ∧ Aside0 (wc.heap[gb318]? = some (.cells #[.bool a0_0, .int .u64 a0_1, .int .u64 a0_2] 24 (0, 0))) ∧ Aside0 (wc.heap[gb319]? = some (.cells #[.bool a1_0, .int .u64 a1_1, .int .u64 a1_2] 24 (0, 0))) ∧ Aside0 (wc.heap[gb320]? = some (.cells #[.bool a2_0, .int .u64 a2_1, .int .u64 a2_2] 24 (0, 0))) ∧ Aside0 (wc.heap[gb327]? = some (.cells #[.bool t323, .int .u64 t324, .int .u64 t325] 24 (0, 0))) ∧ Aside0 (wc.heap[gb332]? = some (.cells #[.bool t328, .int .u64 t329, .int .u64 t330] 24 (0, 0))) ∧ Aside0 (Below w.heap.size w wc))
 case first =>
  have H := HC10.out; clear HC10
  by_cases c38 : t322 ≤ 0
  ·rw [if_pos c38] at H
   have c38b0 : decide (t322 ≤ 0) = true := decide_eq_true c38; clear c38
   (first | rw [c38b0] | (simp only [i64_w, i32_w]; rw [c38b0]) | skip)
   have H' := Aside0.mk H; clear H
   go_wp2
   go_meet
   case rel => exact ⟨_, (true), (by first | rfl | (simp; done) | (simp [*]; done)), H', ⟨by first | omega | exact Nat.le_refl _⟩, ⟨by (with_reducible repeat first | apply blk_drewN | apply blk_drew | apply blk_alloc); refine blk_far ?_ NB318_332.out _; (with_reducible repeat first | apply blk_drewN | apply blk_drew | apply blk_alloc); refine blk_far ?_ NB318_332.out _; (with_reducible repeat first | apply blk_drewN | apply blk_drew | apply blk_alloc); refine blk_far ?_ NB318_332.out _; (with_reducible repeat first | apply blk_drewN | apply blk_drew | apply blk_alloc); exact BK318.out⟩, ⟨by (with_reducible repeat first | apply blk_drewN | apply blk_drew | apply blk_alloc); refine blk_far ?_ NB319_332.out _; (with_reducible repeat first | apply blk_drewN | apply blk_drew | apply blk_alloc); refine blk_far ?_ NB319_332.out _; (with_reducible repeat first | apply blk_drewN | apply blk_drew | apply blk_alloc); refine blk_far ?_ NB319_332.out _; (with_reducible repeat first | apply blk_drewN | apply blk_drew | apply blk_alloc); exact BK319.out⟩, ⟨by (with_reducible repeat first | apply blk_drewN | apply blk_drew | apply blk_alloc); refine blk_far ?_ NB320_332.out _; (with_reducible repeat first | apply blk_drewN | apply blk_drew | apply blk_alloc); refine blk_far ?_ NB320_332.out _; (with_reducible repeat first | apply blk_drewN | apply blk_drew | apply blk_alloc); refine blk_far ?_ NB320_332.out _; (with_reducible repeat first | apply blk_drewN | apply blk_drew | apply blk_alloc); exact BK320.out⟩, ⟨by (with_reducible repeat first | apply blk_drewN | apply blk_drew | apply blk_alloc); refine blk_far ?_ NB327_332.out _; (with_reducible repeat first | apply blk_drewN | apply blk_drew | apply blk_alloc); refine blk_far ?_ NB327_332.out _; (with_reducible repeat first | apply blk_drewN | apply blk_drew | apply blk_alloc); refine blk_far ?_ NB327_332.out _; (with_reducible repeat first | apply blk_drewN | apply blk_drew | apply blk_alloc); exact BK327.out⟩, ⟨by (with_reducible repeat first | apply blk_drewN | apply blk_drew | apply blk_alloc); refine blk_put (cs := #[.bool t328, .int .u64 t329, .int .u64 0]) ?_ 2 _ rfl; (with_reducible repeat first | apply blk_drewN | apply blk_drew | apply blk_alloc); refine blk_put (cs := #[.bool t328, .int .u64 0, .int .u64 0]) ?_ 1 _ rfl; (with_reducible repeat first | apply blk_drewN | apply blk_drew | apply blk_alloc); refine blk_put (cs := #[.bool false, .int .u64 0, .int .u64 0]) ?_ 0 _ rfl; (with_reducible repeat first | apply blk_drewN | apply blk_drew | apply blk_alloc); exact BK332.out⟩, ⟨by repeat (first | (with_reducible first | exact HB.out | apply below_alloc | apply pw_below_drewN | apply below_drew1 | refine below_set ?_ (Aside0.out (by assumption))) | exact HB.out)⟩⟩
  ·rw [if_neg c38] at H
   have c38b0 : decide (t322 ≤ 0) = false := decide_eq_false c38; clear c38
   (first | rw [c38b0] | (simp only [i64_w, i32_w]; rw [c38b0]) | skip)
   replace H := Option.bind_eq_some_iff.mp H; obtain ⟨t333, A390, H⟩ := H; (try dsimp only at H); have A39 := Aside0.mk A390; clear A390
   by_cases c40 : t333 ≤ 0
   ·rw [if_pos c40] at H
    have c40b0 : decide (t333 ≤ 0) = true := decide_eq_true c40; clear c40; have H' := Aside0.mk H; clear H; have hnb41 := NB319_318.out; have hnc41 := NB318_319.out; have hnb42 := NB319_320.out; have hnc42 := NB320_319.out; have hnb43 := NB319_327.out; have hnc43 := NB327_319.out; have hnb44 := NB319_332.out; have hnc44 := NB332_319.out; have hcz45_0 := czZ BK319 0 (.bool a1_0); have hcz45_1 := czZ BK319 1 (.int .u64 a1_1); have hcz45_2 := czZ BK319 2 (.int .u64 a1_2); have hfz45_0 := blk_frozen BK319.out 0; have hfz45_1 := blk_frozen BK319.out 1; have hfz45_2 := blk_frozen BK319.out 2; have hnb46 := NB320_318.out; have hnc46 := NB318_320.out; have hnb47 := NB320_327.out; have hnc47 := NB327_320.out; have hnb48 := NB320_332.out; have hnc48 := NB332_320.out; have hcz49_0 := czZ BK320 0 (.bool a2_0); have hcz49_1 := czZ BK320 1 (.int .u64 a2_1); have hcz49_2 := czZ BK320 2 (.int .u64 a2_2); have hfz49_0 := blk_frozen BK320.out 0; have hfz49_1 := blk_frozen BK320.out 1; have hfz49_2 := blk_frozen BK320.out 2
    go_wp2_with (first | (go_at_call 28; (with_reducible refine (big_CmpS.calls a1_0 a1_1 a1_2 a2_0 a2_1 a2_2 t333 _ A39.out).mono ?_); rintro e w50 ⟨rfl, hb⟩; replace BK318 := bfZ BK318 (fun h_ => by (with_reducible repeat first | apply blk_drewN | apply blk_drew | apply blk_alloc | refine farZ ?_ NB318_332 _); exact h_) hb; replace BK319 := bfZ BK319 (fun h_ => by (with_reducible repeat first | apply blk_drewN | apply blk_drew | apply blk_alloc | refine farZ ?_ NB319_332 _); exact h_) hb; replace BK320 := bfZ BK320 (fun h_ => by (with_reducible repeat first | apply blk_drewN | apply blk_drew | apply blk_alloc | refine farZ ?_ NB320_332 _); exact h_) hb; replace BK327 := bfZ BK327 (fun h_ => by (with_reducible repeat first | apply blk_drewN | apply blk_drew | apply blk_alloc | refine farZ ?_ NB327_332 _); exact h_) hb; replace BK332 := Aside0.mk (blk_below (g := gb332) (o := .cells #[.bool t328, .int .u64 t329, .int .u64 t330] 24 (0, 0)) (by (with_reducible repeat first | apply blk_drewN | apply blk_drew | apply blk_alloc); refine blk_put (cs := #[.bool t328, .int .u64 t329, .int .u64 0]) ?_ 2 _ rfl; (with_reducible repeat first | apply blk_drewN | apply blk_drew | apply blk_alloc); refine blk_put (cs := #[.bool t328, .int .u64 0, .int .u64 0]) ?_ 1 _ rfl; (with_reducible repeat first | apply blk_drewN | apply blk_drew | apply blk_alloc); refine blk_put (cs := #[.bool false, .int .u64 0, .int .u64 0]) ?_ 0 _ rfl; (with_reducible repeat first | apply blk_drewN | apply blk_drew | apply blk_alloc); exact BK332.out) hb); replace HB := stA hb; clear hb))
    go_meet
    case rel => exact ⟨_, (true), (by first | rfl | (simp; done) | (simp [*]; done)), H', ⟨by first | omega | exact Nat.le_refl _⟩, ⟨by (with_reducible repeat first | apply blk_drewN | apply blk_drew | apply blk_alloc); exact BK318.out⟩, ⟨by (with_reducible repeat first | apply blk_drewN | apply blk_drew | apply blk_alloc); exact BK319.out⟩, ⟨by (with_reducible repeat first | apply blk_drewN | apply blk_drew | apply blk_alloc); exact BK320.out⟩, ⟨by (with_reducible repeat first | apply blk_drewN | apply blk_drew | apply blk_alloc); exact BK327.out⟩, ⟨by (with_reducible repeat first | apply blk_drewN | apply blk_drew | apply blk_alloc); exact BK332.out⟩, ⟨by repeat (first | (with_reducible first | exact HB.out | apply below_alloc | apply pw_below_drewN | apply below_drew1 | refine below_set ?_ (Aside0.out (by assumption))) | exact HB.out)⟩⟩
   ·rw [if_neg c40] at H
    have c40b0 : decide (t333 ≤ 0) = false := decide_eq_false c40; clear c40; replace H := Option.bind_eq_some_iff.mp H; obtain ⟨t334, A510, H⟩ := H; replace H : (sawtoothlaw02_BigOrder.j0 k a3 a4 t321 t322 t326 t331 (decide (t334 > 0)) a0_0 a0_1 a0_2 a1_0 a1_1 a1_2 t323 t324 t325 t328 t329 t330) = some r := H; have A51 := Aside0.mk A510; clear A510; have H' := Aside0.mk H; clear H; have hnb52 := NB319_318.out; have hnc52 := NB318_319.out; have hnb53 := NB319_320.out; have hnc53 := NB320_319.out; have hnb54 := NB319_327.out; have hnc54 := NB327_319.out; have hnb55 := NB319_332.out; have hnc55 := NB332_319.out; have hcz56_0 := czZ BK319 0 (.bool a1_0); have hcz56_1 := czZ BK319 1 (.int .u64 a1_1); have hcz56_2 := czZ BK319 2 (.int .u64 a1_2); have hfz56_0 := blk_frozen BK319.out 0; have hfz56_1 := blk_frozen BK319.out 1; have hfz56_2 := blk_frozen BK319.out 2; have hnb57 := NB320_318.out; have hnc57 := NB318_320.out; have hnb58 := NB320_327.out; have hnc58 := NB327_320.out; have hnb59 := NB320_332.out; have hnc59 := NB332_320.out; have hcz60_0 := czZ BK320 0 (.bool a2_0); have hcz60_1 := czZ BK320 1 (.int .u64 a2_1); have hcz60_2 := czZ BK320 2 (.int .u64 a2_2); have hfz60_0 := blk_frozen BK320.out 0; have hfz60_1 := blk_frozen BK320.out 1; have hfz60_2 := blk_frozen BK320.out 2
    go_wp2_with (first | (go_at_call 28; (with_reducible refine (big_CmpS.calls a1_0 a1_1 a1_2 a2_0 a2_1 a2_2 t333 _ A39.out).mono ?_); rintro e w61 ⟨rfl, hb⟩; replace BK318 := bfZ BK318 (fun h_ => by (with_reducible repeat first | apply blk_drewN | apply blk_drew | apply blk_alloc | refine farZ ?_ NB318_332 _); exact h_) hb; replace BK319 := bfZ BK319 (fun h_ => by (with_reducible repeat first | apply blk_drewN | apply blk_drew | apply blk_alloc | refine farZ ?_ NB319_332 _); exact h_) hb; replace BK320 := bfZ BK320 (fun h_ => by (with_reducible repeat first | apply blk_drewN | apply blk_drew | apply blk_alloc | refine farZ ?_ NB320_332 _); exact h_) hb; replace BK327 := bfZ BK327 (fun h_ => by (with_reducible repeat first | apply blk_drewN | apply blk_drew | apply blk_alloc | refine farZ ?_ NB327_332 _); exact h_) hb; replace BK332 := Aside0.mk (blk_below (g := gb332) (o := .cells #[.bool t328, .int .u64 t329, .int .u64 t330] 24 (0, 0)) (by (with_reducible repeat first | apply blk_drewN | apply blk_drew | apply blk_alloc); refine blk_put (cs := #[.bool t328, .int .u64 t329, .int .u64 0]) ?_ 2 _ rfl; (with_reducible repeat first | apply blk_drewN | apply blk_drew | apply blk_alloc); refine blk_put (cs := #[.bool t328, .int .u64 0, .int .u64 0]) ?_ 1 _ rfl; (with_reducible repeat first | apply blk_drewN | apply blk_drew | apply blk_alloc); refine blk_put (cs := #[.bool false, .int .u64 0, .int .u64 0]) ?_ 0 _ rfl; (with_reducible repeat first | apply blk_drewN | apply blk_drew | apply blk_alloc); exact BK332.out) hb); replace HB := stA hb; clear hb; have hnb62 := NB318_327.out; have hnc62 := NB327_318.out; have hnb63 := NB318_332.out; have hnc63 := NB332_318.out; have hcz64_0 := czZ BK318 0 (.bool a0_0); have hcz64_1 := czZ BK318 1 (.int .u64 a0_1); have hcz64_2 := czZ BK318 2 (.int .u64 a0_2); have hfz64_0 := blk_frozen BK318.out 0; have hfz64_1 := blk_frozen BK318.out 1; have hfz64_2 := blk_frozen BK318.out 2; have hcz65_0 := czZ BK320 0 (.bool a2_0); have hcz65_1 := czZ BK320 1 (.int .u64 a2_1); have hcz65_2 := czZ BK320 2 (.int .u64 a2_2); have hfz65_0 := blk_frozen BK320.out 0; have hfz65_1 := blk_frozen BK320.out 1; have hfz65_2 := blk_frozen BK320.out 2) | (go_at_call 28; (with_reducible refine (big_CmpS.calls a0_0 a0_1 a0_2 a2_0 a2_1 a2_2 t334 _ A51.out).mono ?_); rintro e w66 ⟨rfl, hb⟩; replace BK318 := bdZ BK318 hb; replace BK319 := bdZ BK319 hb; replace BK320 := bdZ BK320 hb; replace BK327 := bdZ BK327 hb; replace BK332 := bdZ BK332 hb; replace HB := stA hb; clear hb))
    go_meet
    case rel => exact ⟨_, (decide (t334 > 0)), (by first | rfl | (simp; done) | (simp [*]; done)), H', ⟨by first | omega | exact Nat.le_refl _⟩, ⟨by (with_reducible repeat first | apply blk_drewN | apply blk_drew | apply blk_alloc); exact BK318.out⟩, ⟨by (with_reducible repeat first | apply blk_drewN | apply blk_drew | apply blk_alloc); exact BK319.out⟩, ⟨by (with_reducible repeat first | apply blk_drewN | apply blk_drew | apply blk_alloc); exact BK320.out⟩, ⟨by (with_reducible repeat first | apply blk_drewN | apply blk_drew | apply blk_alloc); exact BK327.out⟩, ⟨by (with_reducible repeat first | apply blk_drewN | apply blk_drew | apply blk_alloc); exact BK332.out⟩, ⟨by repeat (first | (with_reducible first | exact HB.out | apply below_alloc | apply pw_below_drewN | apply below_drew1 | refine below_set ?_ (Aside0.out (by assumption))) | exact HB.out)⟩⟩
 case rest =>
  clear HC10
  try clear c1
  try clear c2
  try clear p2
  try clear c3
  try clear c4
  try clear c5
  try clear c6
  try clear c7
  try clear c15
  try clear c16
  try clear c18
  try clear c25
  try clear c26
  try clear c27
  try clear c28
  try clear c33
  try clear c34
  try clear c35
  try clear c36
  try clear c38
  try clear c38b0
  try clear c40
  try clear c40b0
  try clear c41
  try clear c42
  try clear c43
  try clear c44
  try clear c46
  try clear c47
  try clear c48
  try clear c52
  try clear c53
  try clear c54
  try clear c55
  try clear c57
  try clear c58
  try clear c59
  try clear c62
  try clear c63
  try clear hcz17_0
  try clear hcz17_1
  try clear hcz17_2
  try clear hcz19_0
  try clear hcz19_1
  try clear hcz19_2
  try clear hcz21_0
  try clear hcz21_1
  try clear hcz21_2
  try clear hcz22_0
  try clear hcz22_1
  try clear hcz22_2
  try clear hcz28_0
  try clear hcz28_1
  try clear hcz28_2
  try clear hcz29_0
  try clear hcz29_1
  try clear hcz29_2
  try clear hcz30_0
  try clear hcz30_1
  try clear hcz30_2
  try clear hcz37_0
  try clear hcz37_1
  try clear hcz37_2
  try clear hcz45_0
  try clear hcz45_1
  try clear hcz45_2
  try clear hcz49_0
  try clear hcz49_1
  try clear hcz49_2
  try clear hcz56_0
  try clear hcz56_1
  try clear hcz56_2
  try clear hcz60_0
  try clear hcz60_1
  try clear hcz60_2
  try clear hcz64_0
  try clear hcz64_1
  try clear hcz64_2
  try clear hcz65_0
  try clear hcz65_1
  try clear hcz65_2
  try clear hfz17_0
  try clear hfz17_1
  try clear hfz17_2
  try clear hfz19_0
  try clear hfz19_1
  try clear hfz19_2
  try clear hfz21_0
  try clear hfz21_1
  try clear hfz21_2
  try clear hfz22_0
  try clear hfz22_1
  try clear hfz22_2
  try clear hfz28_0
  try clear hfz28_1
  try clear hfz28_2
  try clear hfz29_0
  try clear hfz29_1
  try clear hfz29_2
  try clear hfz30_0
  try clear hfz30_1
  try clear hfz30_2
  try clear hfz37_0
  try clear hfz37_1
  try clear hfz37_2
  try clear hfz45_0
  try clear hfz45_1
  try clear hfz45_2
  try clear hfz49_0
  try clear hfz49_1
  try clear hfz49_2
  try clear hfz56_0
  try clear hfz56_1
  try clear hfz56_2
  try clear hfz60_0
  try clear hfz60_1
  try clear hfz60_2
  try clear hfz64_0
  try clear hfz64_1
  try clear hfz64_2
  try clear hfz65_0
  try clear hfz65_1
  try clear hfz65_2
  obtain ⟨kq, x17_9, rfl, HA, HJ9, BK318, BK319, BK320, BK327, BK332, HB⟩ := hcut
  cases kq with
  | zero => exact absurd HA.out (by simp [sawtoothlaw02_BigOrder.j0])
  | succ kj9 =>
   have H := HA.out; clear HA; simp only [sawtoothlaw02_BigOrder.j0] at H; have HC67 := Aside0.mk H; clear H
   go_upto_region 6 with (fail)
   go_cut [18] (fun v18 wc => ∃ (kq : Nat) (x18_66 : Bool), v18 = .bool x18_66 ∧ Aside0 (sawtoothlaw02_BigOrder.j1 kq t321 t322 t326 t331 x17_9 x18_66 a0_0 a0_1 a0_2 a1_0 a1_1 a1_2 t323 t324 t325 t328 t329 t330 = some r) ∧ Aside0 (kq ≤ kj9) ∧ Aside0 (wc.heap[gb318]? = some (.cells #[.bool a0_0, .int .u64 a0_1, .int .u64 a0_2] 24 (0, 0))) ∧ Aside0 (wc.heap[gb319]? = some (.cells #[.bool a1_0, .int .u64 a1_1, .int .u64 a1_2] 24 (0, 0))) ∧ Aside0 (wc.heap[gb320]? = some (.cells #[.bool a2_0, .int .u64 a2_1, .int .u64 a2_2] 24 (0, 0))) ∧ Aside0 (wc.heap[gb327]? = some (.cells #[.bool t323, .int .u64 t324, .int .u64 t325] 24 (0, 0))) ∧ Aside0 (wc.heap[gb332]? = some (.cells #[.bool t328, .int .u64 t329, .int .u64 t330] 24 (0, 0))) ∧ Aside0 (Below w.heap.size w wc))
   case first =>
    have H := HC67.out; clear HC67
    by_cases c68 : a3 < a4
    ·rw [if_pos c68] at H
     have c68b0 : decide (a3 < a4) = true := decide_eq_true c68; clear c68
     (first | rw [c68b0] | (simp only [i64_w, i32_w]; rw [c68b0]) | skip)
     replace H := Option.bind_eq_some_iff.mp H; obtain ⟨⟨t335, t336, t337⟩, A690, H⟩ := H; (try dsimp only at H); have A69 := Aside0.mk A690; clear A690; replace H := Option.bind_eq_some_iff.mp H; obtain ⟨⟨t338, t339, t340⟩, A700, H⟩ := H; (try dsimp only at H); have A70 := Aside0.mk A700; clear A700; replace H := Option.bind_eq_some_iff.mp H; obtain ⟨t341, A710, H⟩ := H; (try dsimp only at H); have A71 := Aside0.mk A710; clear A710
     by_cases c72 : t341 = (-1)
     ·rw [if_pos c72] at H
      have c72b0 : (t341 == (-1)) = true := beq_iff_eq.mpr c72; have c72b1 : (t341 != (-1)) = false := bne_eq_false_iff_eq.mpr c72; clear c72; have H' := Aside0.mk H; clear H
      go_wp2_with (first | (go_at_call 22; (with_reducible refine (big_OfS.calls a3 t335 t336 t337 _ A69.out).mono ?_); rintro e w73 ⟨rfl, hb⟩; replace BK318 := bdZ BK318 hb; replace BK319 := bdZ BK319 hb; replace BK320 := bdZ BK320 hb; replace BK327 := bdZ BK327 hb; replace BK332 := bdZ BK332 hb; replace HB := stA hb; clear hb) | (go_at_call 22; (with_reducible refine (big_OfS.calls a4 t338 t339 t340 _ A70.out).mono ?_); rintro e w74 ⟨rfl, hb⟩; replace BK318 := bdZ BK318 hb; replace BK319 := bdZ BK319 hb; replace BK320 := bdZ BK320 hb; replace BK327 := bdZ BK327 hb; replace BK332 := bdZ BK332 hb; replace HB := stA hb; clear hb) | (go_at_call 28; (with_reducible refine (big_CmpS.calls t335 t336 t337 t338 t339 t340 t341 _ A71.out).mono ?_); rintro e w75 ⟨rfl, hb⟩; replace BK318 := bdZ BK318 hb; replace BK319 := bdZ BK319 hb; replace BK320 := bdZ BK320 hb; replace BK327 := bdZ BK327 hb; replace BK332 := bdZ BK332 hb; replace HB := stA hb; clear hb))
      go_meet
      case rel => exact ⟨_, (true), (by first | rfl | (simp; done) | (simp [*]; done)), H', ⟨by have := HJ9.out; first | omega | exact Nat.le_refl _⟩, ⟨by (with_reducible repeat first | apply blk_drewN | apply blk_drew | apply blk_alloc); exact BK318.out⟩, ⟨by (with_reducible repeat first | apply blk_drewN | apply blk_drew | apply blk_alloc); exact BK319.out⟩, ⟨by (with_reducible repeat first | apply blk_drewN | apply blk_drew | apply blk_alloc); exact BK320.out⟩, ⟨by (with_reducible repeat first | apply blk_drewN | apply blk_drew | apply blk_alloc); exact BK327.out⟩, ⟨by (with_reducible repeat first | apply blk_drewN | apply blk_drew | apply blk_alloc); exact BK332.out⟩, ⟨by repeat (first | (with_reducible first | exact HB.out | apply below_alloc | apply pw_below_drewN | apply below_drew1 | refine below_set ?_ (Aside0.out (by assumption))) | exact HB.out)⟩⟩
     ·rw [if_neg c72] at H
      have c72b0 : (t341 == (-1)) = false := beq_eq_false_iff_ne.mpr c72; have c72b1 : (t341 != (-1)) = true := bne_iff_ne.mpr c72
      by_cases c76 : a3 = a4
      ·rw [if_pos c76] at H
       exact absurd H (by simp)
      ·rw [if_neg c76] at H
       have c76b0 : (a3 == a4) = false := beq_eq_false_iff_ne.mpr c76; have c76b1 : (a3 != a4) = true := bne_iff_ne.mpr c76
       by_cases c77 : a3 > a4
       ·rw [if_pos c77] at H
        exact absurd H (by simp)
       ·rw [if_neg c77] at H
        have c77b0 : decide (a4 < a3) = false := decide_eq_false c77; clear c77; have H' := Aside0.mk H; clear H
        go_wp2_with (first | (go_at_call 22; (with_reducible refine (big_OfS.calls a3 t335 t336 t337 _ A69.out).mono ?_); rintro e w78 ⟨rfl, hb⟩; replace BK318 := bdZ BK318 hb; replace BK319 := bdZ BK319 hb; replace BK320 := bdZ BK320 hb; replace BK327 := bdZ BK327 hb; replace BK332 := bdZ BK332 hb; replace HB := stA hb; clear hb) | (go_at_call 22; (with_reducible refine (big_OfS.calls a4 t338 t339 t340 _ A70.out).mono ?_); rintro e w79 ⟨rfl, hb⟩; replace BK318 := bdZ BK318 hb; replace BK319 := bdZ BK319 hb; replace BK320 := bdZ BK320 hb; replace BK327 := bdZ BK327 hb; replace BK332 := bdZ BK332 hb; replace HB := stA hb; clear hb) | (go_at_call 28; (with_reducible refine (big_CmpS.calls t335 t336 t337 t338 t339 t340 t341 _ A71.out).mono ?_); rintro e w80 ⟨rfl, hb⟩; replace BK318 := bdZ BK318 hb; replace BK319 := bdZ BK319 hb; replace BK320 := bdZ BK320 hb; replace BK327 := bdZ BK327 hb; replace BK332 := bdZ BK332 hb; replace HB := stA hb; clear hb))
        go_meet
        case rel => exact ⟨_, (false), (by first | rfl | (simp; done) | (simp [*]; done)), H', ⟨by have := HJ9.out; first | omega | exact Nat.le_refl _⟩, ⟨by (with_reducible repeat first | apply blk_drewN | apply blk_drew | apply blk_alloc); exact BK318.out⟩, ⟨by (with_reducible repeat first | apply blk_drewN | apply blk_drew | apply blk_alloc); exact BK319.out⟩, ⟨by (with_reducible repeat first | apply blk_drewN | apply blk_drew | apply blk_alloc); exact BK320.out⟩, ⟨by (with_reducible repeat first | apply blk_drewN | apply blk_drew | apply blk_alloc); exact BK327.out⟩, ⟨by (with_reducible repeat first | apply blk_drewN | apply blk_drew | apply blk_alloc); exact BK332.out⟩, ⟨by repeat (first | (with_reducible first | exact HB.out | apply below_alloc | apply pw_below_drewN | apply below_drew1 | refine below_set ?_ (Aside0.out (by assumption))) | exact HB.out)⟩⟩
    ·rw [if_neg c68] at H
     have c68b0 : decide (a3 < a4) = false := decide_eq_false c68; clear c68
     (first | rw [c68b0] | (simp only [i64_w, i32_w]; rw [c68b0]) | skip)
     by_cases c81 : a3 = a4
     ·rw [if_pos c81] at H
      have c81b0 : (a3 == a4) = true := beq_iff_eq.mpr c81; have c81b1 : (a3 != a4) = false := bne_eq_false_iff_eq.mpr c81; clear c81; replace H := Option.bind_eq_some_iff.mp H; obtain ⟨⟨t342, t343, t344⟩, A820, H⟩ := H; (try dsimp only at H); have A82 := Aside0.mk A820; clear A820; replace H := Option.bind_eq_some_iff.mp H; obtain ⟨⟨t345, t346, t347⟩, A830, H⟩ := H; (try dsimp only at H); have A83 := Aside0.mk A830; clear A830; replace H := Option.bind_eq_some_iff.mp H; obtain ⟨t348, A840, H⟩ := H; (try dsimp only at H); have A84 := Aside0.mk A840; clear A840
      by_cases c85 : t348 = 0
      ·rw [if_pos c85] at H
       have c85b0 : (t348 == 0) = true := beq_iff_eq.mpr c85; have c85b1 : (t348 != 0) = false := bne_eq_false_iff_eq.mpr c85; clear c85; have H' := Aside0.mk H; clear H
       go_wp2_with (first | (go_at_call 22; (with_reducible refine (big_OfS.calls a3 t342 t343 t344 _ A82.out).mono ?_); rintro e w86 ⟨rfl, hb⟩; replace BK318 := bdZ BK318 hb; replace BK319 := bdZ BK319 hb; replace BK320 := bdZ BK320 hb; replace BK327 := bdZ BK327 hb; replace BK332 := bdZ BK332 hb; replace HB := stA hb; clear hb) | (go_at_call 22; (with_reducible refine (big_OfS.calls a4 t345 t346 t347 _ A83.out).mono ?_); rintro e w87 ⟨rfl, hb⟩; replace BK318 := bdZ BK318 hb; replace BK319 := bdZ BK319 hb; replace BK320 := bdZ BK320 hb; replace BK327 := bdZ BK327 hb; replace BK332 := bdZ BK332 hb; replace HB := stA hb; clear hb) | (go_at_call 28; (with_reducible refine (big_CmpS.calls t342 t343 t344 t345 t346 t347 t348 _ A84.out).mono ?_); rintro e w88 ⟨rfl, hb⟩; replace BK318 := bdZ BK318 hb; replace BK319 := bdZ BK319 hb; replace BK320 := bdZ BK320 hb; replace BK327 := bdZ BK327 hb; replace BK332 := bdZ BK332 hb; replace HB := stA hb; clear hb))
       go_meet
       case rel => exact ⟨_, (true), (by first | rfl | (simp; done) | (simp [*]; done)), H', ⟨by have := HJ9.out; first | omega | exact Nat.le_refl _⟩, ⟨by (with_reducible repeat first | apply blk_drewN | apply blk_drew | apply blk_alloc); exact BK318.out⟩, ⟨by (with_reducible repeat first | apply blk_drewN | apply blk_drew | apply blk_alloc); exact BK319.out⟩, ⟨by (with_reducible repeat first | apply blk_drewN | apply blk_drew | apply blk_alloc); exact BK320.out⟩, ⟨by (with_reducible repeat first | apply blk_drewN | apply blk_drew | apply blk_alloc); exact BK327.out⟩, ⟨by (with_reducible repeat first | apply blk_drewN | apply blk_drew | apply blk_alloc); exact BK332.out⟩, ⟨by repeat (first | (with_reducible first | exact HB.out | apply below_alloc | apply pw_below_drewN | apply below_drew1 | refine below_set ?_ (Aside0.out (by assumption))) | exact HB.out)⟩⟩
      ·rw [if_neg c85] at H
       have c85b0 : (t348 == 0) = false := beq_eq_false_iff_ne.mpr c85; have c85b1 : (t348 != 0) = true := bne_iff_ne.mpr c85
       by_cases c89 : a3 > a4
       ·rw [if_pos c89] at H
        exact absurd H (by simp)
       ·rw [if_neg c89] at H
        have c89b0 : decide (a4 < a3) = false := decide_eq_false c89; clear c89; have H' := Aside0.mk H; clear H
        go_wp2_with (first | (go_at_call 22; (with_reducible refine (big_OfS.calls a3 t342 t343 t344 _ A82.out).mono ?_); rintro e w90 ⟨rfl, hb⟩; replace BK318 := bdZ BK318 hb; replace BK319 := bdZ BK319 hb; replace BK320 := bdZ BK320 hb; replace BK327 := bdZ BK327 hb; replace BK332 := bdZ BK332 hb; replace HB := stA hb; clear hb) | (go_at_call 22; (with_reducible refine (big_OfS.calls a4 t345 t346 t347 _ A83.out).mono ?_); rintro e w91 ⟨rfl, hb⟩; replace BK318 := bdZ BK318 hb; replace BK319 := bdZ BK319 hb; replace BK320 := bdZ BK320 hb; replace BK327 := bdZ BK327 hb; replace BK332 := bdZ BK332 hb; replace HB := stA hb; clear hb) | (go_at_call 28; (with_reducible refine (big_CmpS.calls t342 t343 t344 t345 t346 t347 t348 _ A84.out).mono ?_); rintro e w92 ⟨rfl, hb⟩; replace BK318 := bdZ BK318 hb; replace BK319 := bdZ BK319 hb; replace BK320 := bdZ BK320 hb; replace BK327 := bdZ BK327 hb; replace BK332 := bdZ BK332 hb; replace HB := stA hb; clear hb))
        go_meet
        case rel => exact ⟨_, (false), (by first | rfl | (simp; done) | (simp [*]; done)), H', ⟨by have := HJ9.out; first | omega | exact Nat.le_refl _⟩, ⟨by (with_reducible repeat first | apply blk_drewN | apply blk_drew | apply blk_alloc); exact BK318.out⟩, ⟨by (with_reducible repeat first | apply blk_drewN | apply blk_drew | apply blk_alloc); exact BK319.out⟩, ⟨by (with_reducible repeat first | apply blk_drewN | apply blk_drew | apply blk_alloc); exact BK320.out⟩, ⟨by (with_reducible repeat first | apply blk_drewN | apply blk_drew | apply blk_alloc); exact BK327.out⟩, ⟨by (with_reducible repeat first | apply blk_drewN | apply blk_drew | apply blk_alloc); exact BK332.out⟩, ⟨by repeat (first | (with_reducible first | exact HB.out | apply below_alloc | apply pw_below_drewN | apply below_drew1 | refine below_set ?_ (Aside0.out (by assumption))) | exact HB.out)⟩⟩
     ·rw [if_neg c81] at H
      have c81b0 : (a3 == a4) = false := beq_eq_false_iff_ne.mpr c81; have c81b1 : (a3 != a4) = true := bne_iff_ne.mpr c81
      by_cases c93 : a3 > a4
      ·rw [if_pos c93] at H
       have c93b0 : decide (a4 < a3) = true := decide_eq_true c93; clear c93; replace H := Option.bind_eq_some_iff.mp H; obtain ⟨⟨t349, t350, t351⟩, A940, H⟩ := H; (try dsimp only at H); have A94 := Aside0.mk A940; clear A940; replace H := Option.bind_eq_some_iff.mp H; obtain ⟨⟨t352, t353, t354⟩, A950, H⟩ := H; (try dsimp only at H); have A95 := Aside0.mk A950; clear A950; replace H := Option.bind_eq_some_iff.mp H; obtain ⟨t355, A960, H⟩ := H; replace H : (sawtoothlaw02_BigOrder.j1 kj9 t321 t322 t326 t331 x17_9 (t355 == 1) a0_0 a0_1 a0_2 a1_0 a1_1 a1_2 t323 t324 t325 t328 t329 t330) = some r := H; have A96 := Aside0.mk A960; clear A960; have H' := Aside0.mk H; clear H
       go_wp2_with (first | (go_at_call 22; (with_reducible refine (big_OfS.calls a3 t349 t350 t351 _ A94.out).mono ?_); rintro e w97 ⟨rfl, hb⟩; replace BK318 := bdZ BK318 hb; replace BK319 := bdZ BK319 hb; replace BK320 := bdZ BK320 hb; replace BK327 := bdZ BK327 hb; replace BK332 := bdZ BK332 hb; replace HB := stA hb; clear hb) | (go_at_call 22; (with_reducible refine (big_OfS.calls a4 t352 t353 t354 _ A95.out).mono ?_); rintro e w98 ⟨rfl, hb⟩; replace BK318 := bdZ BK318 hb; replace BK319 := bdZ BK319 hb; replace BK320 := bdZ BK320 hb; replace BK327 := bdZ BK327 hb; replace BK332 := bdZ BK332 hb; replace HB := stA hb; clear hb) | (go_at_call 28; (with_reducible refine (big_CmpS.calls t349 t350 t351 t352 t353 t354 t355 _ A96.out).mono ?_); rintro e w99 ⟨rfl, hb⟩; replace BK318 := bdZ BK318 hb; replace BK319 := bdZ BK319 hb; replace BK320 := bdZ BK320 hb; replace BK327 := bdZ BK327 hb; replace BK332 := bdZ BK332 hb; replace HB := stA hb; clear hb))
       go_meet
       case rel => exact ⟨_, ((t355 == 1)), (by first | rfl | (simp; done) | (simp [*]; done)), H', ⟨by have := HJ9.out; first | omega | exact Nat.le_refl _⟩, ⟨by (with_reducible repeat first | apply blk_drewN | apply blk_drew | apply blk_alloc); exact BK318.out⟩, ⟨by (with_reducible repeat first | apply blk_drewN | apply blk_drew | apply blk_alloc); exact BK319.out⟩, ⟨by (with_reducible repeat first | apply blk_drewN | apply blk_drew | apply blk_alloc); exact BK320.out⟩, ⟨by (with_reducible repeat first | apply blk_drewN | apply blk_drew | apply blk_alloc); exact BK327.out⟩, ⟨by (with_reducible repeat first | apply blk_drewN | apply blk_drew | apply blk_alloc); exact BK332.out⟩, ⟨by repeat (first | (with_reducible first | exact HB.out | apply below_alloc | apply pw_below_drewN | apply below_drew1 | refine below_set ?_ (Aside0.out (by assumption))) | exact HB.out)⟩⟩
      ·rw [if_neg c93] at H
       have c93b0 : decide (a4 < a3) = false := decide_eq_false c93; clear c93; have H' := Aside0.mk H; clear H
       go_wp2
       go_meet
       case rel => exact ⟨_, (false), (by first | rfl | (simp; done) | (simp [*]; done)), H', ⟨by have := HJ9.out; first | omega | exact Nat.le_refl _⟩, ⟨by (with_reducible repeat first | apply blk_drewN | apply blk_drew | apply blk_alloc); exact BK318.out⟩, ⟨by (with_reducible repeat first | apply blk_drewN | apply blk_drew | apply blk_alloc); exact BK319.out⟩, ⟨by (with_reducible repeat first | apply blk_drewN | apply blk_drew | apply blk_alloc); exact BK320.out⟩, ⟨by (with_reducible repeat first | apply blk_drewN | apply blk_drew | apply blk_alloc); exact BK327.out⟩, ⟨by (with_reducible repeat first | apply blk_drewN | apply blk_drew | apply blk_alloc); exact BK332.out⟩, ⟨by repeat (first | (with_reducible first | exact HB.out | apply below_alloc | apply pw_below_drewN | apply below_drew1 | refine below_set ?_ (Aside0.out (by assumption))) | exact HB.out)⟩⟩
   case rest =>
    clear HC67
    try clear c1
    try clear c2
    try clear p2
    try clear c3
    try clear c4
    try clear c5
    try clear c6
    try clear c7
    try clear c8
    try clear c9
    try clear c15
    try clear c16
    try clear c18
    try clear c25
    try clear c26
    try clear c27
    try clear c28
    try clear c33
    try clear c34
    try clear c35
    try clear c36
    try clear c38
    try clear c38b0
    try clear c40
    try clear c40b0
    try clear c41
    try clear c42
    try clear c43
    try clear c44
    try clear c46
    try clear c47
    try clear c48
    try clear c52
    try clear c53
    try clear c54
    try clear c55
    try clear c57
    try clear c58
    try clear c59
    try clear c62
    try clear c63
    try clear c68
    try clear c68b0
    try clear c72
    try clear c72b0
    try clear c72b1
    try clear c76
    try clear c76b0
    try clear c76b1
    try clear c77
    try clear c77b0
    try clear c81
    try clear c81b0
    try clear c81b1
    try clear c85
    try clear c85b0
    try clear c85b1
    try clear c89
    try clear c89b0
    try clear c93
    try clear c93b0
    try clear hcz17_0
    try clear hcz17_1
    try clear hcz17_2
    try clear hcz19_0
    try clear hcz19_1
    try clear hcz19_2
    try clear hcz21_0
    try clear hcz21_1
    try clear hcz21_2
    try clear hcz22_0
    try clear hcz22_1
    try clear hcz22_2
    try clear hcz28_0
    try clear hcz28_1
    try clear hcz28_2
    try clear hcz29_0
    try clear hcz29_1
    try clear hcz29_2
    try clear hcz30_0
    try clear hcz30_1
    try clear hcz30_2
    try clear hcz37_0
    try clear hcz37_1
    try clear hcz37_2
    try clear hcz45_0
    try clear hcz45_1
    try clear hcz45_2
    try clear hcz49_0
    try clear hcz49_1
    try clear hcz49_2
    try clear hcz56_0
    try clear hcz56_1
    try clear hcz56_2
    try clear hcz60_0
    try clear hcz60_1
    try clear hcz60_2
    try clear hcz64_0
    try clear hcz64_1
    try clear hcz64_2
    try clear hcz65_0
    try clear hcz65_1
    try clear hcz65_2
    try clear hfz17_0
    try clear hfz17_1
    try clear hfz17_2
    try clear hfz19_0
    try clear hfz19_1
    try clear hfz19_2
    try clear hfz21_0
    try clear hfz21_1
    try clear hfz21_2
    try clear hfz22_0
    try clear hfz22_1
    try clear hfz22_2
    try clear hfz28_0
    try clear hfz28_1
    try clear hfz28_2
    try clear hfz29_0
    try clear hfz29_1
    try clear hfz29_2
    try clear hfz30_0
    try clear hfz30_1
    try clear hfz30_2
    try clear hfz37_0
    try clear hfz37_1
    try clear hfz37_2
    try clear hfz45_0
    try clear hfz45_1
    try clear hfz45_2
    try clear hfz49_0
    try clear hfz49_1
    try clear hfz49_2
    try clear hfz56_0
    try clear hfz56_1
    try clear hfz56_2
    try clear hfz60_0
    try clear hfz60_1
    try clear hfz60_2
    try clear hfz64_0
    try clear hfz64_1
    try clear hfz64_2
    try clear hfz65_0
    try clear hfz65_1
    try clear hfz65_2
    try clear p2
    obtain ⟨kq, x18_66, rfl, HA, HJ66, BK318, BK319, BK320, BK327, BK332, HB⟩ := hcut
    cases kq with
    | zero => exact absurd HA.out (by simp [sawtoothlaw02_BigOrder.j1])
    | succ kj66 =>
     have H := HA.out; clear HA; simp only [sawtoothlaw02_BigOrder.j1] at H
     by_cases c100 : t321 = true
     ·subst c100
      have H1 : ((big_CmpS.f a1_0 a1_1 a1_2 a0_0 a0_1 a0_2).bind fun t356 => (if t322 = (wrap64 (-t356)) then ((big_NegS.f a0_0 a0_1 a0_2).bind fun bt357 => ((big_NegS.f a1_0 a1_1 a1_2).bind fun bt360 => ((big_CmpS.f bt357.1 bt357.2.1 bt357.2.2 bt360.1 bt360.2.1 bt360.2.2).bind fun t363 => (if t363 = (wrap64 (-t322)) then (if x17_9 = true then (if x18_66 = true then (if t326 = 0 then (if t331 = 0 then ((big_CmpS.f t323 t324 t325 t328 t329 t330).bind fun t364 => (some (t364 == t322))) else (some true)) else (some true)) else (none)) else (none)) else (none))))) else (none))) = some r := by rw [if_pos rfl] at H; exact H
      clear H; have H := H1; clear H1; replace H := Option.bind_eq_some_iff.mp H; obtain ⟨t356, A1010, H⟩ := H; (try dsimp only at H); have A101 := Aside0.mk A1010; clear A1010
      by_cases c102 : t322 = (wrap64 (-t356))
      ·rw [if_pos c102] at H
       have c102b0 : (t322 == (wrap64 (-t356))) = true := beq_iff_eq.mpr c102; have c102b1 : (t322 != (wrap64 (-t356))) = false := bne_eq_false_iff_eq.mpr c102; clear c102; replace H := Option.bind_eq_some_iff.mp H; obtain ⟨⟨t357, t358, t359⟩, A1030, H⟩ := H; (try dsimp only at H); have A103 := Aside0.mk A1030; clear A1030; replace H := Option.bind_eq_some_iff.mp H; obtain ⟨⟨t360, t361, t362⟩, A1040, H⟩ := H; (try dsimp only at H); have A104 := Aside0.mk A1040; clear A1040; replace H := Option.bind_eq_some_iff.mp H; obtain ⟨t363, A1050, H⟩ := H; (try dsimp only at H); have A105 := Aside0.mk A1050; clear A1050
       by_cases c106 : t363 = (wrap64 (-t322))
       ·rw [if_pos c106] at H
        have c106b0 : (t363 == (wrap64 (-t322))) = true := beq_iff_eq.mpr c106; have c106b1 : (t363 != (wrap64 (-t322))) = false := bne_eq_false_iff_eq.mpr c106; clear c106
        by_cases c107 : x17_9 = true
        ·subst c107
         have H1 : (if x18_66 = true then (if t326 = 0 then (if t331 = 0 then ((big_CmpS.f t323 t324 t325 t328 t329 t330).bind fun t364 => (some (t364 == t322))) else (some true)) else (some true)) else (none)) = some r := by rw [if_pos rfl] at H; exact H
         clear H; have H := H1; clear H1
         by_cases c108 : x18_66 = true
         ·subst c108
          have H1 : (if t326 = 0 then (if t331 = 0 then ((big_CmpS.f t323 t324 t325 t328 t329 t330).bind fun t364 => (some (t364 == t322))) else (some true)) else (some true)) = some r := by rw [if_pos rfl] at H; exact H
          clear H; have H := H1; clear H1
          by_cases c109 : t326 = 0
          ·rw [if_pos c109] at H
           have c109b0 : (t326 == 0) = true := beq_iff_eq.mpr c109; have c109b1 : (t326 != 0) = false := bne_eq_false_iff_eq.mpr c109; clear c109
           by_cases c110 : t331 = 0
           ·rw [if_pos c110] at H
            have c110b0 : (t331 == 0) = true := beq_iff_eq.mpr c110; have c110b1 : (t331 != 0) = false := bne_eq_false_iff_eq.mpr c110; clear c110; replace H := Option.bind_eq_some_iff.mp H; obtain ⟨t364, A1110, H⟩ := H; replace H : (some (t364 == t322)) = some r := H; have A111 := Aside0.mk A1110; clear A1110; obtain rfl := Option.some.inj H
            try go_wp2
            replace BK318 := Aside0.mk (blk_drew BK318.out); replace BK319 := Aside0.mk (blk_drew BK319.out); replace BK320 := Aside0.mk (blk_drew BK320.out); replace BK327 := Aside0.mk (blk_drew BK327.out); replace BK332 := Aside0.mk (blk_drew BK332.out); replace HB := Aside0.mk (below_drew1 HB.out); refine start_ (n := 41) (S := fun w' => w'.cell? ⟨gb319, 0, none⟩ = some (.bool a1_0) ∧ w'.cell? ⟨gb319, 1, none⟩ = some (.int .u64 a1_1) ∧ w'.cell? ⟨gb319, 2, none⟩ = some (.int .u64 a1_2) ∧ w'.cell? ⟨gb318, 0, none⟩ = some (.bool a0_0) ∧ w'.cell? ⟨gb318, 1, none⟩ = some (.int .u64 a0_1) ∧ w'.cell? ⟨gb318, 2, none⟩ = some (.int .u64 a0_2) ∧ w'.cell? ⟨gb327, 0, none⟩ = some (.bool t323) ∧ w'.cell? ⟨gb327, 1, none⟩ = some (.int .u64 t324) ∧ w'.cell? ⟨gb327, 2, none⟩ = some (.int .u64 t325) ∧ w'.cell? ⟨gb332, 0, none⟩ = some (.bool t328) ∧ w'.cell? ⟨gb332, 1, none⟩ = some (.int .u64 t329) ∧ w'.cell? ⟨gb332, 2, none⟩ = some (.int .u64 t330)) (ds := []) #[N,N,N,N,N,N,N,N,N,N,N,N,N,N,N,N,N,N,N,N,N,N,N,N,N,N,N,N,N,N,N,N,N,N,N,N,N,N,N,N,N] (by kernel_rfl) rfl rfl ⟨(blk_cell BK319.out 0).trans rfl, (blk_cell BK319.out 1).trans rfl, (blk_cell BK319.out 2).trans rfl, (blk_cell BK318.out 0).trans rfl, (blk_cell BK318.out 1).trans rfl, (blk_cell BK318.out 2).trans rfl, (blk_cell BK327.out 0).trans rfl, (blk_cell BK327.out 1).trans rfl, (blk_cell BK327.out 2).trans rfl, (blk_cell BK332.out 0).trans rfl, (blk_cell BK332.out 1).trans rfl, (blk_cell BK332.out 2).trans rfl⟩ (fun hHeld => ?_); refine with_tabW sawtoothlaw02_BigOrder.tab7 sawtoothlaw02_BigOrder.bits7 (fun HT_ HW_ => ?_)
            generalize wc.drew = w112 at BK318 BK319 BK320 BK327 BK332 HB hHeld ⊢
            refine pureA_ (i := 0) (N := some 86) #[Y,N,N,N,N,N,N,N,N,N,N,N,N,N,N,N,N,N,N,N,N,N,N,N,N,N,N,N,N,N,N,N,N,N,N,N,N,N,N,N,N] rfl rfl (any_of HT_.out (by kernel_rfl)) ?_
            refine pureA_ (i := 1) (N := some 87) #[Y,Y,N,N,N,N,N,N,N,N,N,N,N,N,N,N,N,N,N,N,N,N,N,N,N,N,N,N,N,N,N,N,N,N,N,N,N,N,N,N,N] rfl rfl (any_of HT_.out (by kernel_rfl)) ?_
            refine pureA_ (i := 2) (N := some 88) #[Y,Y,Y,N,N,N,N,N,N,N,N,N,N,N,N,N,N,N,N,N,N,N,N,N,N,N,N,N,N,N,N,N,N,N,N,N,N,N,N,N,N] rfl rfl (any_of HT_.out (by kernel_rfl)) ?_
            refine take_ (i := 3) (N := some 89) (v := ?_) (a' := ?_) #[Y,Y,Y,Y,N,N,N,N,N,N,N,N,N,N,N,N,N,N,N,N,N,N,N,N,N,N,N,N,N,N,N,N,N,N,N,N,N,N,N,N,N] rfl rfl (take_ofW HT_.out HW_.out (by kernel_rfl)) (fun _ _ _ h => h) (Or.inl ⟨by rfl, ?_⟩) hHeld ?_ ?_; rotate_left
            ·rintro w' ⟨s0, s1, s2, s3, s4, s5, s6, s7, s8, s9, s10, s11⟩; go_simp
             with_reducible rfl
            rotate_left
            ·simp only [Act.put, sA, sB, sC, i64_w, i32_w]
             rfl
            refine take_ (i := 4) (N := some 90) (v := ?_) (a' := ?_) #[Y,Y,Y,Y,Y,N,N,N,N,N,N,N,N,N,N,N,N,N,N,N,N,N,N,N,N,N,N,N,N,N,N,N,N,N,N,N,N,N,N,N,N] rfl rfl (take_ofW HT_.out HW_.out (by kernel_rfl)) (fun _ _ _ h => h) (Or.inl ⟨by rfl, ?_⟩) hHeld ?_ ?_; rotate_left
            ·rintro w' ⟨s0, s1, s2, s3, s4, s5, s6, s7, s8, s9, s10, s11⟩; go_simp
             with_reducible rfl
            rotate_left
            ·simp only [Act.put, sA, sB, sC, i64_w, i32_w]
             rfl
            refine one_ (i := 5) (N := some 91) #[Y,Y,Y,Y,Y,Y,N,N,N,N,N,N,N,N,N,N,N,N,N,N,N,N,N,N,N,N,N,N,N,N,N,N,N,N,N,N,N,N,N,N,N] rfl rfl (one_of HT_.out (by kernel_rfl)) (by decide) (fun K hK => ?_); refine goesA_ Try.func28 rfl #[.agg #[.bool a1_0, .int .u64 a1_1, .int .u64 a1_2], .agg #[.bool a0_0, .int .u64 a0_1, .int .u64 a0_2]] (by rfl) rfl rfl ?_
            with_reducible refine (big_CmpS.calls a1_0 a1_1 a1_2 a0_0 a0_1 a0_2 t356 _ A101.out).mono ?_
            rintro e w113 ⟨rfl, hb⟩; refine ⟨_, rfl, ?_⟩; replace BK318 := bbZ BK318 hb; replace BK319 := bbZ BK319 hb; replace BK320 := bbZ BK320 hb; replace BK327 := bbZ BK327 hb; replace BK332 := bbZ BK332 hb; replace HB := Aside0.mk (below_step HB.out hb); clear hb; refine hK.out _ _ ⟨(blk_cell BK319.out 0).trans rfl, (blk_cell BK319.out 1).trans rfl, (blk_cell BK319.out 2).trans rfl, (blk_cell BK318.out 0).trans rfl, (blk_cell BK318.out 1).trans rfl, (blk_cell BK318.out 2).trans rfl, (blk_cell BK327.out 0).trans rfl, (blk_cell BK327.out 1).trans rfl, (blk_cell BK327.out 2).trans rfl, (blk_cell BK332.out 0).trans rfl, (blk_cell BK332.out 1).trans rfl, (blk_cell BK332.out 2).trans rfl⟩ (fun hHeld => ?_); clear hK K; refine normA_ (some 91) ?_
            refine pureA_ (i := 6) (N := some 92) #[Y,Y,Y,Y,Y,Y,Y,N,N,N,N,N,N,N,N,N,N,N,N,N,N,N,N,N,N,N,N,N,N,N,N,N,N,N,N,N,N,N,N,N,N] rfl rfl (any_of HT_.out (by kernel_rfl)) ?_
            refine pureA_ (i := 7) (N := some 93) #[Y,Y,Y,Y,Y,Y,Y,Y,N,N,N,N,N,N,N,N,N,N,N,N,N,N,N,N,N,N,N,N,N,N,N,N,N,N,N,N,N,N,N,N,N] rfl rfl (any_of HT_.out (by kernel_rfl)) ?_
            refine pureA_ (i := 8) (N := some 94) #[Y,Y,Y,Y,Y,Y,Y,Y,Y,N,N,N,N,N,N,N,N,N,N,N,N,N,N,N,N,N,N,N,N,N,N,N,N,N,N,N,N,N,N,N,N] rfl rfl (any_of HT_.out (by kernel_rfl)) ?_
            refine pureA_ (i := 9) (N := some 95) #[Y,Y,Y,Y,Y,Y,Y,Y,Y,Y,N,N,N,N,N,N,N,N,N,N,N,N,N,N,N,N,N,N,N,N,N,N,N,N,N,N,N,N,N,N,N] rfl rfl (any_of HT_.out (by kernel_rfl)) ?_
            refine pureA_ (i := 15) (N := some 101) #[Y,Y,Y,Y,Y,Y,Y,Y,Y,Y,N,N,N,N,N,Y,N,N,N,N,N,N,N,N,N,N,N,N,N,N,N,N,N,N,N,N,N,N,N,N,N] rfl rfl (any_of HT_.out (by kernel_rfl)) ?_
            refine pureA_ (i := 16) (N := some 102) #[Y,Y,Y,Y,Y,Y,Y,Y,Y,Y,N,N,N,N,N,Y,Y,N,N,N,N,N,N,N,N,N,N,N,N,N,N,N,N,N,N,N,N,N,N,N,N] rfl rfl (any_of HT_.out (by kernel_rfl)) ?_
            refine take_ (i := 10) (N := some 96) (v := ?_) (a' := ?_) #[Y,Y,Y,Y,Y,Y,Y,Y,Y,Y,Y,N,N,N,N,Y,Y,N,N,N,N,N,N,N,N,N,N,N,N,N,N,N,N,N,N,N,N,N,N,N,N] rfl rfl (take_ofW HT_.out HW_.out (by kernel_rfl)) (fun _ _ _ h => h) (Or.inl ⟨by rfl, ?_⟩) hHeld ?_ ?_; rotate_left
            ·rintro w' ⟨s0, s1, s2, s3, s4, s5, s6, s7, s8, s9, s10, s11⟩; go_simp
             with_reducible rfl
            rotate_left
            ·simp only [Act.put, sA, sB, sC, i64_w, i32_w]
             rfl
            refine take_ (i := 12) (N := some 98) (v := ?_) (a' := ?_) #[Y,Y,Y,Y,Y,Y,Y,Y,Y,Y,Y,N,Y,N,N,Y,Y,N,N,N,N,N,N,N,N,N,N,N,N,N,N,N,N,N,N,N,N,N,N,N,N] rfl rfl (take_ofW HT_.out HW_.out (by kernel_rfl)) (fun _ _ _ h => h) (Or.inl ⟨by rfl, ?_⟩) hHeld ?_ ?_; rotate_left
            ·rintro w' ⟨s0, s1, s2, s3, s4, s5, s6, s7, s8, s9, s10, s11⟩; go_simp
             with_reducible rfl
            rotate_left
            ·simp only [Act.put, sA, sB, sC, i64_w, i32_w]
             rfl
            refine one_ (i := 11) (N := some 97) #[Y,Y,Y,Y,Y,Y,Y,Y,Y,Y,Y,Y,Y,N,N,Y,Y,N,N,N,N,N,N,N,N,N,N,N,N,N,N,N,N,N,N,N,N,N,N,N,N] rfl rfl (one_of HT_.out (by kernel_rfl)) (by decide) (fun K hK => ?_); refine goesA_ Try.func26 rfl #[.agg #[.bool a0_0, .int .u64 a0_1, .int .u64 a0_2]] (by rfl) rfl rfl ?_
            with_reducible refine (big_NegS.calls a0_0 a0_1 a0_2 t357 t358 t359 _ A103.out).mono ?_
            rintro e w114 ⟨rfl, hb⟩; refine ⟨_, rfl, ?_⟩; replace BK318 := bbZ BK318 hb; replace BK319 := bbZ BK319 hb; replace BK320 := bbZ BK320 hb; replace BK327 := bbZ BK327 hb; replace BK332 := bbZ BK332 hb; replace HB := Aside0.mk (below_step HB.out hb); clear hb; refine hK.out _ _ ⟨(blk_cell BK319.out 0).trans rfl, (blk_cell BK319.out 1).trans rfl, (blk_cell BK319.out 2).trans rfl, (blk_cell BK318.out 0).trans rfl, (blk_cell BK318.out 1).trans rfl, (blk_cell BK318.out 2).trans rfl, (blk_cell BK327.out 0).trans rfl, (blk_cell BK327.out 1).trans rfl, (blk_cell BK327.out 2).trans rfl, (blk_cell BK332.out 0).trans rfl, (blk_cell BK332.out 1).trans rfl, (blk_cell BK332.out 2).trans rfl⟩ (fun hHeld => ?_); clear hK K; refine normA_ (some 97) ?_
            refine one_ (i := 13) (N := some 99) #[Y,Y,Y,Y,Y,Y,Y,Y,Y,Y,Y,Y,Y,Y,N,Y,Y,N,N,N,N,N,N,N,N,N,N,N,N,N,N,N,N,N,N,N,N,N,N,N,N] rfl rfl (one_of HT_.out (by kernel_rfl)) (by decide) (fun K hK => ?_); refine goesA_ Try.func26 rfl #[.agg #[.bool a1_0, .int .u64 a1_1, .int .u64 a1_2]] (by rfl) rfl rfl ?_
            with_reducible refine (big_NegS.calls a1_0 a1_1 a1_2 t360 t361 t362 _ A104.out).mono ?_
            rintro e w115 ⟨rfl, hb⟩; refine ⟨_, rfl, ?_⟩; replace BK318 := bbZ BK318 hb; replace BK319 := bbZ BK319 hb; replace BK320 := bbZ BK320 hb; replace BK327 := bbZ BK327 hb; replace BK332 := bbZ BK332 hb; replace HB := Aside0.mk (below_step HB.out hb); clear hb; refine hK.out _ _ ⟨(blk_cell BK319.out 0).trans rfl, (blk_cell BK319.out 1).trans rfl, (blk_cell BK319.out 2).trans rfl, (blk_cell BK318.out 0).trans rfl, (blk_cell BK318.out 1).trans rfl, (blk_cell BK318.out 2).trans rfl, (blk_cell BK327.out 0).trans rfl, (blk_cell BK327.out 1).trans rfl, (blk_cell BK327.out 2).trans rfl, (blk_cell BK332.out 0).trans rfl, (blk_cell BK332.out 1).trans rfl, (blk_cell BK332.out 2).trans rfl⟩ (fun hHeld => ?_); clear hK K; refine normA_ (some 99) ?_
            refine one_ (i := 14) (N := some 100) #[Y,Y,Y,Y,Y,Y,Y,Y,Y,Y,Y,Y,Y,Y,Y,Y,Y,N,N,N,N,N,N,N,N,N,N,N,N,N,N,N,N,N,N,N,N,N,N,N,N] rfl rfl (one_of HT_.out (by kernel_rfl)) (by decide) (fun K hK => ?_); refine goesA_ Try.func28 rfl #[.agg #[.bool t357, .int .u64 t358, .int .u64 t359], .agg #[.bool t360, .int .u64 t361, .int .u64 t362]] (by rfl) rfl rfl ?_
            with_reducible refine (big_CmpS.calls t357 t358 t359 t360 t361 t362 t363 _ A105.out).mono ?_
            rintro e w116 ⟨rfl, hb⟩; refine ⟨_, rfl, ?_⟩; replace BK318 := bbZ BK318 hb; replace BK319 := bbZ BK319 hb; replace BK320 := bbZ BK320 hb; replace BK327 := bbZ BK327 hb; replace BK332 := bbZ BK332 hb; replace HB := Aside0.mk (below_step HB.out hb); clear hb; refine hK.out _ _ ⟨(blk_cell BK319.out 0).trans rfl, (blk_cell BK319.out 1).trans rfl, (blk_cell BK319.out 2).trans rfl, (blk_cell BK318.out 0).trans rfl, (blk_cell BK318.out 1).trans rfl, (blk_cell BK318.out 2).trans rfl, (blk_cell BK327.out 0).trans rfl, (blk_cell BK327.out 1).trans rfl, (blk_cell BK327.out 2).trans rfl, (blk_cell BK332.out 0).trans rfl, (blk_cell BK332.out 1).trans rfl, (blk_cell BK332.out 2).trans rfl⟩ (fun hHeld => ?_); clear hK K; refine normA_ (some 100) ?_
            refine pureA_ (i := 17) (N := some 103) #[Y,Y,Y,Y,Y,Y,Y,Y,Y,Y,Y,Y,Y,Y,Y,Y,Y,Y,N,N,N,N,N,N,N,N,N,N,N,N,N,N,N,N,N,N,N,N,N,N,N] rfl rfl (any_of HT_.out (by kernel_rfl)) ?_
            refine pureA_ (i := 18) (N := some 104) #[Y,Y,Y,Y,Y,Y,Y,Y,Y,Y,Y,Y,Y,Y,Y,Y,Y,Y,Y,N,N,N,N,N,N,N,N,N,N,N,N,N,N,N,N,N,N,N,N,N,N] rfl rfl (any_of HT_.out (by kernel_rfl)) ?_
            refine pureA_ (i := 19) (N := some 105) #[Y,Y,Y,Y,Y,Y,Y,Y,Y,Y,Y,Y,Y,Y,Y,Y,Y,Y,Y,Y,N,N,N,N,N,N,N,N,N,N,N,N,N,N,N,N,N,N,N,N,N] rfl rfl (any_of HT_.out (by kernel_rfl)) ?_
            refine pureA_ (i := 20) (N := some 106) #[Y,Y,Y,Y,Y,Y,Y,Y,Y,Y,Y,Y,Y,Y,Y,Y,Y,Y,Y,Y,Y,N,N,N,N,N,N,N,N,N,N,N,N,N,N,N,N,N,N,N,N] rfl rfl (any_of HT_.out (by kernel_rfl)) ?_
            refine pureA_ (i := 21) (N := some 107) #[Y,Y,Y,Y,Y,Y,Y,Y,Y,Y,Y,Y,Y,Y,Y,Y,Y,Y,Y,Y,Y,Y,N,N,N,N,N,N,N,N,N,N,N,N,N,N,N,N,N,N,N] rfl rfl (any_of HT_.out (by kernel_rfl)) ?_
            refine pureA_ (i := 22) (N := some 108) #[Y,Y,Y,Y,Y,Y,Y,Y,Y,Y,Y,Y,Y,Y,Y,Y,Y,Y,Y,Y,Y,Y,Y,N,N,N,N,N,N,N,N,N,N,N,N,N,N,N,N,N,N] rfl rfl (any_of HT_.out (by kernel_rfl)) ?_
            refine pureA_ (i := 23) (N := some 109) #[Y,Y,Y,Y,Y,Y,Y,Y,Y,Y,Y,Y,Y,Y,Y,Y,Y,Y,Y,Y,Y,Y,Y,Y,N,N,N,N,N,N,N,N,N,N,N,N,N,N,N,N,N] rfl rfl (any_of HT_.out (by kernel_rfl)) ?_
            refine pureA_ (i := 24) (N := some 110) #[Y,Y,Y,Y,Y,Y,Y,Y,Y,Y,Y,Y,Y,Y,Y,Y,Y,Y,Y,Y,Y,Y,Y,Y,Y,N,N,N,N,N,N,N,N,N,N,N,N,N,N,N,N] rfl rfl (any_of HT_.out (by kernel_rfl)) ?_
            refine pureA_ (i := 25) (N := some 111) #[Y,Y,Y,Y,Y,Y,Y,Y,Y,Y,Y,Y,Y,Y,Y,Y,Y,Y,Y,Y,Y,Y,Y,Y,Y,Y,N,N,N,N,N,N,N,N,N,N,N,N,N,N,N] rfl rfl (any_of HT_.out (by kernel_rfl)) ?_
            refine pureA_ (i := 26) (N := some 112) #[Y,Y,Y,Y,Y,Y,Y,Y,Y,Y,Y,Y,Y,Y,Y,Y,Y,Y,Y,Y,Y,Y,Y,Y,Y,Y,Y,N,N,N,N,N,N,N,N,N,N,N,N,N,N] rfl rfl (any_of HT_.out (by kernel_rfl)) ?_
            refine pureA_ (i := 27) (N := some 113) #[Y,Y,Y,Y,Y,Y,Y,Y,Y,Y,Y,Y,Y,Y,Y,Y,Y,Y,Y,Y,Y,Y,Y,Y,Y,Y,Y,Y,N,N,N,N,N,N,N,N,N,N,N,N,N] rfl rfl (any_of HT_.out (by kernel_rfl)) ?_
            refine pureA_ (i := 28) (N := some 114) #[Y,Y,Y,Y,Y,Y,Y,Y,Y,Y,Y,Y,Y,Y,Y,Y,Y,Y,Y,Y,Y,Y,Y,Y,Y,Y,Y,Y,Y,N,N,N,N,N,N,N,N,N,N,N,N] rfl rfl (any_of HT_.out (by kernel_rfl)) ?_
            refine pureA_ (i := 29) (N := some 115) #[Y,Y,Y,Y,Y,Y,Y,Y,Y,Y,Y,Y,Y,Y,Y,Y,Y,Y,Y,Y,Y,Y,Y,Y,Y,Y,Y,Y,Y,Y,N,N,N,N,N,N,N,N,N,N,N] rfl rfl (any_of HT_.out (by kernel_rfl)) ?_
            refine pureA_ (i := 30) (N := some 116) #[Y,Y,Y,Y,Y,Y,Y,Y,Y,Y,Y,Y,Y,Y,Y,Y,Y,Y,Y,Y,Y,Y,Y,Y,Y,Y,Y,Y,Y,Y,Y,N,N,N,N,N,N,N,N,N,N] rfl rfl (any_of HT_.out (by kernel_rfl)) ?_
            refine pureA_ (i := 31) (N := some 117) #[Y,Y,Y,Y,Y,Y,Y,Y,Y,Y,Y,Y,Y,Y,Y,Y,Y,Y,Y,Y,Y,Y,Y,Y,Y,Y,Y,Y,Y,Y,Y,Y,N,N,N,N,N,N,N,N,N] rfl rfl (any_of HT_.out (by kernel_rfl)) ?_
            refine pureA_ (i := 32) (N := some 118) #[Y,Y,Y,Y,Y,Y,Y,Y,Y,Y,Y,Y,Y,Y,Y,Y,Y,Y,Y,Y,Y,Y,Y,Y,Y,Y,Y,Y,Y,Y,Y,Y,Y,N,N,N,N,N,N,N,N] rfl rfl (any_of HT_.out (by kernel_rfl)) ?_
            refine pureA_ (i := 36) (N := some 122) #[Y,Y,Y,Y,Y,Y,Y,Y,Y,Y,Y,Y,Y,Y,Y,Y,Y,Y,Y,Y,Y,Y,Y,Y,Y,Y,Y,Y,Y,Y,Y,Y,Y,N,N,N,Y,N,N,N,N] rfl rfl (any_of HT_.out (by kernel_rfl)) ?_
            refine take_ (i := 33) (N := some 119) (v := ?_) (a' := ?_) #[Y,Y,Y,Y,Y,Y,Y,Y,Y,Y,Y,Y,Y,Y,Y,Y,Y,Y,Y,Y,Y,Y,Y,Y,Y,Y,Y,Y,Y,Y,Y,Y,Y,Y,N,N,Y,N,N,N,N] rfl rfl (take_ofW HT_.out HW_.out (by kernel_rfl)) (fun _ _ _ h => h) (Or.inl ⟨by rfl, ?_⟩) hHeld ?_ ?_; rotate_left
            ·rintro w' ⟨s0, s1, s2, s3, s4, s5, s6, s7, s8, s9, s10, s11⟩; go_simp
             with_reducible rfl
            rotate_left
            ·simp only [Act.put, sA, sB, sC, i64_w, i32_w]
             rfl
            refine take_ (i := 34) (N := some 120) (v := ?_) (a' := ?_) #[Y,Y,Y,Y,Y,Y,Y,Y,Y,Y,Y,Y,Y,Y,Y,Y,Y,Y,Y,Y,Y,Y,Y,Y,Y,Y,Y,Y,Y,Y,Y,Y,Y,Y,Y,N,Y,N,N,N,N] rfl rfl (take_ofW HT_.out HW_.out (by kernel_rfl)) (fun _ _ _ h => h) (Or.inl ⟨by rfl, ?_⟩) hHeld ?_ ?_; rotate_left
            ·rintro w' ⟨s0, s1, s2, s3, s4, s5, s6, s7, s8, s9, s10, s11⟩; go_simp
             with_reducible rfl
            rotate_left
            ·simp only [Act.put, sA, sB, sC, i64_w, i32_w]
             rfl
            refine one_ (i := 35) (N := some 121) #[Y,Y,Y,Y,Y,Y,Y,Y,Y,Y,Y,Y,Y,Y,Y,Y,Y,Y,Y,Y,Y,Y,Y,Y,Y,Y,Y,Y,Y,Y,Y,Y,Y,Y,Y,Y,Y,N,N,N,N] rfl rfl (one_of HT_.out (by kernel_rfl)) (by decide) (fun K hK => ?_); refine goesA_ Try.func28 rfl #[.agg #[.bool t323, .int .u64 t324, .int .u64 t325], .agg #[.bool t328, .int .u64 t329, .int .u64 t330]] (by rfl) rfl rfl ?_
            with_reducible refine (big_CmpS.calls t323 t324 t325 t328 t329 t330 t364 _ A111.out).mono ?_
            rintro e w117 ⟨rfl, hb⟩; refine ⟨_, rfl, ?_⟩; replace BK318 := bbZ BK318 hb; replace BK319 := bbZ BK319 hb; replace BK320 := bbZ BK320 hb; replace BK327 := bbZ BK327 hb; replace BK332 := bbZ BK332 hb; replace HB := Aside0.mk (below_step HB.out hb); clear hb; refine hK.out _ _ ⟨(blk_cell BK319.out 0).trans rfl, (blk_cell BK319.out 1).trans rfl, (blk_cell BK319.out 2).trans rfl, (blk_cell BK318.out 0).trans rfl, (blk_cell BK318.out 1).trans rfl, (blk_cell BK318.out 2).trans rfl, (blk_cell BK327.out 0).trans rfl, (blk_cell BK327.out 1).trans rfl, (blk_cell BK327.out 2).trans rfl, (blk_cell BK332.out 0).trans rfl, (blk_cell BK332.out 1).trans rfl, (blk_cell BK332.out 2).trans rfl⟩ (fun hHeld => ?_); clear hK K; refine normA_ (some 121) ?_
            refine pureA_ (i := 37) (N := some 123) #[Y,Y,Y,Y,Y,Y,Y,Y,Y,Y,Y,Y,Y,Y,Y,Y,Y,Y,Y,Y,Y,Y,Y,Y,Y,Y,Y,Y,Y,Y,Y,Y,Y,Y,Y,Y,Y,Y,N,N,N] rfl rfl (any_of HT_.out (by kernel_rfl)) ?_
            refine pureA_ (i := 38) (N := some 124) #[Y,Y,Y,Y,Y,Y,Y,Y,Y,Y,Y,Y,Y,Y,Y,Y,Y,Y,Y,Y,Y,Y,Y,Y,Y,Y,Y,Y,Y,Y,Y,Y,Y,Y,Y,Y,Y,Y,Y,N,N] rfl rfl (any_of HT_.out (by kernel_rfl)) ?_
            refine pureA_ (i := 39) (N := some 125) #[Y,Y,Y,Y,Y,Y,Y,Y,Y,Y,Y,Y,Y,Y,Y,Y,Y,Y,Y,Y,Y,Y,Y,Y,Y,Y,Y,Y,Y,Y,Y,Y,Y,Y,Y,Y,Y,Y,Y,Y,N] rfl rfl (any_of HT_.out (by kernel_rfl)) ?_
            refine pureA_ (i := 40) (N := some 10) #[Y,Y,Y,Y,Y,Y,Y,Y,Y,Y,Y,Y,Y,Y,Y,Y,Y,Y,Y,Y,Y,Y,Y,Y,Y,Y,Y,Y,Y,Y,Y,Y,Y,Y,Y,Y,Y,Y,Y,Y,Y] rfl rfl (any_of HT_.out (by kernel_rfl)) ?_
            refine done_ (done_of HT_.out (by kernel_rfl)) ?_
            try go_wp2
            go_ret
            exact ⟨by first | rfl | (simp [errW_none, errW_some] <;> rfl) | (simp [*, errW_none, errW_some] <;> rfl), by repeat (first | (with_reducible first | exact HB.out | apply below_alloc | apply pw_below_drewN | apply below_drew1 | refine below_set ?_ (Aside0.out (by assumption))) | exact HB.out)⟩
           ·rw [if_neg c110] at H
            have c110b0 : (t331 == 0) = false := beq_eq_false_iff_ne.mpr c110; have c110b1 : (t331 != 0) = true := bne_iff_ne.mpr c110; obtain rfl := Option.some.inj H
            try go_wp2
            replace BK318 := Aside0.mk (blk_drew BK318.out); replace BK319 := Aside0.mk (blk_drew BK319.out); replace BK320 := Aside0.mk (blk_drew BK320.out); replace BK327 := Aside0.mk (blk_drew BK327.out); replace BK332 := Aside0.mk (blk_drew BK332.out); replace HB := Aside0.mk (below_drew1 HB.out); refine start_ (n := 41) (S := fun w' => w'.cell? ⟨gb319, 0, none⟩ = some (.bool a1_0) ∧ w'.cell? ⟨gb319, 1, none⟩ = some (.int .u64 a1_1) ∧ w'.cell? ⟨gb319, 2, none⟩ = some (.int .u64 a1_2) ∧ w'.cell? ⟨gb318, 0, none⟩ = some (.bool a0_0) ∧ w'.cell? ⟨gb318, 1, none⟩ = some (.int .u64 a0_1) ∧ w'.cell? ⟨gb318, 2, none⟩ = some (.int .u64 a0_2)) (ds := []) #[N,N,N,N,N,N,N,N,N,N,N,N,N,N,N,N,N,N,N,N,N,N,N,N,N,N,N,N,N,N,N,N,N,N,N,N,N,N,N,N,N] (by kernel_rfl) rfl rfl ⟨(blk_cell BK319.out 0).trans rfl, (blk_cell BK319.out 1).trans rfl, (blk_cell BK319.out 2).trans rfl, (blk_cell BK318.out 0).trans rfl, (blk_cell BK318.out 1).trans rfl, (blk_cell BK318.out 2).trans rfl⟩ (fun hHeld => ?_); refine with_tabW sawtoothlaw02_BigOrder.tab7 sawtoothlaw02_BigOrder.bits7 (fun HT_ HW_ => ?_)
            generalize wc.drew = w118 at BK318 BK319 BK320 BK327 BK332 HB hHeld ⊢
            refine pureA_ (i := 0) (N := some 86) #[Y,N,N,N,N,N,N,N,N,N,N,N,N,N,N,N,N,N,N,N,N,N,N,N,N,N,N,N,N,N,N,N,N,N,N,N,N,N,N,N,N] rfl rfl (any_of HT_.out (by kernel_rfl)) ?_
            refine pureA_ (i := 1) (N := some 87) #[Y,Y,N,N,N,N,N,N,N,N,N,N,N,N,N,N,N,N,N,N,N,N,N,N,N,N,N,N,N,N,N,N,N,N,N,N,N,N,N,N,N] rfl rfl (any_of HT_.out (by kernel_rfl)) ?_
            refine pureA_ (i := 2) (N := some 88) #[Y,Y,Y,N,N,N,N,N,N,N,N,N,N,N,N,N,N,N,N,N,N,N,N,N,N,N,N,N,N,N,N,N,N,N,N,N,N,N,N,N,N] rfl rfl (any_of HT_.out (by kernel_rfl)) ?_
            refine take_ (i := 3) (N := some 89) (v := ?_) (a' := ?_) #[Y,Y,Y,Y,N,N,N,N,N,N,N,N,N,N,N,N,N,N,N,N,N,N,N,N,N,N,N,N,N,N,N,N,N,N,N,N,N,N,N,N,N] rfl rfl (take_ofW HT_.out HW_.out (by kernel_rfl)) (fun _ _ _ h => h) (Or.inl ⟨by rfl, ?_⟩) hHeld ?_ ?_; rotate_left
            ·rintro w' ⟨s0, s1, s2, s3, s4, s5⟩; go_simp
             with_reducible rfl
            rotate_left
            ·simp only [Act.put, sA, sB, sC, i64_w, i32_w]
             rfl
            refine take_ (i := 4) (N := some 90) (v := ?_) (a' := ?_) #[Y,Y,Y,Y,Y,N,N,N,N,N,N,N,N,N,N,N,N,N,N,N,N,N,N,N,N,N,N,N,N,N,N,N,N,N,N,N,N,N,N,N,N] rfl rfl (take_ofW HT_.out HW_.out (by kernel_rfl)) (fun _ _ _ h => h) (Or.inl ⟨by rfl, ?_⟩) hHeld ?_ ?_; rotate_left
            ·rintro w' ⟨s0, s1, s2, s3, s4, s5⟩; go_simp
             with_reducible rfl
            rotate_left
            ·simp only [Act.put, sA, sB, sC, i64_w, i32_w]
             rfl
            refine one_ (i := 5) (N := some 91) #[Y,Y,Y,Y,Y,Y,N,N,N,N,N,N,N,N,N,N,N,N,N,N,N,N,N,N,N,N,N,N,N,N,N,N,N,N,N,N,N,N,N,N,N] rfl rfl (one_of HT_.out (by kernel_rfl)) (by decide) (fun K hK => ?_); refine goesA_ Try.func28 rfl #[.agg #[.bool a1_0, .int .u64 a1_1, .int .u64 a1_2], .agg #[.bool a0_0, .int .u64 a0_1, .int .u64 a0_2]] (by rfl) rfl rfl ?_
            with_reducible refine (big_CmpS.calls a1_0 a1_1 a1_2 a0_0 a0_1 a0_2 t356 _ A101.out).mono ?_
            rintro e w119 ⟨rfl, hb⟩; refine ⟨_, rfl, ?_⟩; replace BK318 := bbZ BK318 hb; replace BK319 := bbZ BK319 hb; replace BK320 := bbZ BK320 hb; replace BK327 := bbZ BK327 hb; replace BK332 := bbZ BK332 hb; replace HB := Aside0.mk (below_step HB.out hb); clear hb; refine hK.out _ _ ⟨(blk_cell BK319.out 0).trans rfl, (blk_cell BK319.out 1).trans rfl, (blk_cell BK319.out 2).trans rfl, (blk_cell BK318.out 0).trans rfl, (blk_cell BK318.out 1).trans rfl, (blk_cell BK318.out 2).trans rfl⟩ (fun hHeld => ?_); clear hK K; refine normA_ (some 91) ?_
            refine pureA_ (i := 6) (N := some 92) #[Y,Y,Y,Y,Y,Y,Y,N,N,N,N,N,N,N,N,N,N,N,N,N,N,N,N,N,N,N,N,N,N,N,N,N,N,N,N,N,N,N,N,N,N] rfl rfl (any_of HT_.out (by kernel_rfl)) ?_
            refine pureA_ (i := 7) (N := some 93) #[Y,Y,Y,Y,Y,Y,Y,Y,N,N,N,N,N,N,N,N,N,N,N,N,N,N,N,N,N,N,N,N,N,N,N,N,N,N,N,N,N,N,N,N,N] rfl rfl (any_of HT_.out (by kernel_rfl)) ?_
            refine pureA_ (i := 8) (N := some 94) #[Y,Y,Y,Y,Y,Y,Y,Y,Y,N,N,N,N,N,N,N,N,N,N,N,N,N,N,N,N,N,N,N,N,N,N,N,N,N,N,N,N,N,N,N,N] rfl rfl (any_of HT_.out (by kernel_rfl)) ?_
            refine pureA_ (i := 9) (N := some 95) #[Y,Y,Y,Y,Y,Y,Y,Y,Y,Y,N,N,N,N,N,N,N,N,N,N,N,N,N,N,N,N,N,N,N,N,N,N,N,N,N,N,N,N,N,N,N] rfl rfl (any_of HT_.out (by kernel_rfl)) ?_
            refine pureA_ (i := 15) (N := some 101) #[Y,Y,Y,Y,Y,Y,Y,Y,Y,Y,N,N,N,N,N,Y,N,N,N,N,N,N,N,N,N,N,N,N,N,N,N,N,N,N,N,N,N,N,N,N,N] rfl rfl (any_of HT_.out (by kernel_rfl)) ?_
            refine pureA_ (i := 16) (N := some 102) #[Y,Y,Y,Y,Y,Y,Y,Y,Y,Y,N,N,N,N,N,Y,Y,N,N,N,N,N,N,N,N,N,N,N,N,N,N,N,N,N,N,N,N,N,N,N,N] rfl rfl (any_of HT_.out (by kernel_rfl)) ?_
            refine take_ (i := 10) (N := some 96) (v := ?_) (a' := ?_) #[Y,Y,Y,Y,Y,Y,Y,Y,Y,Y,Y,N,N,N,N,Y,Y,N,N,N,N,N,N,N,N,N,N,N,N,N,N,N,N,N,N,N,N,N,N,N,N] rfl rfl (take_ofW HT_.out HW_.out (by kernel_rfl)) (fun _ _ _ h => h) (Or.inl ⟨by rfl, ?_⟩) hHeld ?_ ?_; rotate_left
            ·rintro w' ⟨s0, s1, s2, s3, s4, s5⟩; go_simp
             with_reducible rfl
            rotate_left
            ·simp only [Act.put, sA, sB, sC, i64_w, i32_w]
             rfl
            refine take_ (i := 12) (N := some 98) (v := ?_) (a' := ?_) #[Y,Y,Y,Y,Y,Y,Y,Y,Y,Y,Y,N,Y,N,N,Y,Y,N,N,N,N,N,N,N,N,N,N,N,N,N,N,N,N,N,N,N,N,N,N,N,N] rfl rfl (take_ofW HT_.out HW_.out (by kernel_rfl)) (fun _ _ _ h => h) (Or.inl ⟨by rfl, ?_⟩) hHeld ?_ ?_; rotate_left
            ·rintro w' ⟨s0, s1, s2, s3, s4, s5⟩; go_simp
             with_reducible rfl
            rotate_left
            ·simp only [Act.put, sA, sB, sC, i64_w, i32_w]
             rfl
            refine one_ (i := 11) (N := some 97) #[Y,Y,Y,Y,Y,Y,Y,Y,Y,Y,Y,Y,Y,N,N,Y,Y,N,N,N,N,N,N,N,N,N,N,N,N,N,N,N,N,N,N,N,N,N,N,N,N] rfl rfl (one_of HT_.out (by kernel_rfl)) (by decide) (fun K hK => ?_); refine goesA_ Try.func26 rfl #[.agg #[.bool a0_0, .int .u64 a0_1, .int .u64 a0_2]] (by rfl) rfl rfl ?_
            with_reducible refine (big_NegS.calls a0_0 a0_1 a0_2 t357 t358 t359 _ A103.out).mono ?_
            rintro e w120 ⟨rfl, hb⟩; refine ⟨_, rfl, ?_⟩; replace BK318 := bbZ BK318 hb; replace BK319 := bbZ BK319 hb; replace BK320 := bbZ BK320 hb; replace BK327 := bbZ BK327 hb; replace BK332 := bbZ BK332 hb; replace HB := Aside0.mk (below_step HB.out hb); clear hb; refine hK.out _ _ ⟨(blk_cell BK319.out 0).trans rfl, (blk_cell BK319.out 1).trans rfl, (blk_cell BK319.out 2).trans rfl, (blk_cell BK318.out 0).trans rfl, (blk_cell BK318.out 1).trans rfl, (blk_cell BK318.out 2).trans rfl⟩ (fun hHeld => ?_); clear hK K; refine normA_ (some 97) ?_
            refine one_ (i := 13) (N := some 99) #[Y,Y,Y,Y,Y,Y,Y,Y,Y,Y,Y,Y,Y,Y,N,Y,Y,N,N,N,N,N,N,N,N,N,N,N,N,N,N,N,N,N,N,N,N,N,N,N,N] rfl rfl (one_of HT_.out (by kernel_rfl)) (by decide) (fun K hK => ?_); refine goesA_ Try.func26 rfl #[.agg #[.bool a1_0, .int .u64 a1_1, .int .u64 a1_2]] (by rfl) rfl rfl ?_
            with_reducible refine (big_NegS.calls a1_0 a1_1 a1_2 t360 t361 t362 _ A104.out).mono ?_
            rintro e w121 ⟨rfl, hb⟩; refine ⟨_, rfl, ?_⟩; replace BK318 := bbZ BK318 hb; replace BK319 := bbZ BK319 hb; replace BK320 := bbZ BK320 hb; replace BK327 := bbZ BK327 hb; replace BK332 := bbZ BK332 hb; replace HB := Aside0.mk (below_step HB.out hb); clear hb; refine hK.out _ _ ⟨(blk_cell BK319.out 0).trans rfl, (blk_cell BK319.out 1).trans rfl, (blk_cell BK319.out 2).trans rfl, (blk_cell BK318.out 0).trans rfl, (blk_cell BK318.out 1).trans rfl, (blk_cell BK318.out 2).trans rfl⟩ (fun hHeld => ?_); clear hK K; refine normA_ (some 99) ?_
            refine one_ (i := 14) (N := some 100) #[Y,Y,Y,Y,Y,Y,Y,Y,Y,Y,Y,Y,Y,Y,Y,Y,Y,N,N,N,N,N,N,N,N,N,N,N,N,N,N,N,N,N,N,N,N,N,N,N,N] rfl rfl (one_of HT_.out (by kernel_rfl)) (by decide) (fun K hK => ?_); refine goesA_ Try.func28 rfl #[.agg #[.bool t357, .int .u64 t358, .int .u64 t359], .agg #[.bool t360, .int .u64 t361, .int .u64 t362]] (by rfl) rfl rfl ?_
            with_reducible refine (big_CmpS.calls t357 t358 t359 t360 t361 t362 t363 _ A105.out).mono ?_
            rintro e w122 ⟨rfl, hb⟩; refine ⟨_, rfl, ?_⟩; replace BK318 := bbZ BK318 hb; replace BK319 := bbZ BK319 hb; replace BK320 := bbZ BK320 hb; replace BK327 := bbZ BK327 hb; replace BK332 := bbZ BK332 hb; replace HB := Aside0.mk (below_step HB.out hb); clear hb; refine hK.out _ _ ⟨(blk_cell BK319.out 0).trans rfl, (blk_cell BK319.out 1).trans rfl, (blk_cell BK319.out 2).trans rfl, (blk_cell BK318.out 0).trans rfl, (blk_cell BK318.out 1).trans rfl, (blk_cell BK318.out 2).trans rfl⟩ (fun hHeld => ?_); clear hK K; refine normA_ (some 100) ?_
            refine pureA_ (i := 17) (N := some 103) #[Y,Y,Y,Y,Y,Y,Y,Y,Y,Y,Y,Y,Y,Y,Y,Y,Y,Y,N,N,N,N,N,N,N,N,N,N,N,N,N,N,N,N,N,N,N,N,N,N,N] rfl rfl (any_of HT_.out (by kernel_rfl)) ?_
            refine pureA_ (i := 18) (N := some 104) #[Y,Y,Y,Y,Y,Y,Y,Y,Y,Y,Y,Y,Y,Y,Y,Y,Y,Y,Y,N,N,N,N,N,N,N,N,N,N,N,N,N,N,N,N,N,N,N,N,N,N] rfl rfl (any_of HT_.out (by kernel_rfl)) ?_
            refine pureA_ (i := 19) (N := some 105) #[Y,Y,Y,Y,Y,Y,Y,Y,Y,Y,Y,Y,Y,Y,Y,Y,Y,Y,Y,Y,N,N,N,N,N,N,N,N,N,N,N,N,N,N,N,N,N,N,N,N,N] rfl rfl (any_of HT_.out (by kernel_rfl)) ?_
            refine pureA_ (i := 20) (N := some 106) #[Y,Y,Y,Y,Y,Y,Y,Y,Y,Y,Y,Y,Y,Y,Y,Y,Y,Y,Y,Y,Y,N,N,N,N,N,N,N,N,N,N,N,N,N,N,N,N,N,N,N,N] rfl rfl (any_of HT_.out (by kernel_rfl)) ?_
            refine pureA_ (i := 21) (N := some 107) #[Y,Y,Y,Y,Y,Y,Y,Y,Y,Y,Y,Y,Y,Y,Y,Y,Y,Y,Y,Y,Y,Y,N,N,N,N,N,N,N,N,N,N,N,N,N,N,N,N,N,N,N] rfl rfl (any_of HT_.out (by kernel_rfl)) ?_
            refine pureA_ (i := 22) (N := some 108) #[Y,Y,Y,Y,Y,Y,Y,Y,Y,Y,Y,Y,Y,Y,Y,Y,Y,Y,Y,Y,Y,Y,Y,N,N,N,N,N,N,N,N,N,N,N,N,N,N,N,N,N,N] rfl rfl (any_of HT_.out (by kernel_rfl)) ?_
            refine pureA_ (i := 23) (N := some 109) #[Y,Y,Y,Y,Y,Y,Y,Y,Y,Y,Y,Y,Y,Y,Y,Y,Y,Y,Y,Y,Y,Y,Y,Y,N,N,N,N,N,N,N,N,N,N,N,N,N,N,N,N,N] rfl rfl (any_of HT_.out (by kernel_rfl)) ?_
            refine pureA_ (i := 24) (N := some 110) #[Y,Y,Y,Y,Y,Y,Y,Y,Y,Y,Y,Y,Y,Y,Y,Y,Y,Y,Y,Y,Y,Y,Y,Y,Y,N,N,N,N,N,N,N,N,N,N,N,N,N,N,N,N] rfl rfl (any_of HT_.out (by kernel_rfl)) ?_
            refine pureA_ (i := 25) (N := some 111) #[Y,Y,Y,Y,Y,Y,Y,Y,Y,Y,Y,Y,Y,Y,Y,Y,Y,Y,Y,Y,Y,Y,Y,Y,Y,Y,N,N,N,N,N,N,N,N,N,N,N,N,N,N,N] rfl rfl (any_of HT_.out (by kernel_rfl)) ?_
            refine pureA_ (i := 26) (N := some 112) #[Y,Y,Y,Y,Y,Y,Y,Y,Y,Y,Y,Y,Y,Y,Y,Y,Y,Y,Y,Y,Y,Y,Y,Y,Y,Y,Y,N,N,N,N,N,N,N,N,N,N,N,N,N,N] rfl rfl (any_of HT_.out (by kernel_rfl)) ?_
            refine pureA_ (i := 27) (N := some 113) #[Y,Y,Y,Y,Y,Y,Y,Y,Y,Y,Y,Y,Y,Y,Y,Y,Y,Y,Y,Y,Y,Y,Y,Y,Y,Y,Y,Y,N,N,N,N,N,N,N,N,N,N,N,N,N] rfl rfl (any_of HT_.out (by kernel_rfl)) ?_
            refine pureA_ (i := 28) (N := some 114) #[Y,Y,Y,Y,Y,Y,Y,Y,Y,Y,Y,Y,Y,Y,Y,Y,Y,Y,Y,Y,Y,Y,Y,Y,Y,Y,Y,Y,Y,N,N,N,N,N,N,N,N,N,N,N,N] rfl rfl (any_of HT_.out (by kernel_rfl)) ?_
            refine pureA_ (i := 29) (N := some 115) #[Y,Y,Y,Y,Y,Y,Y,Y,Y,Y,Y,Y,Y,Y,Y,Y,Y,Y,Y,Y,Y,Y,Y,Y,Y,Y,Y,Y,Y,Y,N,N,N,N,N,N,N,N,N,N,N] rfl rfl (any_of HT_.out (by kernel_rfl)) ?_
            refine pureA_ (i := 30) (N := some 116) #[Y,Y,Y,Y,Y,Y,Y,Y,Y,Y,Y,Y,Y,Y,Y,Y,Y,Y,Y,Y,Y,Y,Y,Y,Y,Y,Y,Y,Y,Y,Y,N,N,N,N,N,N,N,N,N,N] rfl rfl (any_of HT_.out (by kernel_rfl)) ?_
            refine pureA_ (i := 31) (N := some 117) #[Y,Y,Y,Y,Y,Y,Y,Y,Y,Y,Y,Y,Y,Y,Y,Y,Y,Y,Y,Y,Y,Y,Y,Y,Y,Y,Y,Y,Y,Y,Y,Y,N,N,N,N,N,N,N,N,N] rfl rfl (any_of HT_.out (by kernel_rfl)) ?_
            refine pureA_ (i := 32) (N := some 118) #[Y,Y,Y,Y,Y,Y,Y,Y,Y,Y,Y,Y,Y,Y,Y,Y,Y,Y,Y,Y,Y,Y,Y,Y,Y,Y,Y,Y,Y,Y,Y,Y,Y,N,N,N,N,N,N,N,N] rfl rfl (any_of HT_.out (by kernel_rfl)) ?_
            refine pure_ (i := 33) (N := some 119) (v := undef) (a' := ?_) #[Y,Y,Y,Y,Y,Y,Y,Y,Y,Y,Y,Y,Y,Y,Y,Y,Y,Y,Y,Y,Y,Y,Y,Y,Y,Y,Y,Y,Y,Y,Y,Y,Y,Y,N,N,N,N,N,N,N] rfl rfl (any_of HT_.out (by kernel_rfl)) (fun _ _ _ h => h) (Or.inr ⟨by rfl, rfl⟩) ?_ ?_; rotate_left
            ·simp only [Act.put, sA, sB, sC, i64_w, i32_w]
             rfl
            refine pure_ (i := 34) (N := some 120) (v := undef) (a' := ?_) #[Y,Y,Y,Y,Y,Y,Y,Y,Y,Y,Y,Y,Y,Y,Y,Y,Y,Y,Y,Y,Y,Y,Y,Y,Y,Y,Y,Y,Y,Y,Y,Y,Y,Y,Y,N,N,N,N,N,N] rfl rfl (any_of HT_.out (by kernel_rfl)) (fun _ _ _ h => h) (Or.inr ⟨by rfl, rfl⟩) ?_ ?_; rotate_left
            ·simp only [Act.put, sA, sB, sC, i64_w, i32_w]
             rfl
            refine pure_ (i := 35) (N := some 121) (v := undef) (a' := ?_) #[Y,Y,Y,Y,Y,Y,Y,Y,Y,Y,Y,Y,Y,Y,Y,Y,Y,Y,Y,Y,Y,Y,Y,Y,Y,Y,Y,Y,Y,Y,Y,Y,Y,Y,Y,Y,N,N,N,N,N] rfl rfl (any_of HT_.out (by kernel_rfl)) (fun _ _ _ h => h) (Or.inr ⟨by rfl, rfl⟩) ?_ ?_; rotate_left
            ·simp only [Act.put, sA, sB, sC, i64_w, i32_w]
             rfl
            refine pure_ (i := 36) (N := some 122) (v := undef) (a' := ?_) #[Y,Y,Y,Y,Y,Y,Y,Y,Y,Y,Y,Y,Y,Y,Y,Y,Y,Y,Y,Y,Y,Y,Y,Y,Y,Y,Y,Y,Y,Y,Y,Y,Y,Y,Y,Y,Y,N,N,N,N] rfl rfl (any_of HT_.out (by kernel_rfl)) (fun _ _ _ h => h) (Or.inr ⟨by rfl, rfl⟩) ?_ ?_; rotate_left
            ·simp only [Act.put, sA, sB, sC, i64_w, i32_w]
             rfl
            refine pure_ (i := 37) (N := some 123) (v := undef) (a' := ?_) #[Y,Y,Y,Y,Y,Y,Y,Y,Y,Y,Y,Y,Y,Y,Y,Y,Y,Y,Y,Y,Y,Y,Y,Y,Y,Y,Y,Y,Y,Y,Y,Y,Y,Y,Y,Y,Y,Y,N,N,N] rfl rfl (any_of HT_.out (by kernel_rfl)) (fun _ _ _ h => h) (Or.inr ⟨by rfl, rfl⟩) ?_ ?_; rotate_left
            ·simp only [Act.put, sA, sB, sC, i64_w, i32_w]
             rfl
            refine pureA_ (i := 38) (N := some 124) #[Y,Y,Y,Y,Y,Y,Y,Y,Y,Y,Y,Y,Y,Y,Y,Y,Y,Y,Y,Y,Y,Y,Y,Y,Y,Y,Y,Y,Y,Y,Y,Y,Y,Y,Y,Y,Y,Y,Y,N,N] rfl rfl (any_of HT_.out (by kernel_rfl)) ?_
            refine pureA_ (i := 39) (N := some 125) #[Y,Y,Y,Y,Y,Y,Y,Y,Y,Y,Y,Y,Y,Y,Y,Y,Y,Y,Y,Y,Y,Y,Y,Y,Y,Y,Y,Y,Y,Y,Y,Y,Y,Y,Y,Y,Y,Y,Y,Y,N] rfl rfl (any_of HT_.out (by kernel_rfl)) ?_
            refine pureA_ (i := 40) (N := some 10) #[Y,Y,Y,Y,Y,Y,Y,Y,Y,Y,Y,Y,Y,Y,Y,Y,Y,Y,Y,Y,Y,Y,Y,Y,Y,Y,Y,Y,Y,Y,Y,Y,Y,Y,Y,Y,Y,Y,Y,Y,Y] rfl rfl (any_of HT_.out (by kernel_rfl)) ?_
            refine done_ (done_of HT_.out (by kernel_rfl)) ?_
            try go_wp2
            go_ret
            exact ⟨by first | rfl | (simp [errW_none, errW_some] <;> rfl) | (simp [*, errW_none, errW_some] <;> rfl), by repeat (first | (with_reducible first | exact HB.out | apply below_alloc | apply pw_below_drewN | apply below_drew1 | refine below_set ?_ (Aside0.out (by assumption))) | exact HB.out)⟩
          ·rw [if_neg c109] at H
           have c109b0 : (t326 == 0) = false := beq_eq_false_iff_ne.mpr c109; have c109b1 : (t326 != 0) = true := bne_iff_ne.mpr c109; obtain rfl := Option.some.inj H
           try go_wp2
           replace BK318 := Aside0.mk (blk_drew BK318.out); replace BK319 := Aside0.mk (blk_drew BK319.out); replace BK320 := Aside0.mk (blk_drew BK320.out); replace BK327 := Aside0.mk (blk_drew BK327.out); replace BK332 := Aside0.mk (blk_drew BK332.out); replace HB := Aside0.mk (below_drew1 HB.out); refine start_ (n := 41) (S := fun w' => w'.cell? ⟨gb319, 0, none⟩ = some (.bool a1_0) ∧ w'.cell? ⟨gb319, 1, none⟩ = some (.int .u64 a1_1) ∧ w'.cell? ⟨gb319, 2, none⟩ = some (.int .u64 a1_2) ∧ w'.cell? ⟨gb318, 0, none⟩ = some (.bool a0_0) ∧ w'.cell? ⟨gb318, 1, none⟩ = some (.int .u64 a0_1) ∧ w'.cell? ⟨gb318, 2, none⟩ = some (.int .u64 a0_2)) (ds := []) #[N,N,N,N,N,N,N,N,N,N,N,N,N,N,N,N,N,N,N,N,N,N,N,N,N,N,N,N,N,N,N,N,N,N,N,N,N,N,N,N,N] (by kernel_rfl) rfl rfl ⟨(blk_cell BK319.out 0).trans rfl, (blk_cell BK319.out 1).trans rfl, (blk_cell BK319.out 2).trans rfl, (blk_cell BK318.out 0).trans rfl, (blk_cell BK318.out 1).trans rfl, (blk_cell BK318.out 2).trans rfl⟩ (fun hHeld => ?_); refine with_tabW sawtoothlaw02_BigOrder.tab7 sawtoothlaw02_BigOrder.bits7 (fun HT_ HW_ => ?_)
           generalize wc.drew = w123 at BK318 BK319 BK320 BK327 BK332 HB hHeld ⊢
           refine pureA_ (i := 0) (N := some 86) #[Y,N,N,N,N,N,N,N,N,N,N,N,N,N,N,N,N,N,N,N,N,N,N,N,N,N,N,N,N,N,N,N,N,N,N,N,N,N,N,N,N] rfl rfl (any_of HT_.out (by kernel_rfl)) ?_
           refine pureA_ (i := 1) (N := some 87) #[Y,Y,N,N,N,N,N,N,N,N,N,N,N,N,N,N,N,N,N,N,N,N,N,N,N,N,N,N,N,N,N,N,N,N,N,N,N,N,N,N,N] rfl rfl (any_of HT_.out (by kernel_rfl)) ?_
           refine pureA_ (i := 2) (N := some 88) #[Y,Y,Y,N,N,N,N,N,N,N,N,N,N,N,N,N,N,N,N,N,N,N,N,N,N,N,N,N,N,N,N,N,N,N,N,N,N,N,N,N,N] rfl rfl (any_of HT_.out (by kernel_rfl)) ?_
           refine take_ (i := 3) (N := some 89) (v := ?_) (a' := ?_) #[Y,Y,Y,Y,N,N,N,N,N,N,N,N,N,N,N,N,N,N,N,N,N,N,N,N,N,N,N,N,N,N,N,N,N,N,N,N,N,N,N,N,N] rfl rfl (take_ofW HT_.out HW_.out (by kernel_rfl)) (fun _ _ _ h => h) (Or.inl ⟨by rfl, ?_⟩) hHeld ?_ ?_; rotate_left
           ·rintro w' ⟨s0, s1, s2, s3, s4, s5⟩; go_simp
            with_reducible rfl
           rotate_left
           ·simp only [Act.put, sA, sB, sC, i64_w, i32_w]
            rfl
           refine take_ (i := 4) (N := some 90) (v := ?_) (a' := ?_) #[Y,Y,Y,Y,Y,N,N,N,N,N,N,N,N,N,N,N,N,N,N,N,N,N,N,N,N,N,N,N,N,N,N,N,N,N,N,N,N,N,N,N,N] rfl rfl (take_ofW HT_.out HW_.out (by kernel_rfl)) (fun _ _ _ h => h) (Or.inl ⟨by rfl, ?_⟩) hHeld ?_ ?_; rotate_left
           ·rintro w' ⟨s0, s1, s2, s3, s4, s5⟩; go_simp
            with_reducible rfl
           rotate_left
           ·simp only [Act.put, sA, sB, sC, i64_w, i32_w]
            rfl
           refine one_ (i := 5) (N := some 91) #[Y,Y,Y,Y,Y,Y,N,N,N,N,N,N,N,N,N,N,N,N,N,N,N,N,N,N,N,N,N,N,N,N,N,N,N,N,N,N,N,N,N,N,N] rfl rfl (one_of HT_.out (by kernel_rfl)) (by decide) (fun K hK => ?_); refine goesA_ Try.func28 rfl #[.agg #[.bool a1_0, .int .u64 a1_1, .int .u64 a1_2], .agg #[.bool a0_0, .int .u64 a0_1, .int .u64 a0_2]] (by rfl) rfl rfl ?_
           with_reducible refine (big_CmpS.calls a1_0 a1_1 a1_2 a0_0 a0_1 a0_2 t356 _ A101.out).mono ?_
           rintro e w124 ⟨rfl, hb⟩; refine ⟨_, rfl, ?_⟩; replace BK318 := bbZ BK318 hb; replace BK319 := bbZ BK319 hb; replace BK320 := bbZ BK320 hb; replace BK327 := bbZ BK327 hb; replace BK332 := bbZ BK332 hb; replace HB := Aside0.mk (below_step HB.out hb); clear hb; refine hK.out _ _ ⟨(blk_cell BK319.out 0).trans rfl, (blk_cell BK319.out 1).trans rfl, (blk_cell BK319.out 2).trans rfl, (blk_cell BK318.out 0).trans rfl, (blk_cell BK318.out 1).trans rfl, (blk_cell BK318.out 2).trans rfl⟩ (fun hHeld => ?_); clear hK K; refine normA_ (some 91) ?_
           refine pureA_ (i := 6) (N := some 92) #[Y,Y,Y,Y,Y,Y,Y,N,N,N,N,N,N,N,N,N,N,N,N,N,N,N,N,N,N,N,N,N,N,N,N,N,N,N,N,N,N,N,N,N,N] rfl rfl (any_of HT_.out (by kernel_rfl)) ?_
           refine pureA_ (i := 7) (N := some 93) #[Y,Y,Y,Y,Y,Y,Y,Y,N,N,N,N,N,N,N,N,N,N,N,N,N,N,N,N,N,N,N,N,N,N,N,N,N,N,N,N,N,N,N,N,N] rfl rfl (any_of HT_.out (by kernel_rfl)) ?_
           refine pureA_ (i := 8) (N := some 94) #[Y,Y,Y,Y,Y,Y,Y,Y,Y,N,N,N,N,N,N,N,N,N,N,N,N,N,N,N,N,N,N,N,N,N,N,N,N,N,N,N,N,N,N,N,N] rfl rfl (any_of HT_.out (by kernel_rfl)) ?_
           refine pureA_ (i := 9) (N := some 95) #[Y,Y,Y,Y,Y,Y,Y,Y,Y,Y,N,N,N,N,N,N,N,N,N,N,N,N,N,N,N,N,N,N,N,N,N,N,N,N,N,N,N,N,N,N,N] rfl rfl (any_of HT_.out (by kernel_rfl)) ?_
           refine pureA_ (i := 15) (N := some 101) #[Y,Y,Y,Y,Y,Y,Y,Y,Y,Y,N,N,N,N,N,Y,N,N,N,N,N,N,N,N,N,N,N,N,N,N,N,N,N,N,N,N,N,N,N,N,N] rfl rfl (any_of HT_.out (by kernel_rfl)) ?_
           refine pureA_ (i := 16) (N := some 102) #[Y,Y,Y,Y,Y,Y,Y,Y,Y,Y,N,N,N,N,N,Y,Y,N,N,N,N,N,N,N,N,N,N,N,N,N,N,N,N,N,N,N,N,N,N,N,N] rfl rfl (any_of HT_.out (by kernel_rfl)) ?_
           refine take_ (i := 10) (N := some 96) (v := ?_) (a' := ?_) #[Y,Y,Y,Y,Y,Y,Y,Y,Y,Y,Y,N,N,N,N,Y,Y,N,N,N,N,N,N,N,N,N,N,N,N,N,N,N,N,N,N,N,N,N,N,N,N] rfl rfl (take_ofW HT_.out HW_.out (by kernel_rfl)) (fun _ _ _ h => h) (Or.inl ⟨by rfl, ?_⟩) hHeld ?_ ?_; rotate_left
           ·rintro w' ⟨s0, s1, s2, s3, s4, s5⟩; go_simp
            with_reducible rfl
           rotate_left
           ·simp only [Act.put, sA, sB, sC, i64_w, i32_w]
            rfl
           refine take_ (i := 12) (N := some 98) (v := ?_) (a' := ?_) #[Y,Y,Y,Y,Y,Y,Y,Y,Y,Y,Y,N,Y,N,N,Y,Y,N,N,N,N,N,N,N,N,N,N,N,N,N,N,N,N,N,N,N,N,N,N,N,N] rfl rfl (take_ofW HT_.out HW_.out (by kernel_rfl)) (fun _ _ _ h => h) (Or.inl ⟨by rfl, ?_⟩) hHeld ?_ ?_; rotate_left
           ·rintro w' ⟨s0, s1, s2, s3, s4, s5⟩; go_simp
            with_reducible rfl
           rotate_left
           ·simp only [Act.put, sA, sB, sC, i64_w, i32_w]
            rfl
           refine one_ (i := 11) (N := some 97) #[Y,Y,Y,Y,Y,Y,Y,Y,Y,Y,Y,Y,Y,N,N,Y,Y,N,N,N,N,N,N,N,N,N,N,N,N,N,N,N,N,N,N,N,N,N,N,N,N] rfl rfl (one_of HT_.out (by kernel_rfl)) (by decide) (fun K hK => ?_); refine goesA_ Try.func26 rfl #[.agg #[.bool a0_0, .int .u64 a0_1, .int .u64 a0_2]] (by rfl) rfl rfl ?_
           with_reducible refine (big_NegS.calls a0_0 a0_1 a0_2 t357 t358 t359 _ A103.out).mono ?_
           rintro e w125 ⟨rfl, hb⟩; refine ⟨_, rfl, ?_⟩; replace BK318 := bbZ BK318 hb; replace BK319 := bbZ BK319 hb; replace BK320 := bbZ BK320 hb; replace BK327 := bbZ BK327 hb; replace BK332 := bbZ BK332 hb; replace HB := Aside0.mk (below_step HB.out hb); clear hb; refine hK.out _ _ ⟨(blk_cell BK319.out 0).trans rfl, (blk_cell BK319.out 1).trans rfl, (blk_cell BK319.out 2).trans rfl, (blk_cell BK318.out 0).trans rfl, (blk_cell BK318.out 1).trans rfl, (blk_cell BK318.out 2).trans rfl⟩ (fun hHeld => ?_); clear hK K; refine normA_ (some 97) ?_
           refine one_ (i := 13) (N := some 99) #[Y,Y,Y,Y,Y,Y,Y,Y,Y,Y,Y,Y,Y,Y,N,Y,Y,N,N,N,N,N,N,N,N,N,N,N,N,N,N,N,N,N,N,N,N,N,N,N,N] rfl rfl (one_of HT_.out (by kernel_rfl)) (by decide) (fun K hK => ?_); refine goesA_ Try.func26 rfl #[.agg #[.bool a1_0, .int .u64 a1_1, .int .u64 a1_2]] (by rfl) rfl rfl ?_
           with_reducible refine (big_NegS.calls a1_0 a1_1 a1_2 t360 t361 t362 _ A104.out).mono ?_
           rintro e w126 ⟨rfl, hb⟩; refine ⟨_, rfl, ?_⟩; replace BK318 := bbZ BK318 hb; replace BK319 := bbZ BK319 hb; replace BK320 := bbZ BK320 hb; replace BK327 := bbZ BK327 hb; replace BK332 := bbZ BK332 hb; replace HB := Aside0.mk (below_step HB.out hb); clear hb; refine hK.out _ _ ⟨(blk_cell BK319.out 0).trans rfl, (blk_cell BK319.out 1).trans rfl, (blk_cell BK319.out 2).trans rfl, (blk_cell BK318.out 0).trans rfl, (blk_cell BK318.out 1).trans rfl, (blk_cell BK318.out 2).trans rfl⟩ (fun hHeld => ?_); clear hK K; refine normA_ (some 99) ?_
           refine one_ (i := 14) (N := some 100) #[Y,Y,Y,Y,Y,Y,Y,Y,Y,Y,Y,Y,Y,Y,Y,Y,Y,N,N,N,N,N,N,N,N,N,N,N,N,N,N,N,N,N,N,N,N,N,N,N,N] rfl rfl (one_of HT_.out (by kernel_rfl)) (by decide) (fun K hK => ?_); refine goesA_ Try.func28 rfl #[.agg #[.bool t357, .int .u64 t358, .int .u64 t359], .agg #[.bool t360, .int .u64 t361, .int .u64 t362]] (by rfl) rfl rfl ?_
           with_reducible refine (big_CmpS.calls t357 t358 t359 t360 t361 t362 t363 _ A105.out).mono ?_
           rintro e w127 ⟨rfl, hb⟩; refine ⟨_, rfl, ?_⟩; replace BK318 := bbZ BK318 hb; replace BK319 := bbZ BK319 hb; replace BK320 := bbZ BK320 hb; replace BK327 := bbZ BK327 hb; replace BK332 := bbZ BK332 hb; replace HB := Aside0.mk (below_step HB.out hb); clear hb; refine hK.out _ _ ⟨(blk_cell BK319.out 0).trans rfl, (blk_cell BK319.out 1).trans rfl, (blk_cell BK319.out 2).trans rfl, (blk_cell BK318.out 0).trans rfl, (blk_cell BK318.out 1).trans rfl, (blk_cell BK318.out 2).trans rfl⟩ (fun hHeld => ?_); clear hK K; refine normA_ (some 100) ?_
           refine pureA_ (i := 17) (N := some 103) #[Y,Y,Y,Y,Y,Y,Y,Y,Y,Y,Y,Y,Y,Y,Y,Y,Y,Y,N,N,N,N,N,N,N,N,N,N,N,N,N,N,N,N,N,N,N,N,N,N,N] rfl rfl (any_of HT_.out (by kernel_rfl)) ?_
           refine pureA_ (i := 18) (N := some 104) #[Y,Y,Y,Y,Y,Y,Y,Y,Y,Y,Y,Y,Y,Y,Y,Y,Y,Y,Y,N,N,N,N,N,N,N,N,N,N,N,N,N,N,N,N,N,N,N,N,N,N] rfl rfl (any_of HT_.out (by kernel_rfl)) ?_
           refine pureA_ (i := 19) (N := some 105) #[Y,Y,Y,Y,Y,Y,Y,Y,Y,Y,Y,Y,Y,Y,Y,Y,Y,Y,Y,Y,N,N,N,N,N,N,N,N,N,N,N,N,N,N,N,N,N,N,N,N,N] rfl rfl (any_of HT_.out (by kernel_rfl)) ?_
           refine pureA_ (i := 20) (N := some 106) #[Y,Y,Y,Y,Y,Y,Y,Y,Y,Y,Y,Y,Y,Y,Y,Y,Y,Y,Y,Y,Y,N,N,N,N,N,N,N,N,N,N,N,N,N,N,N,N,N,N,N,N] rfl rfl (any_of HT_.out (by kernel_rfl)) ?_
           refine pureA_ (i := 21) (N := some 107) #[Y,Y,Y,Y,Y,Y,Y,Y,Y,Y,Y,Y,Y,Y,Y,Y,Y,Y,Y,Y,Y,Y,N,N,N,N,N,N,N,N,N,N,N,N,N,N,N,N,N,N,N] rfl rfl (any_of HT_.out (by kernel_rfl)) ?_
           refine pureA_ (i := 22) (N := some 108) #[Y,Y,Y,Y,Y,Y,Y,Y,Y,Y,Y,Y,Y,Y,Y,Y,Y,Y,Y,Y,Y,Y,Y,N,N,N,N,N,N,N,N,N,N,N,N,N,N,N,N,N,N] rfl rfl (any_of HT_.out (by kernel_rfl)) ?_
           refine pureA_ (i := 23) (N := some 109) #[Y,Y,Y,Y,Y,Y,Y,Y,Y,Y,Y,Y,Y,Y,Y,Y,Y,Y,Y,Y,Y,Y,Y,Y,N,N,N,N,N,N,N,N,N,N,N,N,N,N,N,N,N] rfl rfl (any_of HT_.out (by kernel_rfl)) ?_
           refine pureA_ (i := 24) (N := some 110) #[Y,Y,Y,Y,Y,Y,Y,Y,Y,Y,Y,Y,Y,Y,Y,Y,Y,Y,Y,Y,Y,Y,Y,Y,Y,N,N,N,N,N,N,N,N,N,N,N,N,N,N,N,N] rfl rfl (any_of HT_.out (by kernel_rfl)) ?_
           refine pureA_ (i := 25) (N := some 111) #[Y,Y,Y,Y,Y,Y,Y,Y,Y,Y,Y,Y,Y,Y,Y,Y,Y,Y,Y,Y,Y,Y,Y,Y,Y,Y,N,N,N,N,N,N,N,N,N,N,N,N,N,N,N] rfl rfl (any_of HT_.out (by kernel_rfl)) ?_
           refine pureA_ (i := 26) (N := some 112) #[Y,Y,Y,Y,Y,Y,Y,Y,Y,Y,Y,Y,Y,Y,Y,Y,Y,Y,Y,Y,Y,Y,Y,Y,Y,Y,Y,N,N,N,N,N,N,N,N,N,N,N,N,N,N] rfl rfl (any_of HT_.out (by kernel_rfl)) ?_
           refine pureA_ (i := 27) (N := some 113) #[Y,Y,Y,Y,Y,Y,Y,Y,Y,Y,Y,Y,Y,Y,Y,Y,Y,Y,Y,Y,Y,Y,Y,Y,Y,Y,Y,Y,N,N,N,N,N,N,N,N,N,N,N,N,N] rfl rfl (any_of HT_.out (by kernel_rfl)) ?_
           refine pureA_ (i := 28) (N := some 114) #[Y,Y,Y,Y,Y,Y,Y,Y,Y,Y,Y,Y,Y,Y,Y,Y,Y,Y,Y,Y,Y,Y,Y,Y,Y,Y,Y,Y,Y,N,N,N,N,N,N,N,N,N,N,N,N] rfl rfl (any_of HT_.out (by kernel_rfl)) ?_
           refine pure_ (i := 29) (N := some 115) (v := undef) (a' := ?_) #[Y,Y,Y,Y,Y,Y,Y,Y,Y,Y,Y,Y,Y,Y,Y,Y,Y,Y,Y,Y,Y,Y,Y,Y,Y,Y,Y,Y,Y,Y,N,N,N,N,N,N,N,N,N,N,N] rfl rfl (any_of HT_.out (by kernel_rfl)) (fun _ _ _ h => h) (Or.inr ⟨by rfl, rfl⟩) ?_ ?_; rotate_left
           ·simp only [Act.put, sA, sB, sC, i64_w, i32_w]
            rfl
           refine pure_ (i := 30) (N := some 116) (v := undef) (a' := ?_) #[Y,Y,Y,Y,Y,Y,Y,Y,Y,Y,Y,Y,Y,Y,Y,Y,Y,Y,Y,Y,Y,Y,Y,Y,Y,Y,Y,Y,Y,Y,Y,N,N,N,N,N,N,N,N,N,N] rfl rfl (any_of HT_.out (by kernel_rfl)) (fun _ _ _ h => h) (Or.inr ⟨by rfl, rfl⟩) ?_ ?_; rotate_left
           ·simp only [Act.put, sA, sB, sC, i64_w, i32_w]
            rfl
           refine pureA_ (i := 31) (N := some 117) #[Y,Y,Y,Y,Y,Y,Y,Y,Y,Y,Y,Y,Y,Y,Y,Y,Y,Y,Y,Y,Y,Y,Y,Y,Y,Y,Y,Y,Y,Y,Y,Y,N,N,N,N,N,N,N,N,N] rfl rfl (any_of HT_.out (by kernel_rfl)) ?_
           refine pureA_ (i := 32) (N := some 118) #[Y,Y,Y,Y,Y,Y,Y,Y,Y,Y,Y,Y,Y,Y,Y,Y,Y,Y,Y,Y,Y,Y,Y,Y,Y,Y,Y,Y,Y,Y,Y,Y,Y,N,N,N,N,N,N,N,N] rfl rfl (any_of HT_.out (by kernel_rfl)) ?_
           refine pure_ (i := 33) (N := some 119) (v := undef) (a' := ?_) #[Y,Y,Y,Y,Y,Y,Y,Y,Y,Y,Y,Y,Y,Y,Y,Y,Y,Y,Y,Y,Y,Y,Y,Y,Y,Y,Y,Y,Y,Y,Y,Y,Y,Y,N,N,N,N,N,N,N] rfl rfl (any_of HT_.out (by kernel_rfl)) (fun _ _ _ h => h) (Or.inr ⟨by rfl, rfl⟩) ?_ ?_; rotate_left
           ·simp only [Act.put, sA, sB, sC, i64_w, i32_w]
            rfl
           refine pure_ (i := 34) (N := some 120) (v := undef) (a' := ?_) #[Y,Y,Y,Y,Y,Y,Y,Y,Y,Y,Y,Y,Y,Y,Y,Y,Y,Y,Y,Y,Y,Y,Y,Y,Y,Y,Y,Y,Y,Y,Y,Y,Y,Y,Y,N,N,N,N,N,N] rfl rfl (any_of HT_.out (by kernel_rfl)) (fun _ _ _ h => h) (Or.inr ⟨by rfl, rfl⟩) ?_ ?_; rotate_left
           ·simp only [Act.put, sA, sB, sC, i64_w, i32_w]
            rfl
           refine pure_ (i := 35) (N := some 121) (v := undef) (a' := ?_) #[Y,Y,Y,Y,Y,Y,Y,Y,Y,Y,Y,Y,Y,Y,Y,Y,Y,Y,Y,Y,Y,Y,Y,Y,Y,Y,Y,Y,Y,Y,Y,Y,Y,Y,Y,Y,N,N,N,N,N] rfl rfl (any_of HT_.out (by kernel_rfl)) (fun _ _ _ h => h) (Or.inr ⟨by rfl, rfl⟩) ?_ ?_; rotate_left
           ·simp only [Act.put, sA, sB, sC, i64_w, i32_w]
            rfl
           refine pure_ (i := 36) (N := some 122) (v := undef) (a' := ?_) #[Y,Y,Y,Y,Y,Y,Y,Y,Y,Y,Y,Y,Y,Y,Y,Y,Y,Y,Y,Y,Y,Y,Y,Y,Y,Y,Y,Y,Y,Y,Y,Y,Y,Y,Y,Y,Y,N,N,N,N] rfl rfl (any_of HT_.out (by kernel_rfl)) (fun _ _ _ h => h) (Or.inr ⟨by rfl, rfl⟩) ?_ ?_; rotate_left
           ·simp only [Act.put, sA, sB, sC, i64_w, i32_w]
            rfl
           refine pure_ (i := 37) (N := some 123) (v := undef) (a' := ?_) #[Y,Y,Y,Y,Y,Y,Y,Y,Y,Y,Y,Y,Y,Y,Y,Y,Y,Y,Y,Y,Y,Y,Y,Y,Y,Y,Y,Y,Y,Y,Y,Y,Y,Y,Y,Y,Y,Y,N,N,N] rfl rfl (any_of HT_.out (by kernel_rfl)) (fun _ _ _ h => h) (Or.inr ⟨by rfl, rfl⟩) ?_ ?_; rotate_left
           ·simp only [Act.put, sA, sB, sC, i64_w, i32_w]
            rfl
           refine pureA_ (i := 38) (N := some 124) #[Y,Y,Y,Y,Y,Y,Y,Y,Y,Y,Y,Y,Y,Y,Y,Y,Y,Y,Y,Y,Y,Y,Y,Y,Y,Y,Y,Y,Y,Y,Y,Y,Y,Y,Y,Y,Y,Y,Y,N,N] rfl rfl (any_of HT_.out (by kernel_rfl)) ?_
           refine pureA_ (i := 39) (N := some 125) #[Y,Y,Y,Y,Y,Y,Y,Y,Y,Y,Y,Y,Y,Y,Y,Y,Y,Y,Y,Y,Y,Y,Y,Y,Y,Y,Y,Y,Y,Y,Y,Y,Y,Y,Y,Y,Y,Y,Y,Y,N] rfl rfl (any_of HT_.out (by kernel_rfl)) ?_
           refine pureA_ (i := 40) (N := some 10) #[Y,Y,Y,Y,Y,Y,Y,Y,Y,Y,Y,Y,Y,Y,Y,Y,Y,Y,Y,Y,Y,Y,Y,Y,Y,Y,Y,Y,Y,Y,Y,Y,Y,Y,Y,Y,Y,Y,Y,Y,Y] rfl rfl (any_of HT_.out (by kernel_rfl)) ?_
           refine done_ (done_of HT_.out (by kernel_rfl)) ?_
           try go_wp2
           go_ret
           exact ⟨by first | rfl | (simp [errW_none, errW_some] <;> rfl) | (simp [*, errW_none, errW_some] <;> rfl), by repeat (first | (with_reducible first | exact HB.out | apply below_alloc | apply pw_below_drewN | apply below_drew1 | refine below_set ?_ (Aside0.out (by assumption))) | exact HB.out)⟩
         ·replace c108 := Bool.eq_false_iff.mpr c108
          subst c108
          have H1 : (none) = some r := by rw [if_neg (show ¬ (false = true) by decide)] at H; exact H
          clear H; have H := H1; clear H1; exact absurd H (by simp)
        ·replace c107 := Bool.eq_false_iff.mpr c107
         subst c107
         have H1 : (none) = some r := by rw [if_neg (show ¬ (false = true) by decide)] at H; exact H
         clear H; have H := H1; clear H1; exact absurd H (by simp)
       ·rw [if_neg c106] at H
        have c106b0 : (t363 == (wrap64 (-t322))) = false := beq_eq_false_iff_ne.mpr c106; have c106b1 : (t363 != (wrap64 (-t322))) = true := bne_iff_ne.mpr c106; exact absurd H (by simp)
      ·rw [if_neg c102] at H
       have c102b0 : (t322 == (wrap64 (-t356))) = false := beq_eq_false_iff_ne.mpr c102; have c102b1 : (t322 != (wrap64 (-t356))) = true := bne_iff_ne.mpr c102; exact absurd H (by simp)
     ·replace c100 := Bool.eq_false_iff.mpr c100
      subst c100
      have H1 : (none) = some r := by rw [if_neg (show ¬ (false = true) by decide)] at H; exact H
      clear H; have H := H1; clear H1; exact absurd H (by simp)

end Go.Proofs.Ytkoeehacildioaa.Px
