/- Printed by a program of this session (wip/tool/px.py), over the kit's print: for each Go function a Lean function, and the proof that the machine's call answers as that function says. Conditions: none beside what the theorems state. -/
import Derived.Test.YtlcobnngpcabpaaPx0
import Derived.Test.YtlcobnngpcabpaaPx1
import Derived.Test.YtlcobnngpcabpaaPx9
import Derived.Test.YtlcobnngpcabpaaPx11
import Derived.Test.YtlcobnngpcabpaaPx13
import Derived.Test.YtlcobnngpcabpaaPx17
import Derived.Test.YtlcobnngpcabpaaPx19
import Derived.Test.YtlcobnngpcabpaaPx21
import Derived.Test.YtlcobnngpcabpaaPx23
import Derived.Test.YtlcobnngpcabpaaPx25
import Derived.Test.YtlcobnngpcabpaaPx27
import Derived.Test.YtlcobnngpcabpaaPx28
import Derived.Test.YtlcobnngpcabpaaPx29
import Derived.Test.YtlcobnngpcabpaaPx30
import Derived.Test.YtlcobnngpcabpaaPx32
import Derived.Test.YtlcobnngpcabpaaPx33
import Derived.Test.YtlcobnngpcabpaaPx35
namespace Go.Proofs.Ytlcobnngpcabpaa.Px
open Go.RowKit Go.Proofs.YtlcobnngpcabpaaW.PrintWords Go.Proofs.YtlcobnngpcabpaaW.PrintLast Go.Proofs.YtlcobnngpcabpaaW.PrintMore
attribute [local go_sem] max2_int min2_int max_two min_two max_three min_three max_four min_four   -- for this text's walks alone
set_option linter.unusedVariables false
set_option linter.unusedSimpArgs false

attribute [local go_sem high] eqA24
/-! ### sawtoothlaw02_BigTells: function 3 -/
noncomputable def sawtoothlaw02_BigTells.j0 : Nat → Int → Int → Bool → Bool → Bool → Int → Int → Bool → Int → Int → Option (Bool)
 | 0, _, _, _, _, _, _, _, _, _, _ => none
 | k + 1, x2, x3, x11, x26, x428000, x428001, x428002, x429000, x429001, x429002 => if x11 = true then (if x26 = true then ((big_OfS.f x2).bind fun bt462 => ((sawtoothref02_OfS.f x2).bind fun bt465 => (if (bt462.1 == bt465.1 && (bt462.2.1 == bt465.2.1 && (bt462.2.2 == bt465.2.2))) = true then ((big_MulS.f x2 x3).bind fun bt468 => ((sawtoothref02_MulS.f x2 x3).bind fun bt471 => (if (bt468.1 == bt471.1 && (bt468.2.1 == bt471.2.1 && (bt468.2.2 == bt471.2.2))) = true then ((big_NegS.f x428000 x428001 x428002).bind fun bt474 => ((sawtoothref02_NegS.f x428000 x428001 x428002).bind fun bt477 => (if (bt474.1 == bt477.1 && (bt474.2.1 == bt477.2.1 && (bt474.2.2 == bt477.2.2))) = true then ((big_CmpS.f x428000 x428001 x428002 x429000 x429001 x429002).bind fun t480 => ((sawtoothref02_CmpS.f x428000 x428001 x428002 x429000 x429001 x429002).bind fun t481 => (if t480 = t481 then ((big_IntS.f x428000 x428001 x428002).bind fun t482 => ((sawtoothref02_IntS.f x428000 x428001 x428002).bind fun t483 => (some (t482 == t483)))) else (none)))) else (none)))) else (none)))) else (none)))) else (none)) else (none)
noncomputable def sawtoothlaw02_BigTells.f (k : Nat) (a0_0 : Bool) (a0_1 : Int) (a0_2 : Int) (a1_0 : Bool) (a1_1 : Int) (a1_2 : Int) (a2 : Int) (a3 : Int) (a4 : Int) : Option (Bool) := (sawtoothlaw02_awakeS.f).bind fun t429 => ((big_AddS.f a0_0 a0_1 a0_2 a1_0 a1_1 a1_2).bind fun bt430 => ((sawtoothref02_AddS.f a0_0 a0_1 a0_2 a1_0 a1_1 a1_2).bind fun bt435 => ((big_ScaleS.f a0_0 a0_1 a0_2 a4).bind fun bt440 => ((sawtoothref02_Scale.f a0_0 a0_1 a0_2 a4).bind fun bt445 => ((big_DivS.f a0_0 a0_1 a0_2 a4).bind fun bt450 => ((sawtoothref02_DivS.f a0_0 a0_1 a0_2 a4).bind fun bt456 => (if (bt430.1 == bt435.1 && (bt430.2.1 == bt435.2.1 && (bt430.2.2.1 == bt435.2.2.1))) = true then (if bt430.2.2.2 = bt435.2.2.2 then (if (bt440.1 == bt445.1 && (bt440.2.1 == bt445.2.1 && (bt440.2.2.1 == bt445.2.2.1))) = true then (if bt440.2.2.2 = bt445.2.2.2 then (if (bt450.1 == bt456.1 && (bt450.2.1 == bt456.2.1 && (bt450.2.2.1 == bt456.2.2.1))) = true then (if bt450.2.2.2.1 = bt456.2.2.2.1 then (sawtoothlaw02_BigTells.j0 k a2 a3 t429 (bt450.2.2.2.2 == bt456.2.2.2.2) a0_0 a0_1 a0_2 a1_0 a1_1 a1_2) else (sawtoothlaw02_BigTells.j0 k a2 a3 t429 false a0_0 a0_1 a0_2 a1_0 a1_1 a1_2)) else (sawtoothlaw02_BigTells.j0 k a2 a3 t429 false a0_0 a0_1 a0_2 a1_0 a1_1 a1_2)) else (sawtoothlaw02_BigTells.j0 k a2 a3 t429 false a0_0 a0_1 a0_2 a1_0 a1_1 a1_2)) else (sawtoothlaw02_BigTells.j0 k a2 a3 t429 false a0_0 a0_1 a0_2 a1_0 a1_1 a1_2)) else (sawtoothlaw02_BigTells.j0 k a2 a3 t429 false a0_0 a0_1 a0_2 a1_0 a1_1 a1_2)) else (sawtoothlaw02_BigTells.j0 k a2 a3 t429 false a0_0 a0_1 a0_2 a1_0 a1_1 a1_2))))))))
theorem sawtoothlaw02_BigTells.mono_l : ∀ k, (∀ y0 y1 y2 y3 y4 y5 y6 y7 y8 y9, LeO (sawtoothlaw02_BigTells.j0 k y0 y1 y2 y3 y4 y5 y6 y7 y8 y9) (sawtoothlaw02_BigTells.j0 (k + 1) y0 y1 y2 y3 y4 y5 y6 y7 y8 y9))
 | 0 => fun _ _ _ _ _ _ _ _ _ _ r h => by simp [sawtoothlaw02_BigTells.j0] at h
 | k + 1 => by
  have ih0 := sawtoothlaw02_BigTells.mono_l k
  ·intro y0 y1 y2 y3 y4 y5 y6 y7 y8 y9
   unfold sawtoothlaw02_BigTells.j0
   repeat' first
   | (with_reducible exact ih0 _ _ _ _ _ _ _ _ _ _)
   | (with_reducible exact LeO.refl _)
   | (with_reducible exact LeO.none _)
   | (with_reducible refine LeO.ite ?_ ?_)
   | (with_reducible refine LeO.bind ?_ (fun _ => ?_))
   | exact ih0 _ _ _ _ _ _ _ _ _ _
   | exact LeO.none _
   | refine LeO.ite ?_ ?_
   | refine LeO.bind ?_ (fun _ => ?_)
theorem sawtoothlaw02_BigTells.mono : ∀ a0 a1 a2 a3 a4 a5 a6 a7 a8 k, LeO (sawtoothlaw02_BigTells.f k a0 a1 a2 a3 a4 a5 a6 a7 a8) (sawtoothlaw02_BigTells.f (k + 1) a0 a1 a2 a3 a4 a5 a6 a7 a8) := by
 intro a0 a1 a2 a3 a4 a5 a6 a7 a8 k; have ih0 := sawtoothlaw02_BigTells.mono_l k
 unfold sawtoothlaw02_BigTells.f
 repeat' first
   | (with_reducible exact ih0 _ _ _ _ _ _ _ _ _ _)
   | (with_reducible exact LeO.refl _)
   | (with_reducible exact LeO.none _)
   | (with_reducible refine LeO.ite ?_ ?_)
   | (with_reducible refine LeO.bind ?_ (fun _ => ?_))
   | exact ih0 _ _ _ _ _ _ _ _ _ _
   | exact LeO.none _
   | refine LeO.ite ?_ ?_
   | refine LeO.bind ?_ (fun _ => ?_)
def sawtoothlaw02_BigTells.T9 : Bool × List (List Nat × List Nat) := (true, [([], []), ([0], [0]), ([1], [1]), ([1, 2], [1, 2]), ([3, 1], [3]), ([4], [4]), ([5, 4, 4], [4, 5]), ([4], [4]), ([7, 6, 4], [4, 7]), ([6, 8, 4], [4, 6, 8]), ([4, 9], [4, 9]), ([10, 8], [10]), ([11], [11]), ([11], [11]), ([12, 13, 11, 11], [11, 12, 13]), ([11], [11]), ([11], [11]), ([15, 16, 14, 11], [11, 15, 16]), ([14, 17, 11], [11, 14, 17]), ([11, 18], [11, 18]), ([19, 17], [19]), ([20], [20]), ([21, 20, 20], [20, 21]), ([20], [20]), ([23, 22, 20], [20, 23]), ([22, 24, 20], [20, 22, 24]), ([20, 25], [20, 25]), ([26, 24], [26]), ([27], [27]), ([27], [27]), ([28, 29, 27, 27], [27, 28, 29]), ([27], [27]), ([27], [27]), ([31, 32, 30, 27], [27, 31, 32]), ([30, 33, 27], [27, 30, 33]), ([27, 34], [27, 34]), ([35, 33], [35]), ([36], [36]), ([37, 36, 36], [36, 37]), ([36], [36]), ([39, 38, 36], [36, 39]), ([38, 40, 36], [36, 38, 40]), ([36, 41], [36, 41]), ([42, 40, 0, 1, 2, 3, 4, 5, 6, 7, 8, 9, 10, 11, 12, 13, 14, 15, 16, 17, 18, 19, 20, 21, 22, 23, 24, 25, 26, 27, 28, 29, 30, 31, 32, 33, 34, 35, 36, 37, 38, 39, 40, 41, 42], [42])])
def sawtoothlaw02_BigTells.B9 : List Nat := [0, 1, 3, 7, 15, 31, 63, 31, 255, 511, 1023, 2047, 4095, 4095, 16383, 4095, 4095, 131071, 262143, 524287, 1048575, 2097151, 4194303, 2097151, 16777215, 33554431, 67108863, 134217727, 268435455, 268435455, 1073741823, 268435455, 268435455, 8589934591, 17179869183, 34359738367, 68719476735, 137438953471, 274877906943, 137438953471, 1099511627775, 2199023255551, 4398046511103, 8796093022207]
theorem sawtoothlaw02_BigTells.tab9 : rtab .any (opsOf Try.f3 9) = sawtoothlaw02_BigTells.T9 := by kernel_rfl
theorem sawtoothlaw02_BigTells.bits9 : waitsOk sawtoothlaw02_BigTells.T9.2 sawtoothlaw02_BigTells.B9 = true := by kernel_rfl
set_option maxHeartbeats 8000000 in
set_option maxRecDepth 100000 in
theorem sawtoothlaw02_BigTells.calls (k : Nat) (a0_0 : Bool) (a0_1 : Int) (a0_2 : Int) (a1_0 : Bool) (a1_1 : Int) (a1_2 : Int) (a2 : Int) (a3 : Int) (a4 : Int) (r : Bool) (w : World) (h : sawtoothlaw02_BigTells.f k a0_0 a0_1 a0_2 a1_0 a1_1 a1_2 a2 a3 a4 = some r) :
  Calls Try.prog 3 #[.agg #[.bool a0_0, .int .u64 a0_1, .int .u64 a0_2], .agg #[.bool a1_0, .int .u64 a1_1, .int .u64 a1_2], .int .i64 a2, .int .i64 a3, .int .u64 a4] w fun e w' => e = .returned (.bool r) ∧ Below w.heap.size w w' := by
 have hu24 := Try.underlying24; have HB := Aside0.mk (Below.refl w.heap.size w); have H : ((sawtoothlaw02_awakeS.f).bind fun t429 => ((big_AddS.f a0_0 a0_1 a0_2 a1_0 a1_1 a1_2).bind fun bt430 => ((sawtoothref02_AddS.f a0_0 a0_1 a0_2 a1_0 a1_1 a1_2).bind fun bt435 => ((big_ScaleS.f a0_0 a0_1 a0_2 a4).bind fun bt440 => ((sawtoothref02_Scale.f a0_0 a0_1 a0_2 a4).bind fun bt445 => ((big_DivS.f a0_0 a0_1 a0_2 a4).bind fun bt450 => ((sawtoothref02_DivS.f a0_0 a0_1 a0_2 a4).bind fun bt456 => (if (bt430.1 == bt435.1 && (bt430.2.1 == bt435.2.1 && (bt430.2.2.1 == bt435.2.2.1))) = true then (if bt430.2.2.2 = bt435.2.2.2 then (if (bt440.1 == bt445.1 && (bt440.2.1 == bt445.2.1 && (bt440.2.2.1 == bt445.2.2.1))) = true then (if bt440.2.2.2 = bt445.2.2.2 then (if (bt450.1 == bt456.1 && (bt450.2.1 == bt456.2.1 && (bt450.2.2.1 == bt456.2.2.1))) = true then (if bt450.2.2.2.1 = bt456.2.2.2.1 then (sawtoothlaw02_BigTells.j0 k a2 a3 t429 (bt450.2.2.2.2 == bt456.2.2.2.2) a0_0 a0_1 a0_2 a1_0 a1_1 a1_2) else (sawtoothlaw02_BigTells.j0 k a2 a3 t429 false a0_0 a0_1 a0_2 a1_0 a1_1 a1_2)) else (sawtoothlaw02_BigTells.j0 k a2 a3 t429 false a0_0 a0_1 a0_2 a1_0 a1_1 a1_2)) else (sawtoothlaw02_BigTells.j0 k a2 a3 t429 false a0_0 a0_1 a0_2 a1_0 a1_1 a1_2)) else (sawtoothlaw02_BigTells.j0 k a2 a3 t429 false a0_0 a0_1 a0_2 a1_0 a1_1 a1_2)) else (sawtoothlaw02_BigTells.j0 k a2 a3 t429 false a0_0 a0_1 a0_2 a1_0 a1_1 a1_2)) else (sawtoothlaw02_BigTells.j0 k a2 a3 t429 false a0_0 a0_1 a0_2 a1_0 a1_1 a1_2))))))))) = some r := h; clear h; replace H := Option.bind_eq_some_iff.mp H; obtain ⟨t429, A60, H⟩ := H; (try dsimp only at H); have A6 := Aside0.mk A60; clear A60; replace H := Option.bind_eq_some_iff.mp H; obtain ⟨⟨t430, t431, t432, t433⟩, A70, H⟩ := H; (try dsimp only at H); have A7 := Aside0.mk A70; clear A70; replace H := Option.bind_eq_some_iff.mp H; obtain ⟨⟨t435, t436, t437, t438⟩, A80, H⟩ := H; (try dsimp only at H); have A8 := Aside0.mk A80; clear A80; replace H := Option.bind_eq_some_iff.mp H; obtain ⟨⟨t440, t441, t442, t443⟩, A90, H⟩ := H; (try dsimp only at H); have A9 := Aside0.mk A90; clear A90; replace H := Option.bind_eq_some_iff.mp H; obtain ⟨⟨t445, t446, t447, t448⟩, A100, H⟩ := H; (try dsimp only at H); have A10 := Aside0.mk A100; clear A100; replace H := Option.bind_eq_some_iff.mp H; obtain ⟨⟨t450, t451, t452, t453, t454⟩, A110, H⟩ := H; (try dsimp only at H); have A11 := Aside0.mk A110; clear A110; replace H := Option.bind_eq_some_iff.mp H; obtain ⟨⟨t456, t457, t458, t459, t460⟩, A120, H⟩ := H; (try dsimp only at H); have A12 := Aside0.mk A120; clear A120; have HC13 := Aside0.mk H; clear H
 go_enter Try.func3, Try.ntmps3
 go_upto_region 8 with (first | ((with_reducible refine gate_dst (N := 5) rfl ?_); refine box_event ?hg (N := 5) ?hd (cs := #[.bool a0_0, .int .u64 a0_1, .int .u64 a0_2]) (t := 24) ?hr ?_; (case hd => rfl); (case hg => rfl); (case hr => first | (go_simp; done) | (go_simp; rfl)); intro gb427 hg w14 hbox hb; have BK427 := Aside0.mk (hbox); obtain ⟨GW427, nHB⟩ := geA hg hb; have GE427 := GW427; replace HB := nHB; clear nHB; clear hb hbox hg) | ((with_reducible refine gate_dst (N := 6) rfl ?_); refine box_event ?hg (N := 6) ?hd (cs := #[.bool a1_0, .int .u64 a1_1, .int .u64 a1_2]) (t := 24) ?hr ?_; (case hd => rfl); (case hg => rfl); (case hr => first | (go_simp; done) | (go_simp; rfl)); intro gb428 hg w15 hbox hb; have BK428 := Aside0.mk (hbox); obtain ⟨GW428, nHB⟩ := geA hg hb; have GE428 := GW428; obtain ⟨NB427_428, NB428_427, nBK⟩ := nbA BK427 hg hb; replace BK427 := nBK; clear nBK; replace HB := nHB; clear nHB; clear hb hbox hg) | ((with_reducible refine gate_callee (f := 4) rfl ?_); refine goesLA_ (some 27) rfl rfl Try.func4 rfl #[] rfl ?_; (with_reducible refine (sawtoothlaw02_awakeS.calls  t429 _ A6.out).mono ?_); rintro e w16 ⟨rfl, hb⟩; refine ⟨_, rfl, ?_⟩; replace BK427 := bdZ BK427 hb; replace BK428 := bdZ BK428 hb; replace HB := stA hb; clear hb; have hnb17 := NB427_428.out; have hnc17 := NB428_427.out; have hcz18_0 := czZ BK427 0 (.bool a0_0); have hcz18_1 := czZ BK427 1 (.int .u64 a0_1); have hcz18_2 := czZ BK427 2 (.int .u64 a0_2); have hfz18_0 := blk_frozen BK427.out 0; have hfz18_1 := blk_frozen BK427.out 1; have hfz18_2 := blk_frozen BK427.out 2; have hcz19_0 := czZ BK428 0 (.bool a1_0); have hcz19_1 := czZ BK428 1 (.int .u64 a1_1); have hcz19_2 := czZ BK428 2 (.int .u64 a1_2); have hfz19_0 := blk_frozen BK428.out 0; have hfz19_1 := blk_frozen BK428.out 1; have hfz19_2 := blk_frozen BK428.out 2) | ((with_reducible refine gate_callee (f := 5) rfl ?_); refine goesLA_ (some 31) rfl rfl Try.func5 rfl #[.agg #[.bool a0_0, .int .u64 a0_1, .int .u64 a0_2], .agg #[.bool a1_0, .int .u64 a1_1, .int .u64 a1_2]] rfl ?_; (with_reducible refine (big_AddS.calls a0_0 a0_1 a0_2 a1_0 a1_1 a1_2 t430 t431 t432 t433 _ A7.out).mono ?_); rintro e w20 ⟨rfl, hb⟩; refine ⟨_, rfl, ?_⟩; replace BK427 := bdZ BK427 hb; replace BK428 := bdZ BK428 hb; replace HB := stA hb; clear hb) | ((with_reducible refine gate_dst (N := 12) rfl ?_); refine box_event ?hg (N := 12) ?hd (cs := #[.bool false, .int .u64 0, .int .u64 0]) (t := 24) ?hr ?_; (case hd => rfl); (case hg => rfl); (case hr => first | (go_simp; done) | (go_simp; rfl)); intro gb434 hg w21 hbox hb; have BK434 := Aside0.mk (hbox); obtain ⟨GW434, nHB⟩ := geA hg hb; have GE434 := GW434; obtain ⟨NB427_434, NB434_427, nBK⟩ := nbA BK427 hg hb; replace BK427 := nBK; clear nBK; obtain ⟨NB428_434, NB434_428, nBK⟩ := nbA BK428 hg hb; replace BK428 := nBK; clear nBK; replace HB := nHB; clear nHB; clear hb hbox hg; have hnb22 := NB434_427.out; have hnc22 := NB427_434.out; have hnb23 := NB434_428.out; have hnc23 := NB428_434.out; have hcz24_0 := czZ BK434 0 (.bool false); have hcz24_1 := czZ BK434 1 (.int .u64 0); have hcz24_2 := czZ BK434 2 (.int .u64 0); have hfz24_0 := blk_frozen BK434.out 0; have hfz24_1 := blk_frozen BK434.out 1; have hfz24_2 := blk_frozen BK434.out 2; have hcz25_0 := czZ BK427 0 (.bool a0_0); have hcz25_1 := czZ BK427 1 (.int .u64 a0_1); have hcz25_2 := czZ BK427 2 (.int .u64 a0_2); have hfz25_0 := blk_frozen BK427.out 0; have hfz25_1 := blk_frozen BK427.out 1; have hfz25_2 := blk_frozen BK427.out 2; have hcz26_0 := czZ BK428 0 (.bool a1_0); have hcz26_1 := czZ BK428 1 (.int .u64 a1_1); have hcz26_2 := czZ BK428 2 (.int .u64 a1_2); have hfz26_0 := blk_frozen BK428.out 0; have hfz26_1 := blk_frozen BK428.out 1; have hfz26_2 := blk_frozen BK428.out 2) | ((with_reducible refine gate_callee (f := 6) rfl ?_); refine goesLA_ (some 37) rfl rfl Try.func6 rfl #[.agg #[.bool a0_0, .int .u64 a0_1, .int .u64 a0_2], .agg #[.bool a1_0, .int .u64 a1_1, .int .u64 a1_2]] rfl ?_; (with_reducible refine (sawtoothref02_AddS.calls a0_0 a0_1 a0_2 a1_0 a1_1 a1_2 t435 t436 t437 t438 _ A8.out).mono ?_); rintro e w27 ⟨rfl, hb⟩; refine ⟨_, rfl, ?_⟩; replace BK427 := bfZ BK427 (fun h_ => by (with_reducible repeat first | apply blk_drewN | apply blk_drew | apply blk_alloc | refine farZ ?_ NB427_434 _); exact h_) hb; replace BK428 := bfZ BK428 (fun h_ => by (with_reducible repeat first | apply blk_drewN | apply blk_drew | apply blk_alloc | refine farZ ?_ NB428_434 _); exact h_) hb; replace BK434 := Aside0.mk (blk_below (g := gb434) (o := .cells #[.bool t430, .int .u64 t431, .int .u64 t432] 24 (0, 0)) (by (with_reducible repeat first | apply blk_drewN | apply blk_drew | apply blk_alloc); refine blk_put (cs := #[.bool t430, .int .u64 t431, .int .u64 0]) ?_ 2 _ rfl; (with_reducible repeat first | apply blk_drewN | apply blk_drew | apply blk_alloc); refine blk_put (cs := #[.bool t430, .int .u64 0, .int .u64 0]) ?_ 1 _ rfl; (with_reducible repeat first | apply blk_drewN | apply blk_drew | apply blk_alloc); refine blk_put (cs := #[.bool false, .int .u64 0, .int .u64 0]) ?_ 0 _ rfl; (with_reducible repeat first | apply blk_drewN | apply blk_drew | apply blk_alloc); exact BK434.out) hb); replace HB := stA hb; clear hb) | ((with_reducible refine gate_dst (N := 14) rfl ?_); refine box_event ?hg (N := 14) ?hd (cs := #[.bool false, .int .u64 0, .int .u64 0]) (t := 24) ?hr ?_; (case hd => rfl); (case hg => rfl); (case hr => first | (go_simp; done) | (go_simp; rfl)); intro gb439 hg w28 hbox hb; have BK439 := Aside0.mk (hbox); obtain ⟨GW439, nHB⟩ := geA hg hb; have GE439 := GW439; obtain ⟨NB427_439, NB439_427, nBK⟩ := nbA BK427 hg hb; replace BK427 := nBK; clear nBK; obtain ⟨NB428_439, NB439_428, nBK⟩ := nbA BK428 hg hb; replace BK428 := nBK; clear nBK; obtain ⟨NB434_439, NB439_434, nBK⟩ := nbA BK434 hg hb; replace BK434 := nBK; clear nBK; replace HB := nHB; clear nHB; clear hb hbox hg; have hnb29 := NB439_427.out; have hnc29 := NB427_439.out; have hnb30 := NB439_428.out; have hnc30 := NB428_439.out; have hnb31 := NB439_434.out; have hnc31 := NB434_439.out; have hcz32_0 := czZ BK439 0 (.bool false); have hcz32_1 := czZ BK439 1 (.int .u64 0); have hcz32_2 := czZ BK439 2 (.int .u64 0); have hfz32_0 := blk_frozen BK439.out 0; have hfz32_1 := blk_frozen BK439.out 1; have hfz32_2 := blk_frozen BK439.out 2; have hcz33_0 := czZ BK427 0 (.bool a0_0); have hcz33_1 := czZ BK427 1 (.int .u64 a0_1); have hcz33_2 := czZ BK427 2 (.int .u64 a0_2); have hfz33_0 := blk_frozen BK427.out 0; have hfz33_1 := blk_frozen BK427.out 1; have hfz33_2 := blk_frozen BK427.out 2) | ((with_reducible refine gate_callee (f := 7) rfl ?_); refine goesLA_ (some 43) rfl rfl Try.func7 rfl #[.agg #[.bool a0_0, .int .u64 a0_1, .int .u64 a0_2], .int .u64 a4] rfl ?_; (with_reducible refine (big_ScaleS.calls a0_0 a0_1 a0_2 a4 t440 t441 t442 t443 _ A9.out).mono ?_); rintro e w34 ⟨rfl, hb⟩; refine ⟨_, rfl, ?_⟩; replace BK427 := bfZ BK427 (fun h_ => by (with_reducible repeat first | apply blk_drewN | apply blk_drew | apply blk_alloc | refine farZ ?_ NB427_439 _); exact h_) hb; replace BK428 := bfZ BK428 (fun h_ => by (with_reducible repeat first | apply blk_drewN | apply blk_drew | apply blk_alloc | refine farZ ?_ NB428_439 _); exact h_) hb; replace BK434 := bfZ BK434 (fun h_ => by (with_reducible repeat first | apply blk_drewN | apply blk_drew | apply blk_alloc | refine farZ ?_ NB434_439 _); exact h_) hb; replace BK439 := Aside0.mk (blk_below (g := gb439) (o := .cells #[.bool t435, .int .u64 t436, .int .u64 t437] 24 (0, 0)) (by (with_reducible repeat first | apply blk_drewN | apply blk_drew | apply blk_alloc); refine blk_put (cs := #[.bool t435, .int .u64 t436, .int .u64 0]) ?_ 2 _ rfl; (with_reducible repeat first | apply blk_drewN | apply blk_drew | apply blk_alloc); refine blk_put (cs := #[.bool t435, .int .u64 0, .int .u64 0]) ?_ 1 _ rfl; (with_reducible repeat first | apply blk_drewN | apply blk_drew | apply blk_alloc); refine blk_put (cs := #[.bool false, .int .u64 0, .int .u64 0]) ?_ 0 _ rfl; (with_reducible repeat first | apply blk_drewN | apply blk_drew | apply blk_alloc); exact BK439.out) hb); replace HB := stA hb; clear hb) | ((with_reducible refine gate_dst (N := 16) rfl ?_); refine box_event ?hg (N := 16) ?hd (cs := #[.bool false, .int .u64 0, .int .u64 0]) (t := 24) ?hr ?_; (case hd => rfl); (case hg => rfl); (case hr => first | (go_simp; done) | (go_simp; rfl)); intro gb444 hg w35 hbox hb; have BK444 := Aside0.mk (hbox); obtain ⟨GW444, nHB⟩ := geA hg hb; have GE444 := GW444; obtain ⟨NB427_444, NB444_427, nBK⟩ := nbA BK427 hg hb; replace BK427 := nBK; clear nBK; obtain ⟨NB428_444, NB444_428, nBK⟩ := nbA BK428 hg hb; replace BK428 := nBK; clear nBK; obtain ⟨NB434_444, NB444_434, nBK⟩ := nbA BK434 hg hb; replace BK434 := nBK; clear nBK; obtain ⟨NB439_444, NB444_439, nBK⟩ := nbA BK439 hg hb; replace BK439 := nBK; clear nBK; replace HB := nHB; clear nHB; clear hb hbox hg; have hnb36 := NB444_427.out; have hnc36 := NB427_444.out; have hnb37 := NB444_428.out; have hnc37 := NB428_444.out; have hnb38 := NB444_434.out; have hnc38 := NB434_444.out; have hnb39 := NB444_439.out; have hnc39 := NB439_444.out; have hcz40_0 := czZ BK444 0 (.bool false); have hcz40_1 := czZ BK444 1 (.int .u64 0); have hcz40_2 := czZ BK444 2 (.int .u64 0); have hfz40_0 := blk_frozen BK444.out 0; have hfz40_1 := blk_frozen BK444.out 1; have hfz40_2 := blk_frozen BK444.out 2; have hcz41_0 := czZ BK427 0 (.bool a0_0); have hcz41_1 := czZ BK427 1 (.int .u64 a0_1); have hcz41_2 := czZ BK427 2 (.int .u64 a0_2); have hfz41_0 := blk_frozen BK427.out 0; have hfz41_1 := blk_frozen BK427.out 1; have hfz41_2 := blk_frozen BK427.out 2) | ((with_reducible refine gate_callee (f := 8) rfl ?_); refine goesLA_ (some 49) rfl rfl Try.func8 rfl #[.agg #[.bool a0_0, .int .u64 a0_1, .int .u64 a0_2], .int .u64 a4] rfl ?_; (with_reducible refine (sawtoothref02_Scale.calls a0_0 a0_1 a0_2 a4 t445 t446 t447 t448 _ A10.out).mono ?_); rintro e w42 ⟨rfl, hb⟩; refine ⟨_, rfl, ?_⟩; replace BK427 := bfZ BK427 (fun h_ => by (with_reducible repeat first | apply blk_drewN | apply blk_drew | apply blk_alloc | refine farZ ?_ NB427_444 _); exact h_) hb; replace BK428 := bfZ BK428 (fun h_ => by (with_reducible repeat first | apply blk_drewN | apply blk_drew | apply blk_alloc | refine farZ ?_ NB428_444 _); exact h_) hb; replace BK434 := bfZ BK434 (fun h_ => by (with_reducible repeat first | apply blk_drewN | apply blk_drew | apply blk_alloc | refine farZ ?_ NB434_444 _); exact h_) hb; replace BK439 := bfZ BK439 (fun h_ => by (with_reducible repeat first | apply blk_drewN | apply blk_drew | apply blk_alloc | refine farZ ?_ NB439_444 _); exact h_) hb; replace BK444 := Aside0.mk (blk_below (g := gb444) (o := .cells #[.bool t440, .int .u64 t441, .int .u64 t442] 24 (0, 0)) (by (with_reducible repeat first | apply blk_drewN | apply blk_drew | apply blk_alloc); refine blk_put (cs := #[.bool t440, .int .u64 t441, .int .u64 0]) ?_ 2 _ rfl; (with_reducible repeat first | apply blk_drewN | apply blk_drew | apply blk_alloc); refine blk_put (cs := #[.bool t440, .int .u64 0, .int .u64 0]) ?_ 1 _ rfl; (with_reducible repeat first | apply blk_drewN | apply blk_drew | apply blk_alloc); refine blk_put (cs := #[.bool false, .int .u64 0, .int .u64 0]) ?_ 0 _ rfl; (with_reducible repeat first | apply blk_drewN | apply blk_drew | apply blk_alloc); exact BK444.out) hb); replace HB := stA hb; clear hb) | ((with_reducible refine gate_dst (N := 18) rfl ?_); refine box_event ?hg (N := 18) ?hd (cs := #[.bool false, .int .u64 0, .int .u64 0]) (t := 24) ?hr ?_; (case hd => rfl); (case hg => rfl); (case hr => first | (go_simp; done) | (go_simp; rfl)); intro gb449 hg w43 hbox hb; have BK449 := Aside0.mk (hbox); obtain ⟨GW449, nHB⟩ := geA hg hb; have GE449 := GW449; obtain ⟨NB427_449, NB449_427, nBK⟩ := nbA BK427 hg hb; replace BK427 := nBK; clear nBK; obtain ⟨NB428_449, NB449_428, nBK⟩ := nbA BK428 hg hb; replace BK428 := nBK; clear nBK; obtain ⟨NB434_449, NB449_434, nBK⟩ := nbA BK434 hg hb; replace BK434 := nBK; clear nBK; obtain ⟨NB439_449, NB449_439, nBK⟩ := nbA BK439 hg hb; replace BK439 := nBK; clear nBK; obtain ⟨NB444_449, NB449_444, nBK⟩ := nbA BK444 hg hb; replace BK444 := nBK; clear nBK; replace HB := nHB; clear nHB; clear hb hbox hg; have hnb44 := NB449_427.out; have hnc44 := NB427_449.out; have hnb45 := NB449_428.out; have hnc45 := NB428_449.out; have hnb46 := NB449_434.out; have hnc46 := NB434_449.out; have hnb47 := NB449_439.out; have hnc47 := NB439_449.out; have hnb48 := NB449_444.out; have hnc48 := NB444_449.out; have hcz49_0 := czZ BK449 0 (.bool false); have hcz49_1 := czZ BK449 1 (.int .u64 0); have hcz49_2 := czZ BK449 2 (.int .u64 0); have hfz49_0 := blk_frozen BK449.out 0; have hfz49_1 := blk_frozen BK449.out 1; have hfz49_2 := blk_frozen BK449.out 2; have hcz50_0 := czZ BK427 0 (.bool a0_0); have hcz50_1 := czZ BK427 1 (.int .u64 a0_1); have hcz50_2 := czZ BK427 2 (.int .u64 a0_2); have hfz50_0 := blk_frozen BK427.out 0; have hfz50_1 := blk_frozen BK427.out 1; have hfz50_2 := blk_frozen BK427.out 2) | ((with_reducible refine gate_callee (f := 9) rfl ?_); refine goesLA_ (some 55) rfl rfl Try.func9 rfl #[.agg #[.bool a0_0, .int .u64 a0_1, .int .u64 a0_2], .int .u64 a4] rfl ?_; (with_reducible refine (big_DivS.calls a0_0 a0_1 a0_2 a4 t450 t451 t452 t453 t454 _ A11.out).mono ?_); rintro e w51 ⟨rfl, hb⟩; refine ⟨_, rfl, ?_⟩; replace BK427 := bfZ BK427 (fun h_ => by (with_reducible repeat first | apply blk_drewN | apply blk_drew | apply blk_alloc | refine farZ ?_ NB427_449 _); exact h_) hb; replace BK428 := bfZ BK428 (fun h_ => by (with_reducible repeat first | apply blk_drewN | apply blk_drew | apply blk_alloc | refine farZ ?_ NB428_449 _); exact h_) hb; replace BK434 := bfZ BK434 (fun h_ => by (with_reducible repeat first | apply blk_drewN | apply blk_drew | apply blk_alloc | refine farZ ?_ NB434_449 _); exact h_) hb; replace BK439 := bfZ BK439 (fun h_ => by (with_reducible repeat first | apply blk_drewN | apply blk_drew | apply blk_alloc | refine farZ ?_ NB439_449 _); exact h_) hb; replace BK444 := bfZ BK444 (fun h_ => by (with_reducible repeat first | apply blk_drewN | apply blk_drew | apply blk_alloc | refine farZ ?_ NB444_449 _); exact h_) hb; replace BK449 := Aside0.mk (blk_below (g := gb449) (o := .cells #[.bool t445, .int .u64 t446, .int .u64 t447] 24 (0, 0)) (by (with_reducible repeat first | apply blk_drewN | apply blk_drew | apply blk_alloc); refine blk_put (cs := #[.bool t445, .int .u64 t446, .int .u64 0]) ?_ 2 _ rfl; (with_reducible repeat first | apply blk_drewN | apply blk_drew | apply blk_alloc); refine blk_put (cs := #[.bool t445, .int .u64 0, .int .u64 0]) ?_ 1 _ rfl; (with_reducible repeat first | apply blk_drewN | apply blk_drew | apply blk_alloc); refine blk_put (cs := #[.bool false, .int .u64 0, .int .u64 0]) ?_ 0 _ rfl; (with_reducible repeat first | apply blk_drewN | apply blk_drew | apply blk_alloc); exact BK449.out) hb); replace HB := stA hb; clear hb) | ((with_reducible refine gate_dst (N := 20) rfl ?_); refine box_event ?hg (N := 20) ?hd (cs := #[.bool false, .int .u64 0, .int .u64 0]) (t := 24) ?hr ?_; (case hd => rfl); (case hg => rfl); (case hr => first | (go_simp; done) | (go_simp; rfl)); intro gb455 hg w52 hbox hb; have BK455 := Aside0.mk (hbox); obtain ⟨GW455, nHB⟩ := geA hg hb; have GE455 := GW455; obtain ⟨NB427_455, NB455_427, nBK⟩ := nbA BK427 hg hb; replace BK427 := nBK; clear nBK; obtain ⟨NB428_455, NB455_428, nBK⟩ := nbA BK428 hg hb; replace BK428 := nBK; clear nBK; obtain ⟨NB434_455, NB455_434, nBK⟩ := nbA BK434 hg hb; replace BK434 := nBK; clear nBK; obtain ⟨NB439_455, NB455_439, nBK⟩ := nbA BK439 hg hb; replace BK439 := nBK; clear nBK; obtain ⟨NB444_455, NB455_444, nBK⟩ := nbA BK444 hg hb; replace BK444 := nBK; clear nBK; obtain ⟨NB449_455, NB455_449, nBK⟩ := nbA BK449 hg hb; replace BK449 := nBK; clear nBK; replace HB := nHB; clear nHB; clear hb hbox hg; have hnb53 := NB455_427.out; have hnc53 := NB427_455.out; have hnb54 := NB455_428.out; have hnc54 := NB428_455.out; have hnb55 := NB455_434.out; have hnc55 := NB434_455.out; have hnb56 := NB455_439.out; have hnc56 := NB439_455.out; have hnb57 := NB455_444.out; have hnc57 := NB444_455.out; have hnb58 := NB455_449.out; have hnc58 := NB449_455.out; have hcz59_0 := czZ BK455 0 (.bool false); have hcz59_1 := czZ BK455 1 (.int .u64 0); have hcz59_2 := czZ BK455 2 (.int .u64 0); have hfz59_0 := blk_frozen BK455.out 0; have hfz59_1 := blk_frozen BK455.out 1; have hfz59_2 := blk_frozen BK455.out 2; have hcz60_0 := czZ BK427 0 (.bool a0_0); have hcz60_1 := czZ BK427 1 (.int .u64 a0_1); have hcz60_2 := czZ BK427 2 (.int .u64 a0_2); have hfz60_0 := blk_frozen BK427.out 0; have hfz60_1 := blk_frozen BK427.out 1; have hfz60_2 := blk_frozen BK427.out 2) | ((with_reducible refine gate_callee (f := 10) rfl ?_); refine goesLA_ (some 62) rfl rfl Try.func10 rfl #[.agg #[.bool a0_0, .int .u64 a0_1, .int .u64 a0_2], .int .u64 a4] rfl ?_; (with_reducible refine (sawtoothref02_DivS.calls a0_0 a0_1 a0_2 a4 t456 t457 t458 t459 t460 _ A12.out).mono ?_); rintro e w61 ⟨rfl, hb⟩; refine ⟨_, rfl, ?_⟩; replace BK427 := bfZ BK427 (fun h_ => by (with_reducible repeat first | apply blk_drewN | apply blk_drew | apply blk_alloc | refine farZ ?_ NB427_455 _); exact h_) hb; replace BK428 := bfZ BK428 (fun h_ => by (with_reducible repeat first | apply blk_drewN | apply blk_drew | apply blk_alloc | refine farZ ?_ NB428_455 _); exact h_) hb; replace BK434 := bfZ BK434 (fun h_ => by (with_reducible repeat first | apply blk_drewN | apply blk_drew | apply blk_alloc | refine farZ ?_ NB434_455 _); exact h_) hb; replace BK439 := bfZ BK439 (fun h_ => by (with_reducible repeat first | apply blk_drewN | apply blk_drew | apply blk_alloc | refine farZ ?_ NB439_455 _); exact h_) hb; replace BK444 := bfZ BK444 (fun h_ => by (with_reducible repeat first | apply blk_drewN | apply blk_drew | apply blk_alloc | refine farZ ?_ NB444_455 _); exact h_) hb; replace BK449 := bfZ BK449 (fun h_ => by (with_reducible repeat first | apply blk_drewN | apply blk_drew | apply blk_alloc | refine farZ ?_ NB449_455 _); exact h_) hb; replace BK455 := Aside0.mk (blk_below (g := gb455) (o := .cells #[.bool t450, .int .u64 t451, .int .u64 t452] 24 (0, 0)) (by (with_reducible repeat first | apply blk_drewN | apply blk_drew | apply blk_alloc); refine blk_put (cs := #[.bool t450, .int .u64 t451, .int .u64 0]) ?_ 2 _ rfl; (with_reducible repeat first | apply blk_drewN | apply blk_drew | apply blk_alloc); refine blk_put (cs := #[.bool t450, .int .u64 0, .int .u64 0]) ?_ 1 _ rfl; (with_reducible repeat first | apply blk_drewN | apply blk_drew | apply blk_alloc); refine blk_put (cs := #[.bool false, .int .u64 0, .int .u64 0]) ?_ 0 _ rfl; (with_reducible repeat first | apply blk_drewN | apply blk_drew | apply blk_alloc); exact BK455.out) hb); replace HB := stA hb; clear hb) | ((with_reducible refine gate_dst (N := 23) rfl ?_); refine box_event ?hg (N := 23) ?hd (cs := #[.bool false, .int .u64 0, .int .u64 0]) (t := 24) ?hr ?_; (case hd => rfl); (case hg => rfl); (case hr => first | (go_simp; done) | (go_simp; rfl)); intro gb461 hg w62 hbox hb; have BK461 := Aside0.mk (hbox); obtain ⟨GW461, nHB⟩ := geA hg hb; have GE461 := GW461; obtain ⟨NB427_461, NB461_427, nBK⟩ := nbA BK427 hg hb; replace BK427 := nBK; clear nBK; obtain ⟨NB428_461, NB461_428, nBK⟩ := nbA BK428 hg hb; replace BK428 := nBK; clear nBK; obtain ⟨NB434_461, NB461_434, nBK⟩ := nbA BK434 hg hb; replace BK434 := nBK; clear nBK; obtain ⟨NB439_461, NB461_439, nBK⟩ := nbA BK439 hg hb; replace BK439 := nBK; clear nBK; obtain ⟨NB444_461, NB461_444, nBK⟩ := nbA BK444 hg hb; replace BK444 := nBK; clear nBK; obtain ⟨NB449_461, NB461_449, nBK⟩ := nbA BK449 hg hb; replace BK449 := nBK; clear nBK; obtain ⟨NB455_461, NB461_455, nBK⟩ := nbA BK455 hg hb; replace BK455 := nBK; clear nBK; replace HB := nHB; clear nHB; clear hb hbox hg; have hnb63 := NB461_427.out; have hnc63 := NB427_461.out; have hnb64 := NB461_428.out; have hnc64 := NB428_461.out; have hnb65 := NB461_434.out; have hnc65 := NB434_461.out; have hnb66 := NB461_439.out; have hnc66 := NB439_461.out; have hnb67 := NB461_444.out; have hnc67 := NB444_461.out; have hnb68 := NB461_449.out; have hnc68 := NB449_461.out; have hnb69 := NB461_455.out; have hnc69 := NB455_461.out; have hcz70_0 := czZ BK461 0 (.bool false); have hcz70_1 := czZ BK461 1 (.int .u64 0); have hcz70_2 := czZ BK461 2 (.int .u64 0); have hfz70_0 := blk_frozen BK461.out 0; have hfz70_1 := blk_frozen BK461.out 1; have hfz70_2 := blk_frozen BK461.out 2))
 (try simp only [Act.put, sA, sB, sC])
 go_cut [26] (fun v26 wc => ∃ (kq : Nat) (x26_12 : Bool), v26 = .bool x26_12 ∧ Aside0 (sawtoothlaw02_BigTells.j0 kq a2 a3 t429 x26_12 a0_0 a0_1 a0_2 a1_0 a1_1 a1_2 = some r) ∧ Aside0 (kq ≤ k) ∧ Aside0 (wc.heap[gb427]? = some (.cells #[.bool a0_0, .int .u64 a0_1, .int .u64 a0_2] 24 (0, 0))) ∧ Aside0 (wc.heap[gb428]? = some (.cells #[.bool a1_0, .int .u64 a1_1, .int .u64 a1_2] 24 (0, 0))) ∧ Aside0 (wc.heap[gb434]? = some (.cells #[.bool t430, .int .u64 t431, .int .u64 t432] 24 (0, 0))) ∧ Aside0 (wc.heap[gb439]? = some (.cells #[.bool t435, .int .u64 t436, .int .u64 t437] 24 (0, 0))) ∧ Aside0 (wc.heap[gb444]? = some (.cells #[.bool t440, .int .u64 t441, .int .u64 t442] 24 (0, 0))) ∧ Aside0 (wc.heap[gb449]? = some (.cells #[.bool t445, .int .u64 t446, .int .u64 t447] 24 (0, 0))) ∧ Aside0 (wc.heap[gb455]? = some (.cells #[.bool t450, .int .u64 t451, .int .u64 t452] 24 (0, 0))) ∧ Aside0 (wc.heap[gb461]? = some (.cells #[.bool t456, .int .u64 t457, .int .u64 t458] 24 (0, 0))) ∧ Aside0 (Below w.heap.size w wc))
 case first =>
  have H := HC13.out; clear HC13
  by_cases c71 : (t430 == t435 && (t431 == t436 && (t432 == t437))) = true
  ·rw [if_pos c71] at H
   have c71b0 : (t430 == t435 && (t431 == t436 && (t432 == t437))) = true := c71
   (try (have c71b1 : decide (t430 = t435 && (t431 == t436 && (t432 == t437))) = true := by simpa using c71))
   (try (have c71b2 : (t430 == t435 && (t431 == t436 && (t432 == t437))) = true := by simpa using c71))
   clear c71
   (first | rw [c71b0] | (simp only [i64_w, i32_w]; rw [c71b0]) | skip)
   by_cases c72 : t433 = t438
   ·rw [if_pos c72] at H
    have c72b0 : (t433 == t438) = true := beq_iff_eq.mpr c72; have c72b1 : (t433 != t438) = false := bne_eq_false_iff_eq.mpr c72; clear c72
    by_cases c73 : (t440 == t445 && (t441 == t446 && (t442 == t447))) = true
    ·rw [if_pos c73] at H
     have c73b0 : (t440 == t445 && (t441 == t446 && (t442 == t447))) = true := c73
     (try (have c73b1 : decide (t440 = t445 && (t441 == t446 && (t442 == t447))) = true := by simpa using c73))
     (try (have c73b2 : (t440 == t445 && (t441 == t446 && (t442 == t447))) = true := by simpa using c73))
     clear c73
     by_cases c74 : t443 = t448
     ·rw [if_pos c74] at H
      have c74b0 : (t443 == t448) = true := beq_iff_eq.mpr c74; have c74b1 : (t443 != t448) = false := bne_eq_false_iff_eq.mpr c74; clear c74
      by_cases c75 : (t450 == t456 && (t451 == t457 && (t452 == t458))) = true
      ·rw [if_pos c75] at H
       have c75b0 : (t450 == t456 && (t451 == t457 && (t452 == t458))) = true := c75
       (try (have c75b1 : decide (t450 = t456 && (t451 == t457 && (t452 == t458))) = true := by simpa using c75))
       (try (have c75b2 : (t450 == t456 && (t451 == t457 && (t452 == t458))) = true := by simpa using c75))
       clear c75
       by_cases c76 : t453 = t459
       ·rw [if_pos c76] at H
        have c76b0 : (t453 == t459) = true := beq_iff_eq.mpr c76; have c76b1 : (t453 != t459) = false := bne_eq_false_iff_eq.mpr c76; clear c76; have H' := Aside0.mk H; clear H; have hnb77 := NB434_427.out; have hnc77 := NB427_434.out; have hnb78 := NB434_428.out; have hnc78 := NB428_434.out; have hnb79 := NB434_439.out; have hnc79 := NB439_434.out; have hnb80 := NB434_444.out; have hnc80 := NB444_434.out; have hnb81 := NB434_449.out; have hnc81 := NB449_434.out; have hnb82 := NB434_455.out; have hnc82 := NB455_434.out; have hnb83 := NB434_461.out; have hnc83 := NB461_434.out; have hcz84_0 := czZ BK434 0 (.bool t430); have hcz84_1 := czZ BK434 1 (.int .u64 t431); have hcz84_2 := czZ BK434 2 (.int .u64 t432); have hfz84_0 := blk_frozen BK434.out 0; have hfz84_1 := blk_frozen BK434.out 1; have hfz84_2 := blk_frozen BK434.out 2; have hnb85 := NB439_427.out; have hnc85 := NB427_439.out; have hnb86 := NB439_428.out; have hnc86 := NB428_439.out; have hnb87 := NB439_444.out; have hnc87 := NB444_439.out; have hnb88 := NB439_449.out; have hnc88 := NB449_439.out; have hnb89 := NB439_455.out; have hnc89 := NB455_439.out; have hnb90 := NB439_461.out; have hnc90 := NB461_439.out; have hcz91_0 := czZ BK439 0 (.bool t435); have hcz91_1 := czZ BK439 1 (.int .u64 t436); have hcz91_2 := czZ BK439 2 (.int .u64 t437); have hfz91_0 := blk_frozen BK439.out 0; have hfz91_1 := blk_frozen BK439.out 1; have hfz91_2 := blk_frozen BK439.out 2; have hnb92 := NB444_427.out; have hnc92 := NB427_444.out; have hnb93 := NB444_428.out; have hnc93 := NB428_444.out; have hnb94 := NB444_449.out; have hnc94 := NB449_444.out; have hnb95 := NB444_455.out; have hnc95 := NB455_444.out; have hnb96 := NB444_461.out; have hnc96 := NB461_444.out; have hcz97_0 := czZ BK444 0 (.bool t440); have hcz97_1 := czZ BK444 1 (.int .u64 t441); have hcz97_2 := czZ BK444 2 (.int .u64 t442); have hfz97_0 := blk_frozen BK444.out 0; have hfz97_1 := blk_frozen BK444.out 1; have hfz97_2 := blk_frozen BK444.out 2; have hnb98 := NB449_427.out; have hnc98 := NB427_449.out; have hnb99 := NB449_428.out; have hnc99 := NB428_449.out; have hnb100 := NB449_455.out; have hnc100 := NB455_449.out; have hnb101 := NB449_461.out; have hnc101 := NB461_449.out; have hcz102_0 := czZ BK449 0 (.bool t445); have hcz102_1 := czZ BK449 1 (.int .u64 t446); have hcz102_2 := czZ BK449 2 (.int .u64 t447); have hfz102_0 := blk_frozen BK449.out 0; have hfz102_1 := blk_frozen BK449.out 1; have hfz102_2 := blk_frozen BK449.out 2; have hnb103 := NB455_427.out; have hnc103 := NB427_455.out; have hnb104 := NB455_428.out; have hnc104 := NB428_455.out; have hnb105 := NB455_461.out; have hnc105 := NB461_455.out; have hcz106_0 := czZ BK455 0 (.bool t450); have hcz106_1 := czZ BK455 1 (.int .u64 t451); have hcz106_2 := czZ BK455 2 (.int .u64 t452); have hfz106_0 := blk_frozen BK455.out 0; have hfz106_1 := blk_frozen BK455.out 1; have hfz106_2 := blk_frozen BK455.out 2; have hnb107 := NB461_427.out; have hnc107 := NB427_461.out; have hnb108 := NB461_428.out
        have hnc108 := NB428_461.out; have hcz109_0 := czZ BK461 0 (.bool false); have hcz109_1 := czZ BK461 1 (.int .u64 0); have hcz109_2 := czZ BK461 2 (.int .u64 0); have hfz109_0 := blk_frozen BK461.out 0; have hfz109_1 := blk_frozen BK461.out 1; have hfz109_2 := blk_frozen BK461.out 2
        go_wp2
        go_meet
        case rel => exact ⟨_, ((t454 == t460)), (by first | rfl | (simp; done) | (simp [*]; done)), H', ⟨by first | omega | exact Nat.le_refl _⟩, ⟨by (with_reducible repeat first | apply blk_drewN | apply blk_drew | apply blk_alloc); refine blk_far ?_ NB427_461.out _; (with_reducible repeat first | apply blk_drewN | apply blk_drew | apply blk_alloc); refine blk_far ?_ NB427_461.out _; (with_reducible repeat first | apply blk_drewN | apply blk_drew | apply blk_alloc); refine blk_far ?_ NB427_461.out _; (with_reducible repeat first | apply blk_drewN | apply blk_drew | apply blk_alloc); exact BK427.out⟩, ⟨by (with_reducible repeat first | apply blk_drewN | apply blk_drew | apply blk_alloc); refine blk_far ?_ NB428_461.out _; (with_reducible repeat first | apply blk_drewN | apply blk_drew | apply blk_alloc); refine blk_far ?_ NB428_461.out _; (with_reducible repeat first | apply blk_drewN | apply blk_drew | apply blk_alloc); refine blk_far ?_ NB428_461.out _; (with_reducible repeat first | apply blk_drewN | apply blk_drew | apply blk_alloc); exact BK428.out⟩, ⟨by (with_reducible repeat first | apply blk_drewN | apply blk_drew | apply blk_alloc); refine blk_far ?_ NB434_461.out _; (with_reducible repeat first | apply blk_drewN | apply blk_drew | apply blk_alloc); refine blk_far ?_ NB434_461.out _; (with_reducible repeat first | apply blk_drewN | apply blk_drew | apply blk_alloc); refine blk_far ?_ NB434_461.out _; (with_reducible repeat first | apply blk_drewN | apply blk_drew | apply blk_alloc); exact BK434.out⟩, ⟨by (with_reducible repeat first | apply blk_drewN | apply blk_drew | apply blk_alloc); refine blk_far ?_ NB439_461.out _; (with_reducible repeat first | apply blk_drewN | apply blk_drew | apply blk_alloc); refine blk_far ?_ NB439_461.out _; (with_reducible repeat first | apply blk_drewN | apply blk_drew | apply blk_alloc); refine blk_far ?_ NB439_461.out _; (with_reducible repeat first | apply blk_drewN | apply blk_drew | apply blk_alloc); exact BK439.out⟩, ⟨by (with_reducible repeat first | apply blk_drewN | apply blk_drew | apply blk_alloc); refine blk_far ?_ NB444_461.out _; (with_reducible repeat first | apply blk_drewN | apply blk_drew | apply blk_alloc); refine blk_far ?_ NB444_461.out _; (with_reducible repeat first | apply blk_drewN | apply blk_drew | apply blk_alloc); refine blk_far ?_ NB444_461.out _; (with_reducible repeat first | apply blk_drewN | apply blk_drew | apply blk_alloc); exact BK444.out⟩, ⟨by (with_reducible repeat first | apply blk_drewN | apply blk_drew | apply blk_alloc); refine blk_far ?_ NB449_461.out _; (with_reducible repeat first | apply blk_drewN | apply blk_drew | apply blk_alloc); refine blk_far ?_ NB449_461.out _; (with_reducible repeat first | apply blk_drewN | apply blk_drew | apply blk_alloc); refine blk_far ?_ NB449_461.out _; (with_reducible repeat first | apply blk_drewN | apply blk_drew | apply blk_alloc); exact BK449.out⟩, ⟨by (with_reducible repeat first | apply blk_drewN | apply blk_drew | apply blk_alloc); refine blk_far ?_ NB455_461.out _; (with_reducible repeat first | apply blk_drewN | apply blk_drew | apply blk_alloc); refine blk_far ?_ NB455_461.out _; (with_reducible repeat first | apply blk_drewN | apply blk_drew | apply blk_alloc); refine blk_far ?_ NB455_461.out _; (with_reducible repeat first | apply blk_drewN | apply blk_drew | apply blk_alloc); exact BK455.out⟩, ⟨by (with_reducible repeat first | apply blk_drewN | apply blk_drew | apply blk_alloc); refine blk_put (cs := #[.bool t456, .int .u64 t457, .int .u64 0]) ?_ 2 _ rfl; (with_reducible repeat first | apply blk_drewN | apply blk_drew | apply blk_alloc); refine blk_put (cs := #[.bool t456, .int .u64 0, .int .u64 0]) ?_ 1 _ rfl; (with_reducible repeat first | apply blk_drewN | apply blk_drew | apply blk_alloc); refine blk_put (cs := #[.bool false, .int .u64 0, .int .u64 0]) ?_ 0 _ rfl; (with_reducible repeat first | apply blk_drewN | apply blk_drew | apply blk_alloc); exact BK461.out⟩, ⟨by repeat (first | (with_reducible first | exact HB.out | apply below_alloc | apply pw_below_drewN | apply below_drew1 | refine below_set ?_ (Aside0.out (by assumption))) | exact HB.out)⟩⟩
       ·rw [if_neg c76] at H
        have c76b0 : (t453 == t459) = false := beq_eq_false_iff_ne.mpr c76; have c76b1 : (t453 != t459) = true := bne_iff_ne.mpr c76; have H' := Aside0.mk H; clear H; have hnb110 := NB434_427.out; have hnc110 := NB427_434.out; have hnb111 := NB434_428.out; have hnc111 := NB428_434.out; have hnb112 := NB434_439.out; have hnc112 := NB439_434.out; have hnb113 := NB434_444.out; have hnc113 := NB444_434.out; have hnb114 := NB434_449.out; have hnc114 := NB449_434.out; have hnb115 := NB434_455.out; have hnc115 := NB455_434.out; have hnb116 := NB434_461.out; have hnc116 := NB461_434.out; have hcz117_0 := czZ BK434 0 (.bool t430); have hcz117_1 := czZ BK434 1 (.int .u64 t431); have hcz117_2 := czZ BK434 2 (.int .u64 t432); have hfz117_0 := blk_frozen BK434.out 0; have hfz117_1 := blk_frozen BK434.out 1; have hfz117_2 := blk_frozen BK434.out 2; have hnb118 := NB439_427.out; have hnc118 := NB427_439.out; have hnb119 := NB439_428.out; have hnc119 := NB428_439.out; have hnb120 := NB439_444.out; have hnc120 := NB444_439.out; have hnb121 := NB439_449.out; have hnc121 := NB449_439.out; have hnb122 := NB439_455.out; have hnc122 := NB455_439.out; have hnb123 := NB439_461.out; have hnc123 := NB461_439.out; have hcz124_0 := czZ BK439 0 (.bool t435); have hcz124_1 := czZ BK439 1 (.int .u64 t436); have hcz124_2 := czZ BK439 2 (.int .u64 t437); have hfz124_0 := blk_frozen BK439.out 0; have hfz124_1 := blk_frozen BK439.out 1; have hfz124_2 := blk_frozen BK439.out 2; have hnb125 := NB444_427.out; have hnc125 := NB427_444.out; have hnb126 := NB444_428.out; have hnc126 := NB428_444.out; have hnb127 := NB444_449.out; have hnc127 := NB449_444.out; have hnb128 := NB444_455.out; have hnc128 := NB455_444.out; have hnb129 := NB444_461.out; have hnc129 := NB461_444.out; have hcz130_0 := czZ BK444 0 (.bool t440); have hcz130_1 := czZ BK444 1 (.int .u64 t441); have hcz130_2 := czZ BK444 2 (.int .u64 t442); have hfz130_0 := blk_frozen BK444.out 0; have hfz130_1 := blk_frozen BK444.out 1; have hfz130_2 := blk_frozen BK444.out 2; have hnb131 := NB449_427.out; have hnc131 := NB427_449.out; have hnb132 := NB449_428.out; have hnc132 := NB428_449.out; have hnb133 := NB449_455.out; have hnc133 := NB455_449.out; have hnb134 := NB449_461.out; have hnc134 := NB461_449.out; have hcz135_0 := czZ BK449 0 (.bool t445); have hcz135_1 := czZ BK449 1 (.int .u64 t446); have hcz135_2 := czZ BK449 2 (.int .u64 t447); have hfz135_0 := blk_frozen BK449.out 0; have hfz135_1 := blk_frozen BK449.out 1; have hfz135_2 := blk_frozen BK449.out 2; have hnb136 := NB455_427.out; have hnc136 := NB427_455.out; have hnb137 := NB455_428.out; have hnc137 := NB428_455.out; have hnb138 := NB455_461.out; have hnc138 := NB461_455.out; have hcz139_0 := czZ BK455 0 (.bool t450); have hcz139_1 := czZ BK455 1 (.int .u64 t451); have hcz139_2 := czZ BK455 2 (.int .u64 t452); have hfz139_0 := blk_frozen BK455.out 0; have hfz139_1 := blk_frozen BK455.out 1; have hfz139_2 := blk_frozen BK455.out 2; have hnb140 := NB461_427.out; have hnc140 := NB427_461.out
        have hnb141 := NB461_428.out; have hnc141 := NB428_461.out; have hcz142_0 := czZ BK461 0 (.bool false); have hcz142_1 := czZ BK461 1 (.int .u64 0); have hcz142_2 := czZ BK461 2 (.int .u64 0); have hfz142_0 := blk_frozen BK461.out 0; have hfz142_1 := blk_frozen BK461.out 1; have hfz142_2 := blk_frozen BK461.out 2
        go_wp2
        go_meet
        case rel => exact ⟨_, (false), (by first | rfl | (simp; done) | (simp [*]; done)), H', ⟨by first | omega | exact Nat.le_refl _⟩, ⟨by (with_reducible repeat first | apply blk_drewN | apply blk_drew | apply blk_alloc); refine blk_far ?_ NB427_461.out _; (with_reducible repeat first | apply blk_drewN | apply blk_drew | apply blk_alloc); refine blk_far ?_ NB427_461.out _; (with_reducible repeat first | apply blk_drewN | apply blk_drew | apply blk_alloc); refine blk_far ?_ NB427_461.out _; (with_reducible repeat first | apply blk_drewN | apply blk_drew | apply blk_alloc); exact BK427.out⟩, ⟨by (with_reducible repeat first | apply blk_drewN | apply blk_drew | apply blk_alloc); refine blk_far ?_ NB428_461.out _; (with_reducible repeat first | apply blk_drewN | apply blk_drew | apply blk_alloc); refine blk_far ?_ NB428_461.out _; (with_reducible repeat first | apply blk_drewN | apply blk_drew | apply blk_alloc); refine blk_far ?_ NB428_461.out _; (with_reducible repeat first | apply blk_drewN | apply blk_drew | apply blk_alloc); exact BK428.out⟩, ⟨by (with_reducible repeat first | apply blk_drewN | apply blk_drew | apply blk_alloc); refine blk_far ?_ NB434_461.out _; (with_reducible repeat first | apply blk_drewN | apply blk_drew | apply blk_alloc); refine blk_far ?_ NB434_461.out _; (with_reducible repeat first | apply blk_drewN | apply blk_drew | apply blk_alloc); refine blk_far ?_ NB434_461.out _; (with_reducible repeat first | apply blk_drewN | apply blk_drew | apply blk_alloc); exact BK434.out⟩, ⟨by (with_reducible repeat first | apply blk_drewN | apply blk_drew | apply blk_alloc); refine blk_far ?_ NB439_461.out _; (with_reducible repeat first | apply blk_drewN | apply blk_drew | apply blk_alloc); refine blk_far ?_ NB439_461.out _; (with_reducible repeat first | apply blk_drewN | apply blk_drew | apply blk_alloc); refine blk_far ?_ NB439_461.out _; (with_reducible repeat first | apply blk_drewN | apply blk_drew | apply blk_alloc); exact BK439.out⟩, ⟨by (with_reducible repeat first | apply blk_drewN | apply blk_drew | apply blk_alloc); refine blk_far ?_ NB444_461.out _; (with_reducible repeat first | apply blk_drewN | apply blk_drew | apply blk_alloc); refine blk_far ?_ NB444_461.out _; (with_reducible repeat first | apply blk_drewN | apply blk_drew | apply blk_alloc); refine blk_far ?_ NB444_461.out _; (with_reducible repeat first | apply blk_drewN | apply blk_drew | apply blk_alloc); exact BK444.out⟩, ⟨by (with_reducible repeat first | apply blk_drewN | apply blk_drew | apply blk_alloc); refine blk_far ?_ NB449_461.out _; (with_reducible repeat first | apply blk_drewN | apply blk_drew | apply blk_alloc); refine blk_far ?_ NB449_461.out _; (with_reducible repeat first | apply blk_drewN | apply blk_drew | apply blk_alloc); refine blk_far ?_ NB449_461.out _; (with_reducible repeat first | apply blk_drewN | apply blk_drew | apply blk_alloc); exact BK449.out⟩, ⟨by (with_reducible repeat first | apply blk_drewN | apply blk_drew | apply blk_alloc); refine blk_far ?_ NB455_461.out _; (with_reducible repeat first | apply blk_drewN | apply blk_drew | apply blk_alloc); refine blk_far ?_ NB455_461.out _; (with_reducible repeat first | apply blk_drewN | apply blk_drew | apply blk_alloc); refine blk_far ?_ NB455_461.out _; (with_reducible repeat first | apply blk_drewN | apply blk_drew | apply blk_alloc); exact BK455.out⟩, ⟨by (with_reducible repeat first | apply blk_drewN | apply blk_drew | apply blk_alloc); refine blk_put (cs := #[.bool t456, .int .u64 t457, .int .u64 0]) ?_ 2 _ rfl; (with_reducible repeat first | apply blk_drewN | apply blk_drew | apply blk_alloc); refine blk_put (cs := #[.bool t456, .int .u64 0, .int .u64 0]) ?_ 1 _ rfl; (with_reducible repeat first | apply blk_drewN | apply blk_drew | apply blk_alloc); refine blk_put (cs := #[.bool false, .int .u64 0, .int .u64 0]) ?_ 0 _ rfl; (with_reducible repeat first | apply blk_drewN | apply blk_drew | apply blk_alloc); exact BK461.out⟩, ⟨by repeat (first | (with_reducible first | exact HB.out | apply below_alloc | apply pw_below_drewN | apply below_drew1 | refine below_set ?_ (Aside0.out (by assumption))) | exact HB.out)⟩⟩
      ·rw [if_neg c75] at H
       have c75b0 : (t450 == t456 && (t451 == t457 && (t452 == t458))) = false := by simpa using c75
       (try (have c75b1 : decide (t450 = t456 && (t451 == t457 && (t452 == t458))) = false := by simpa using c75))
       (try (have c75b2 : (t450 == t456 && (t451 == t457 && (t452 == t458))) = false := by simpa using c75))
       (try (have c75b3 : ¬ (t450 = t456 && (t451 == t457 && (t452 == t458))) := by simpa using c75))
       clear c75; have H' := Aside0.mk H; clear H; have hnb143 := NB434_427.out; have hnc143 := NB427_434.out; have hnb144 := NB434_428.out; have hnc144 := NB428_434.out; have hnb145 := NB434_439.out; have hnc145 := NB439_434.out; have hnb146 := NB434_444.out; have hnc146 := NB444_434.out; have hnb147 := NB434_449.out; have hnc147 := NB449_434.out; have hnb148 := NB434_455.out; have hnc148 := NB455_434.out; have hnb149 := NB434_461.out; have hnc149 := NB461_434.out; have hcz150_0 := czZ BK434 0 (.bool t430); have hcz150_1 := czZ BK434 1 (.int .u64 t431); have hcz150_2 := czZ BK434 2 (.int .u64 t432); have hfz150_0 := blk_frozen BK434.out 0; have hfz150_1 := blk_frozen BK434.out 1; have hfz150_2 := blk_frozen BK434.out 2; have hnb151 := NB439_427.out; have hnc151 := NB427_439.out; have hnb152 := NB439_428.out; have hnc152 := NB428_439.out; have hnb153 := NB439_444.out; have hnc153 := NB444_439.out; have hnb154 := NB439_449.out; have hnc154 := NB449_439.out; have hnb155 := NB439_455.out; have hnc155 := NB455_439.out; have hnb156 := NB439_461.out; have hnc156 := NB461_439.out; have hcz157_0 := czZ BK439 0 (.bool t435); have hcz157_1 := czZ BK439 1 (.int .u64 t436); have hcz157_2 := czZ BK439 2 (.int .u64 t437); have hfz157_0 := blk_frozen BK439.out 0; have hfz157_1 := blk_frozen BK439.out 1; have hfz157_2 := blk_frozen BK439.out 2; have hnb158 := NB444_427.out; have hnc158 := NB427_444.out; have hnb159 := NB444_428.out; have hnc159 := NB428_444.out; have hnb160 := NB444_449.out; have hnc160 := NB449_444.out; have hnb161 := NB444_455.out; have hnc161 := NB455_444.out; have hnb162 := NB444_461.out; have hnc162 := NB461_444.out; have hcz163_0 := czZ BK444 0 (.bool t440); have hcz163_1 := czZ BK444 1 (.int .u64 t441); have hcz163_2 := czZ BK444 2 (.int .u64 t442); have hfz163_0 := blk_frozen BK444.out 0; have hfz163_1 := blk_frozen BK444.out 1; have hfz163_2 := blk_frozen BK444.out 2; have hnb164 := NB449_427.out; have hnc164 := NB427_449.out; have hnb165 := NB449_428.out; have hnc165 := NB428_449.out; have hnb166 := NB449_455.out; have hnc166 := NB455_449.out; have hnb167 := NB449_461.out; have hnc167 := NB461_449.out; have hcz168_0 := czZ BK449 0 (.bool t445); have hcz168_1 := czZ BK449 1 (.int .u64 t446); have hcz168_2 := czZ BK449 2 (.int .u64 t447); have hfz168_0 := blk_frozen BK449.out 0; have hfz168_1 := blk_frozen BK449.out 1; have hfz168_2 := blk_frozen BK449.out 2; have hnb169 := NB455_427.out; have hnc169 := NB427_455.out; have hnb170 := NB455_428.out; have hnc170 := NB428_455.out; have hnb171 := NB455_461.out; have hnc171 := NB461_455.out; have hcz172_0 := czZ BK455 0 (.bool t450); have hcz172_1 := czZ BK455 1 (.int .u64 t451); have hcz172_2 := czZ BK455 2 (.int .u64 t452); have hfz172_0 := blk_frozen BK455.out 0; have hfz172_1 := blk_frozen BK455.out 1; have hfz172_2 := blk_frozen BK455.out 2; have hnb173 := NB461_427.out; have hnc173 := NB427_461.out; have hnb174 := NB461_428.out; have hnc174 := NB428_461.out; have hcz175_0 := czZ BK461 0 (.bool false)
       have hcz175_1 := czZ BK461 1 (.int .u64 0); have hcz175_2 := czZ BK461 2 (.int .u64 0); have hfz175_0 := blk_frozen BK461.out 0; have hfz175_1 := blk_frozen BK461.out 1; have hfz175_2 := blk_frozen BK461.out 2
       go_wp2
       go_meet
       case rel => exact ⟨_, (false), (by first | rfl | (simp; done) | (simp [*]; done)), H', ⟨by first | omega | exact Nat.le_refl _⟩, ⟨by (with_reducible repeat first | apply blk_drewN | apply blk_drew | apply blk_alloc); refine blk_far ?_ NB427_461.out _; (with_reducible repeat first | apply blk_drewN | apply blk_drew | apply blk_alloc); refine blk_far ?_ NB427_461.out _; (with_reducible repeat first | apply blk_drewN | apply blk_drew | apply blk_alloc); refine blk_far ?_ NB427_461.out _; (with_reducible repeat first | apply blk_drewN | apply blk_drew | apply blk_alloc); exact BK427.out⟩, ⟨by (with_reducible repeat first | apply blk_drewN | apply blk_drew | apply blk_alloc); refine blk_far ?_ NB428_461.out _; (with_reducible repeat first | apply blk_drewN | apply blk_drew | apply blk_alloc); refine blk_far ?_ NB428_461.out _; (with_reducible repeat first | apply blk_drewN | apply blk_drew | apply blk_alloc); refine blk_far ?_ NB428_461.out _; (with_reducible repeat first | apply blk_drewN | apply blk_drew | apply blk_alloc); exact BK428.out⟩, ⟨by (with_reducible repeat first | apply blk_drewN | apply blk_drew | apply blk_alloc); refine blk_far ?_ NB434_461.out _; (with_reducible repeat first | apply blk_drewN | apply blk_drew | apply blk_alloc); refine blk_far ?_ NB434_461.out _; (with_reducible repeat first | apply blk_drewN | apply blk_drew | apply blk_alloc); refine blk_far ?_ NB434_461.out _; (with_reducible repeat first | apply blk_drewN | apply blk_drew | apply blk_alloc); exact BK434.out⟩, ⟨by (with_reducible repeat first | apply blk_drewN | apply blk_drew | apply blk_alloc); refine blk_far ?_ NB439_461.out _; (with_reducible repeat first | apply blk_drewN | apply blk_drew | apply blk_alloc); refine blk_far ?_ NB439_461.out _; (with_reducible repeat first | apply blk_drewN | apply blk_drew | apply blk_alloc); refine blk_far ?_ NB439_461.out _; (with_reducible repeat first | apply blk_drewN | apply blk_drew | apply blk_alloc); exact BK439.out⟩, ⟨by (with_reducible repeat first | apply blk_drewN | apply blk_drew | apply blk_alloc); refine blk_far ?_ NB444_461.out _; (with_reducible repeat first | apply blk_drewN | apply blk_drew | apply blk_alloc); refine blk_far ?_ NB444_461.out _; (with_reducible repeat first | apply blk_drewN | apply blk_drew | apply blk_alloc); refine blk_far ?_ NB444_461.out _; (with_reducible repeat first | apply blk_drewN | apply blk_drew | apply blk_alloc); exact BK444.out⟩, ⟨by (with_reducible repeat first | apply blk_drewN | apply blk_drew | apply blk_alloc); refine blk_far ?_ NB449_461.out _; (with_reducible repeat first | apply blk_drewN | apply blk_drew | apply blk_alloc); refine blk_far ?_ NB449_461.out _; (with_reducible repeat first | apply blk_drewN | apply blk_drew | apply blk_alloc); refine blk_far ?_ NB449_461.out _; (with_reducible repeat first | apply blk_drewN | apply blk_drew | apply blk_alloc); exact BK449.out⟩, ⟨by (with_reducible repeat first | apply blk_drewN | apply blk_drew | apply blk_alloc); refine blk_far ?_ NB455_461.out _; (with_reducible repeat first | apply blk_drewN | apply blk_drew | apply blk_alloc); refine blk_far ?_ NB455_461.out _; (with_reducible repeat first | apply blk_drewN | apply blk_drew | apply blk_alloc); refine blk_far ?_ NB455_461.out _; (with_reducible repeat first | apply blk_drewN | apply blk_drew | apply blk_alloc); exact BK455.out⟩, ⟨by (with_reducible repeat first | apply blk_drewN | apply blk_drew | apply blk_alloc); refine blk_put (cs := #[.bool t456, .int .u64 t457, .int .u64 0]) ?_ 2 _ rfl; (with_reducible repeat first | apply blk_drewN | apply blk_drew | apply blk_alloc); refine blk_put (cs := #[.bool t456, .int .u64 0, .int .u64 0]) ?_ 1 _ rfl; (with_reducible repeat first | apply blk_drewN | apply blk_drew | apply blk_alloc); refine blk_put (cs := #[.bool false, .int .u64 0, .int .u64 0]) ?_ 0 _ rfl; (with_reducible repeat first | apply blk_drewN | apply blk_drew | apply blk_alloc); exact BK461.out⟩, ⟨by repeat (first | (with_reducible first | exact HB.out | apply below_alloc | apply pw_below_drewN | apply below_drew1 | refine below_set ?_ (Aside0.out (by assumption))) | exact HB.out)⟩⟩
     ·rw [if_neg c74] at H
      have c74b0 : (t443 == t448) = false := beq_eq_false_iff_ne.mpr c74; have c74b1 : (t443 != t448) = true := bne_iff_ne.mpr c74; have H' := Aside0.mk H; clear H; have hnb176 := NB434_427.out; have hnc176 := NB427_434.out; have hnb177 := NB434_428.out; have hnc177 := NB428_434.out; have hnb178 := NB434_439.out; have hnc178 := NB439_434.out; have hnb179 := NB434_444.out; have hnc179 := NB444_434.out; have hnb180 := NB434_449.out; have hnc180 := NB449_434.out; have hnb181 := NB434_455.out; have hnc181 := NB455_434.out; have hnb182 := NB434_461.out; have hnc182 := NB461_434.out; have hcz183_0 := czZ BK434 0 (.bool t430); have hcz183_1 := czZ BK434 1 (.int .u64 t431); have hcz183_2 := czZ BK434 2 (.int .u64 t432); have hfz183_0 := blk_frozen BK434.out 0; have hfz183_1 := blk_frozen BK434.out 1; have hfz183_2 := blk_frozen BK434.out 2; have hnb184 := NB439_427.out; have hnc184 := NB427_439.out; have hnb185 := NB439_428.out; have hnc185 := NB428_439.out; have hnb186 := NB439_444.out; have hnc186 := NB444_439.out; have hnb187 := NB439_449.out; have hnc187 := NB449_439.out; have hnb188 := NB439_455.out; have hnc188 := NB455_439.out; have hnb189 := NB439_461.out; have hnc189 := NB461_439.out; have hcz190_0 := czZ BK439 0 (.bool t435); have hcz190_1 := czZ BK439 1 (.int .u64 t436); have hcz190_2 := czZ BK439 2 (.int .u64 t437); have hfz190_0 := blk_frozen BK439.out 0; have hfz190_1 := blk_frozen BK439.out 1; have hfz190_2 := blk_frozen BK439.out 2; have hnb191 := NB444_427.out; have hnc191 := NB427_444.out; have hnb192 := NB444_428.out; have hnc192 := NB428_444.out; have hnb193 := NB444_449.out; have hnc193 := NB449_444.out; have hnb194 := NB444_455.out; have hnc194 := NB455_444.out; have hnb195 := NB444_461.out; have hnc195 := NB461_444.out; have hcz196_0 := czZ BK444 0 (.bool t440); have hcz196_1 := czZ BK444 1 (.int .u64 t441); have hcz196_2 := czZ BK444 2 (.int .u64 t442); have hfz196_0 := blk_frozen BK444.out 0; have hfz196_1 := blk_frozen BK444.out 1; have hfz196_2 := blk_frozen BK444.out 2; have hnb197 := NB449_427.out; have hnc197 := NB427_449.out; have hnb198 := NB449_428.out; have hnc198 := NB428_449.out; have hnb199 := NB449_455.out; have hnc199 := NB455_449.out; have hnb200 := NB449_461.out; have hnc200 := NB461_449.out; have hcz201_0 := czZ BK449 0 (.bool t445); have hcz201_1 := czZ BK449 1 (.int .u64 t446); have hcz201_2 := czZ BK449 2 (.int .u64 t447); have hfz201_0 := blk_frozen BK449.out 0; have hfz201_1 := blk_frozen BK449.out 1; have hfz201_2 := blk_frozen BK449.out 2
      go_wp2
      go_meet
      case rel => exact ⟨_, (false), (by first | rfl | (simp; done) | (simp [*]; done)), H', ⟨by first | omega | exact Nat.le_refl _⟩, ⟨by (with_reducible repeat first | apply blk_drewN | apply blk_drew | apply blk_alloc); refine blk_far ?_ NB427_461.out _; (with_reducible repeat first | apply blk_drewN | apply blk_drew | apply blk_alloc); refine blk_far ?_ NB427_461.out _; (with_reducible repeat first | apply blk_drewN | apply blk_drew | apply blk_alloc); refine blk_far ?_ NB427_461.out _; (with_reducible repeat first | apply blk_drewN | apply blk_drew | apply blk_alloc); exact BK427.out⟩, ⟨by (with_reducible repeat first | apply blk_drewN | apply blk_drew | apply blk_alloc); refine blk_far ?_ NB428_461.out _; (with_reducible repeat first | apply blk_drewN | apply blk_drew | apply blk_alloc); refine blk_far ?_ NB428_461.out _; (with_reducible repeat first | apply blk_drewN | apply blk_drew | apply blk_alloc); refine blk_far ?_ NB428_461.out _; (with_reducible repeat first | apply blk_drewN | apply blk_drew | apply blk_alloc); exact BK428.out⟩, ⟨by (with_reducible repeat first | apply blk_drewN | apply blk_drew | apply blk_alloc); refine blk_far ?_ NB434_461.out _; (with_reducible repeat first | apply blk_drewN | apply blk_drew | apply blk_alloc); refine blk_far ?_ NB434_461.out _; (with_reducible repeat first | apply blk_drewN | apply blk_drew | apply blk_alloc); refine blk_far ?_ NB434_461.out _; (with_reducible repeat first | apply blk_drewN | apply blk_drew | apply blk_alloc); exact BK434.out⟩, ⟨by (with_reducible repeat first | apply blk_drewN | apply blk_drew | apply blk_alloc); refine blk_far ?_ NB439_461.out _; (with_reducible repeat first | apply blk_drewN | apply blk_drew | apply blk_alloc); refine blk_far ?_ NB439_461.out _; (with_reducible repeat first | apply blk_drewN | apply blk_drew | apply blk_alloc); refine blk_far ?_ NB439_461.out _; (with_reducible repeat first | apply blk_drewN | apply blk_drew | apply blk_alloc); exact BK439.out⟩, ⟨by (with_reducible repeat first | apply blk_drewN | apply blk_drew | apply blk_alloc); refine blk_far ?_ NB444_461.out _; (with_reducible repeat first | apply blk_drewN | apply blk_drew | apply blk_alloc); refine blk_far ?_ NB444_461.out _; (with_reducible repeat first | apply blk_drewN | apply blk_drew | apply blk_alloc); refine blk_far ?_ NB444_461.out _; (with_reducible repeat first | apply blk_drewN | apply blk_drew | apply blk_alloc); exact BK444.out⟩, ⟨by (with_reducible repeat first | apply blk_drewN | apply blk_drew | apply blk_alloc); refine blk_far ?_ NB449_461.out _; (with_reducible repeat first | apply blk_drewN | apply blk_drew | apply blk_alloc); refine blk_far ?_ NB449_461.out _; (with_reducible repeat first | apply blk_drewN | apply blk_drew | apply blk_alloc); refine blk_far ?_ NB449_461.out _; (with_reducible repeat first | apply blk_drewN | apply blk_drew | apply blk_alloc); exact BK449.out⟩, ⟨by (with_reducible repeat first | apply blk_drewN | apply blk_drew | apply blk_alloc); refine blk_far ?_ NB455_461.out _; (with_reducible repeat first | apply blk_drewN | apply blk_drew | apply blk_alloc); refine blk_far ?_ NB455_461.out _; (with_reducible repeat first | apply blk_drewN | apply blk_drew | apply blk_alloc); refine blk_far ?_ NB455_461.out _; (with_reducible repeat first | apply blk_drewN | apply blk_drew | apply blk_alloc); exact BK455.out⟩, ⟨by (with_reducible repeat first | apply blk_drewN | apply blk_drew | apply blk_alloc); refine blk_put (cs := #[.bool t456, .int .u64 t457, .int .u64 0]) ?_ 2 _ rfl; (with_reducible repeat first | apply blk_drewN | apply blk_drew | apply blk_alloc); refine blk_put (cs := #[.bool t456, .int .u64 0, .int .u64 0]) ?_ 1 _ rfl; (with_reducible repeat first | apply blk_drewN | apply blk_drew | apply blk_alloc); refine blk_put (cs := #[.bool false, .int .u64 0, .int .u64 0]) ?_ 0 _ rfl; (with_reducible repeat first | apply blk_drewN | apply blk_drew | apply blk_alloc); exact BK461.out⟩, ⟨by repeat (first | (with_reducible first | exact HB.out | apply below_alloc | apply pw_below_drewN | apply below_drew1 | refine below_set ?_ (Aside0.out (by assumption))) | exact HB.out)⟩⟩
    ·rw [if_neg c73] at H
     have c73b0 : (t440 == t445 && (t441 == t446 && (t442 == t447))) = false := by simpa using c73
     (try (have c73b1 : decide (t440 = t445 && (t441 == t446 && (t442 == t447))) = false := by simpa using c73))
     (try (have c73b2 : (t440 == t445 && (t441 == t446 && (t442 == t447))) = false := by simpa using c73))
     (try (have c73b3 : ¬ (t440 = t445 && (t441 == t446 && (t442 == t447))) := by simpa using c73))
     clear c73; have H' := Aside0.mk H; clear H; have hnb202 := NB434_427.out; have hnc202 := NB427_434.out; have hnb203 := NB434_428.out; have hnc203 := NB428_434.out; have hnb204 := NB434_439.out; have hnc204 := NB439_434.out; have hnb205 := NB434_444.out; have hnc205 := NB444_434.out; have hnb206 := NB434_449.out; have hnc206 := NB449_434.out; have hnb207 := NB434_455.out; have hnc207 := NB455_434.out; have hnb208 := NB434_461.out; have hnc208 := NB461_434.out; have hcz209_0 := czZ BK434 0 (.bool t430); have hcz209_1 := czZ BK434 1 (.int .u64 t431); have hcz209_2 := czZ BK434 2 (.int .u64 t432); have hfz209_0 := blk_frozen BK434.out 0; have hfz209_1 := blk_frozen BK434.out 1; have hfz209_2 := blk_frozen BK434.out 2; have hnb210 := NB439_427.out; have hnc210 := NB427_439.out; have hnb211 := NB439_428.out; have hnc211 := NB428_439.out; have hnb212 := NB439_444.out; have hnc212 := NB444_439.out; have hnb213 := NB439_449.out; have hnc213 := NB449_439.out; have hnb214 := NB439_455.out; have hnc214 := NB455_439.out; have hnb215 := NB439_461.out; have hnc215 := NB461_439.out; have hcz216_0 := czZ BK439 0 (.bool t435); have hcz216_1 := czZ BK439 1 (.int .u64 t436); have hcz216_2 := czZ BK439 2 (.int .u64 t437); have hfz216_0 := blk_frozen BK439.out 0; have hfz216_1 := blk_frozen BK439.out 1; have hfz216_2 := blk_frozen BK439.out 2; have hnb217 := NB444_427.out; have hnc217 := NB427_444.out; have hnb218 := NB444_428.out; have hnc218 := NB428_444.out; have hnb219 := NB444_449.out; have hnc219 := NB449_444.out; have hnb220 := NB444_455.out; have hnc220 := NB455_444.out; have hnb221 := NB444_461.out; have hnc221 := NB461_444.out; have hcz222_0 := czZ BK444 0 (.bool t440); have hcz222_1 := czZ BK444 1 (.int .u64 t441); have hcz222_2 := czZ BK444 2 (.int .u64 t442); have hfz222_0 := blk_frozen BK444.out 0; have hfz222_1 := blk_frozen BK444.out 1; have hfz222_2 := blk_frozen BK444.out 2; have hnb223 := NB449_427.out; have hnc223 := NB427_449.out; have hnb224 := NB449_428.out; have hnc224 := NB428_449.out; have hnb225 := NB449_455.out; have hnc225 := NB455_449.out; have hnb226 := NB449_461.out; have hnc226 := NB461_449.out; have hcz227_0 := czZ BK449 0 (.bool t445); have hcz227_1 := czZ BK449 1 (.int .u64 t446); have hcz227_2 := czZ BK449 2 (.int .u64 t447); have hfz227_0 := blk_frozen BK449.out 0; have hfz227_1 := blk_frozen BK449.out 1; have hfz227_2 := blk_frozen BK449.out 2
     go_wp2
     go_meet
     case rel => exact ⟨_, (false), (by first | rfl | (simp; done) | (simp [*]; done)), H', ⟨by first | omega | exact Nat.le_refl _⟩, ⟨by (with_reducible repeat first | apply blk_drewN | apply blk_drew | apply blk_alloc); refine blk_far ?_ NB427_461.out _; (with_reducible repeat first | apply blk_drewN | apply blk_drew | apply blk_alloc); refine blk_far ?_ NB427_461.out _; (with_reducible repeat first | apply blk_drewN | apply blk_drew | apply blk_alloc); refine blk_far ?_ NB427_461.out _; (with_reducible repeat first | apply blk_drewN | apply blk_drew | apply blk_alloc); exact BK427.out⟩, ⟨by (with_reducible repeat first | apply blk_drewN | apply blk_drew | apply blk_alloc); refine blk_far ?_ NB428_461.out _; (with_reducible repeat first | apply blk_drewN | apply blk_drew | apply blk_alloc); refine blk_far ?_ NB428_461.out _; (with_reducible repeat first | apply blk_drewN | apply blk_drew | apply blk_alloc); refine blk_far ?_ NB428_461.out _; (with_reducible repeat first | apply blk_drewN | apply blk_drew | apply blk_alloc); exact BK428.out⟩, ⟨by (with_reducible repeat first | apply blk_drewN | apply blk_drew | apply blk_alloc); refine blk_far ?_ NB434_461.out _; (with_reducible repeat first | apply blk_drewN | apply blk_drew | apply blk_alloc); refine blk_far ?_ NB434_461.out _; (with_reducible repeat first | apply blk_drewN | apply blk_drew | apply blk_alloc); refine blk_far ?_ NB434_461.out _; (with_reducible repeat first | apply blk_drewN | apply blk_drew | apply blk_alloc); exact BK434.out⟩, ⟨by (with_reducible repeat first | apply blk_drewN | apply blk_drew | apply blk_alloc); refine blk_far ?_ NB439_461.out _; (with_reducible repeat first | apply blk_drewN | apply blk_drew | apply blk_alloc); refine blk_far ?_ NB439_461.out _; (with_reducible repeat first | apply blk_drewN | apply blk_drew | apply blk_alloc); refine blk_far ?_ NB439_461.out _; (with_reducible repeat first | apply blk_drewN | apply blk_drew | apply blk_alloc); exact BK439.out⟩, ⟨by (with_reducible repeat first | apply blk_drewN | apply blk_drew | apply blk_alloc); refine blk_far ?_ NB444_461.out _; (with_reducible repeat first | apply blk_drewN | apply blk_drew | apply blk_alloc); refine blk_far ?_ NB444_461.out _; (with_reducible repeat first | apply blk_drewN | apply blk_drew | apply blk_alloc); refine blk_far ?_ NB444_461.out _; (with_reducible repeat first | apply blk_drewN | apply blk_drew | apply blk_alloc); exact BK444.out⟩, ⟨by (with_reducible repeat first | apply blk_drewN | apply blk_drew | apply blk_alloc); refine blk_far ?_ NB449_461.out _; (with_reducible repeat first | apply blk_drewN | apply blk_drew | apply blk_alloc); refine blk_far ?_ NB449_461.out _; (with_reducible repeat first | apply blk_drewN | apply blk_drew | apply blk_alloc); refine blk_far ?_ NB449_461.out _; (with_reducible repeat first | apply blk_drewN | apply blk_drew | apply blk_alloc); exact BK449.out⟩, ⟨by (with_reducible repeat first | apply blk_drewN | apply blk_drew | apply blk_alloc); refine blk_far ?_ NB455_461.out _; (with_reducible repeat first | apply blk_drewN | apply blk_drew | apply blk_alloc); refine blk_far ?_ NB455_461.out _; (with_reducible repeat first | apply blk_drewN | apply blk_drew | apply blk_alloc); refine blk_far ?_ NB455_461.out _; (with_reducible repeat first | apply blk_drewN | apply blk_drew | apply blk_alloc); exact BK455.out⟩, ⟨by (with_reducible repeat first | apply blk_drewN | apply blk_drew | apply blk_alloc); refine blk_put (cs := #[.bool t456, .int .u64 t457, .int .u64 0]) ?_ 2 _ rfl; (with_reducible repeat first | apply blk_drewN | apply blk_drew | apply blk_alloc); refine blk_put (cs := #[.bool t456, .int .u64 0, .int .u64 0]) ?_ 1 _ rfl; (with_reducible repeat first | apply blk_drewN | apply blk_drew | apply blk_alloc); refine blk_put (cs := #[.bool false, .int .u64 0, .int .u64 0]) ?_ 0 _ rfl; (with_reducible repeat first | apply blk_drewN | apply blk_drew | apply blk_alloc); exact BK461.out⟩, ⟨by repeat (first | (with_reducible first | exact HB.out | apply below_alloc | apply pw_below_drewN | apply below_drew1 | refine below_set ?_ (Aside0.out (by assumption))) | exact HB.out)⟩⟩
   ·rw [if_neg c72] at H
    have c72b0 : (t433 == t438) = false := beq_eq_false_iff_ne.mpr c72; have c72b1 : (t433 != t438) = true := bne_iff_ne.mpr c72; have H' := Aside0.mk H; clear H; have hnb228 := NB434_427.out; have hnc228 := NB427_434.out; have hnb229 := NB434_428.out; have hnc229 := NB428_434.out; have hnb230 := NB434_439.out; have hnc230 := NB439_434.out; have hnb231 := NB434_444.out; have hnc231 := NB444_434.out; have hnb232 := NB434_449.out; have hnc232 := NB449_434.out; have hnb233 := NB434_455.out; have hnc233 := NB455_434.out; have hnb234 := NB434_461.out; have hnc234 := NB461_434.out; have hcz235_0 := czZ BK434 0 (.bool t430); have hcz235_1 := czZ BK434 1 (.int .u64 t431); have hcz235_2 := czZ BK434 2 (.int .u64 t432); have hfz235_0 := blk_frozen BK434.out 0; have hfz235_1 := blk_frozen BK434.out 1; have hfz235_2 := blk_frozen BK434.out 2; have hnb236 := NB439_427.out; have hnc236 := NB427_439.out; have hnb237 := NB439_428.out; have hnc237 := NB428_439.out; have hnb238 := NB439_444.out; have hnc238 := NB444_439.out; have hnb239 := NB439_449.out; have hnc239 := NB449_439.out; have hnb240 := NB439_455.out; have hnc240 := NB455_439.out; have hnb241 := NB439_461.out; have hnc241 := NB461_439.out; have hcz242_0 := czZ BK439 0 (.bool t435); have hcz242_1 := czZ BK439 1 (.int .u64 t436); have hcz242_2 := czZ BK439 2 (.int .u64 t437); have hfz242_0 := blk_frozen BK439.out 0; have hfz242_1 := blk_frozen BK439.out 1; have hfz242_2 := blk_frozen BK439.out 2
    go_wp2
    go_meet
    case rel => exact ⟨_, (false), (by first | rfl | (simp; done) | (simp [*]; done)), H', ⟨by first | omega | exact Nat.le_refl _⟩, ⟨by (with_reducible repeat first | apply blk_drewN | apply blk_drew | apply blk_alloc); refine blk_far ?_ NB427_461.out _; (with_reducible repeat first | apply blk_drewN | apply blk_drew | apply blk_alloc); refine blk_far ?_ NB427_461.out _; (with_reducible repeat first | apply blk_drewN | apply blk_drew | apply blk_alloc); refine blk_far ?_ NB427_461.out _; (with_reducible repeat first | apply blk_drewN | apply blk_drew | apply blk_alloc); exact BK427.out⟩, ⟨by (with_reducible repeat first | apply blk_drewN | apply blk_drew | apply blk_alloc); refine blk_far ?_ NB428_461.out _; (with_reducible repeat first | apply blk_drewN | apply blk_drew | apply blk_alloc); refine blk_far ?_ NB428_461.out _; (with_reducible repeat first | apply blk_drewN | apply blk_drew | apply blk_alloc); refine blk_far ?_ NB428_461.out _; (with_reducible repeat first | apply blk_drewN | apply blk_drew | apply blk_alloc); exact BK428.out⟩, ⟨by (with_reducible repeat first | apply blk_drewN | apply blk_drew | apply blk_alloc); refine blk_far ?_ NB434_461.out _; (with_reducible repeat first | apply blk_drewN | apply blk_drew | apply blk_alloc); refine blk_far ?_ NB434_461.out _; (with_reducible repeat first | apply blk_drewN | apply blk_drew | apply blk_alloc); refine blk_far ?_ NB434_461.out _; (with_reducible repeat first | apply blk_drewN | apply blk_drew | apply blk_alloc); exact BK434.out⟩, ⟨by (with_reducible repeat first | apply blk_drewN | apply blk_drew | apply blk_alloc); refine blk_far ?_ NB439_461.out _; (with_reducible repeat first | apply blk_drewN | apply blk_drew | apply blk_alloc); refine blk_far ?_ NB439_461.out _; (with_reducible repeat first | apply blk_drewN | apply blk_drew | apply blk_alloc); refine blk_far ?_ NB439_461.out _; (with_reducible repeat first | apply blk_drewN | apply blk_drew | apply blk_alloc); exact BK439.out⟩, ⟨by (with_reducible repeat first | apply blk_drewN | apply blk_drew | apply blk_alloc); refine blk_far ?_ NB444_461.out _; (with_reducible repeat first | apply blk_drewN | apply blk_drew | apply blk_alloc); refine blk_far ?_ NB444_461.out _; (with_reducible repeat first | apply blk_drewN | apply blk_drew | apply blk_alloc); refine blk_far ?_ NB444_461.out _; (with_reducible repeat first | apply blk_drewN | apply blk_drew | apply blk_alloc); exact BK444.out⟩, ⟨by (with_reducible repeat first | apply blk_drewN | apply blk_drew | apply blk_alloc); refine blk_far ?_ NB449_461.out _; (with_reducible repeat first | apply blk_drewN | apply blk_drew | apply blk_alloc); refine blk_far ?_ NB449_461.out _; (with_reducible repeat first | apply blk_drewN | apply blk_drew | apply blk_alloc); refine blk_far ?_ NB449_461.out _; (with_reducible repeat first | apply blk_drewN | apply blk_drew | apply blk_alloc); exact BK449.out⟩, ⟨by (with_reducible repeat first | apply blk_drewN | apply blk_drew | apply blk_alloc); refine blk_far ?_ NB455_461.out _; (with_reducible repeat first | apply blk_drewN | apply blk_drew | apply blk_alloc); refine blk_far ?_ NB455_461.out _; (with_reducible repeat first | apply blk_drewN | apply blk_drew | apply blk_alloc); refine blk_far ?_ NB455_461.out _; (with_reducible repeat first | apply blk_drewN | apply blk_drew | apply blk_alloc); exact BK455.out⟩, ⟨by (with_reducible repeat first | apply blk_drewN | apply blk_drew | apply blk_alloc); refine blk_put (cs := #[.bool t456, .int .u64 t457, .int .u64 0]) ?_ 2 _ rfl; (with_reducible repeat first | apply blk_drewN | apply blk_drew | apply blk_alloc); refine blk_put (cs := #[.bool t456, .int .u64 0, .int .u64 0]) ?_ 1 _ rfl; (with_reducible repeat first | apply blk_drewN | apply blk_drew | apply blk_alloc); refine blk_put (cs := #[.bool false, .int .u64 0, .int .u64 0]) ?_ 0 _ rfl; (with_reducible repeat first | apply blk_drewN | apply blk_drew | apply blk_alloc); exact BK461.out⟩, ⟨by repeat (first | (with_reducible first | exact HB.out | apply below_alloc | apply pw_below_drewN | apply below_drew1 | refine below_set ?_ (Aside0.out (by assumption))) | exact HB.out)⟩⟩
  ·rw [if_neg c71] at H
   have c71b0 : (t430 == t435 && (t431 == t436 && (t432 == t437))) = false := by simpa using c71
   (try (have c71b1 : decide (t430 = t435 && (t431 == t436 && (t432 == t437))) = false := by simpa using c71))
   (try (have c71b2 : (t430 == t435 && (t431 == t436 && (t432 == t437))) = false := by simpa using c71))
   (try (have c71b3 : ¬ (t430 = t435 && (t431 == t436 && (t432 == t437))) := by simpa using c71))
   clear c71
   (first | rw [c71b0] | (simp only [i64_w, i32_w]; rw [c71b0]) | skip)
   have H' := Aside0.mk H; clear H; have hnb243 := NB434_427.out; have hnc243 := NB427_434.out; have hnb244 := NB434_428.out; have hnc244 := NB428_434.out; have hnb245 := NB434_439.out; have hnc245 := NB439_434.out; have hnb246 := NB434_444.out; have hnc246 := NB444_434.out; have hnb247 := NB434_449.out; have hnc247 := NB449_434.out; have hnb248 := NB434_455.out; have hnc248 := NB455_434.out; have hnb249 := NB434_461.out; have hnc249 := NB461_434.out; have hcz250_0 := czZ BK434 0 (.bool t430); have hcz250_1 := czZ BK434 1 (.int .u64 t431); have hcz250_2 := czZ BK434 2 (.int .u64 t432); have hfz250_0 := blk_frozen BK434.out 0; have hfz250_1 := blk_frozen BK434.out 1; have hfz250_2 := blk_frozen BK434.out 2; have hnb251 := NB439_427.out; have hnc251 := NB427_439.out; have hnb252 := NB439_428.out; have hnc252 := NB428_439.out; have hnb253 := NB439_444.out; have hnc253 := NB444_439.out; have hnb254 := NB439_449.out; have hnc254 := NB449_439.out; have hnb255 := NB439_455.out; have hnc255 := NB455_439.out; have hnb256 := NB439_461.out; have hnc256 := NB461_439.out; have hcz257_0 := czZ BK439 0 (.bool t435); have hcz257_1 := czZ BK439 1 (.int .u64 t436); have hcz257_2 := czZ BK439 2 (.int .u64 t437); have hfz257_0 := blk_frozen BK439.out 0; have hfz257_1 := blk_frozen BK439.out 1; have hfz257_2 := blk_frozen BK439.out 2
   go_wp2
   go_meet
   case rel => exact ⟨_, (false), (by first | rfl | (simp; done) | (simp [*]; done)), H', ⟨by first | omega | exact Nat.le_refl _⟩, ⟨by (with_reducible repeat first | apply blk_drewN | apply blk_drew | apply blk_alloc); refine blk_far ?_ NB427_461.out _; (with_reducible repeat first | apply blk_drewN | apply blk_drew | apply blk_alloc); refine blk_far ?_ NB427_461.out _; (with_reducible repeat first | apply blk_drewN | apply blk_drew | apply blk_alloc); refine blk_far ?_ NB427_461.out _; (with_reducible repeat first | apply blk_drewN | apply blk_drew | apply blk_alloc); exact BK427.out⟩, ⟨by (with_reducible repeat first | apply blk_drewN | apply blk_drew | apply blk_alloc); refine blk_far ?_ NB428_461.out _; (with_reducible repeat first | apply blk_drewN | apply blk_drew | apply blk_alloc); refine blk_far ?_ NB428_461.out _; (with_reducible repeat first | apply blk_drewN | apply blk_drew | apply blk_alloc); refine blk_far ?_ NB428_461.out _; (with_reducible repeat first | apply blk_drewN | apply blk_drew | apply blk_alloc); exact BK428.out⟩, ⟨by (with_reducible repeat first | apply blk_drewN | apply blk_drew | apply blk_alloc); refine blk_far ?_ NB434_461.out _; (with_reducible repeat first | apply blk_drewN | apply blk_drew | apply blk_alloc); refine blk_far ?_ NB434_461.out _; (with_reducible repeat first | apply blk_drewN | apply blk_drew | apply blk_alloc); refine blk_far ?_ NB434_461.out _; (with_reducible repeat first | apply blk_drewN | apply blk_drew | apply blk_alloc); exact BK434.out⟩, ⟨by (with_reducible repeat first | apply blk_drewN | apply blk_drew | apply blk_alloc); refine blk_far ?_ NB439_461.out _; (with_reducible repeat first | apply blk_drewN | apply blk_drew | apply blk_alloc); refine blk_far ?_ NB439_461.out _; (with_reducible repeat first | apply blk_drewN | apply blk_drew | apply blk_alloc); refine blk_far ?_ NB439_461.out _; (with_reducible repeat first | apply blk_drewN | apply blk_drew | apply blk_alloc); exact BK439.out⟩, ⟨by (with_reducible repeat first | apply blk_drewN | apply blk_drew | apply blk_alloc); refine blk_far ?_ NB444_461.out _; (with_reducible repeat first | apply blk_drewN | apply blk_drew | apply blk_alloc); refine blk_far ?_ NB444_461.out _; (with_reducible repeat first | apply blk_drewN | apply blk_drew | apply blk_alloc); refine blk_far ?_ NB444_461.out _; (with_reducible repeat first | apply blk_drewN | apply blk_drew | apply blk_alloc); exact BK444.out⟩, ⟨by (with_reducible repeat first | apply blk_drewN | apply blk_drew | apply blk_alloc); refine blk_far ?_ NB449_461.out _; (with_reducible repeat first | apply blk_drewN | apply blk_drew | apply blk_alloc); refine blk_far ?_ NB449_461.out _; (with_reducible repeat first | apply blk_drewN | apply blk_drew | apply blk_alloc); refine blk_far ?_ NB449_461.out _; (with_reducible repeat first | apply blk_drewN | apply blk_drew | apply blk_alloc); exact BK449.out⟩, ⟨by (with_reducible repeat first | apply blk_drewN | apply blk_drew | apply blk_alloc); refine blk_far ?_ NB455_461.out _; (with_reducible repeat first | apply blk_drewN | apply blk_drew | apply blk_alloc); refine blk_far ?_ NB455_461.out _; (with_reducible repeat first | apply blk_drewN | apply blk_drew | apply blk_alloc); refine blk_far ?_ NB455_461.out _; (with_reducible repeat first | apply blk_drewN | apply blk_drew | apply blk_alloc); exact BK455.out⟩, ⟨by (with_reducible repeat first | apply blk_drewN | apply blk_drew | apply blk_alloc); refine blk_put (cs := #[.bool t456, .int .u64 t457, .int .u64 0]) ?_ 2 _ rfl; (with_reducible repeat first | apply blk_drewN | apply blk_drew | apply blk_alloc); refine blk_put (cs := #[.bool t456, .int .u64 0, .int .u64 0]) ?_ 1 _ rfl; (with_reducible repeat first | apply blk_drewN | apply blk_drew | apply blk_alloc); refine blk_put (cs := #[.bool false, .int .u64 0, .int .u64 0]) ?_ 0 _ rfl; (with_reducible repeat first | apply blk_drewN | apply blk_drew | apply blk_alloc); exact BK461.out⟩, ⟨by repeat (first | (with_reducible first | exact HB.out | apply below_alloc | apply pw_below_drewN | apply below_drew1 | refine below_set ?_ (Aside0.out (by assumption))) | exact HB.out)⟩⟩
 case rest =>
  clear HC13
  try clear c1
  try clear c2
  try clear p2
  try clear c3
  try clear c4
  try clear c5
  try clear c6
  try clear c7
  try clear c8
  try clear c9
  try clear c10
  try clear c11
  try clear c12
  try clear c13
  try clear c14
  try clear c15
  try clear c16
  try clear c17
  try clear c18
  try clear c19
  try clear c20
  try clear c21
  try clear c22
  try clear c23
  try clear c24
  try clear c25
  try clear c29
  try clear c30
  try clear c31
  try clear c36
  try clear c37
  try clear c38
  try clear c39
  try clear c44
  try clear c45
  try clear c46
  try clear c47
  try clear c48
  try clear c53
  try clear c54
  try clear c55
  try clear c56
  try clear c57
  try clear c58
  try clear c63
  try clear c64
  try clear c65
  try clear c66
  try clear c67
  try clear c68
  try clear c69
  try clear c71
  try clear c71b0
  try clear c71b1
  try clear c71b2
  try clear c72
  try clear c72b0
  try clear c72b1
  try clear c73
  try clear c73b0
  try clear c73b1
  try clear c73b2
  try clear c74
  try clear c74b0
  try clear c74b1
  try clear c75
  try clear c75b0
  try clear c75b1
  try clear c75b2
  try clear c76
  try clear c76b0
  try clear c76b1
  try clear c77
  try clear c78
  try clear c79
  try clear c80
  try clear c81
  try clear c82
  try clear c83
  try clear c85
  try clear c86
  try clear c87
  try clear c88
  try clear c89
  try clear c90
  try clear c92
  try clear c93
  try clear c94
  try clear c95
  try clear c96
  try clear c98
  try clear c99
  try clear c100
  try clear c101
  try clear c103
  try clear c104
  try clear c105
  try clear c107
  try clear c108
  try clear c110
  try clear c111
  try clear c112
  try clear c113
  try clear c114
  try clear c115
  try clear c116
  try clear c118
  try clear c119
  try clear c120
  try clear c121
  try clear c122
  try clear c123
  try clear c125
  try clear c126
  try clear c127
  try clear c128
  try clear c129
  try clear c131
  try clear c132
  try clear c133
  try clear c134
  try clear c136
  try clear c137
  try clear c138
  try clear c140
  try clear c141
  try clear c143
  try clear c144
  try clear c145
  try clear c146
  try clear c147
  try clear c148
  try clear c149
  try clear c151
  try clear c152
  try clear c153
  try clear c154
  try clear c155
  try clear c156
  try clear c158
  try clear c159
  try clear c160
  try clear c161
  try clear c162
  try clear c164
  try clear c165
  try clear c166
  try clear c167
  try clear c169
  try clear c170
  try clear c171
  try clear c173
  try clear c174
  try clear c176
  try clear c177
  try clear c178
  try clear c179
  try clear c180
  try clear c181
  try clear c182
  try clear c184
  try clear c185
  try clear c186
  try clear c187
  try clear c188
  try clear c189
  try clear c191
  try clear c192
  try clear c193
  try clear c194
  try clear c195
  try clear c197
  try clear c198
  try clear c199
  try clear c200
  try clear c202
  try clear c203
  try clear c204
  try clear c205
  try clear c206
  try clear c207
  try clear c208
  try clear c210
  try clear c211
  try clear c212
  try clear c213
  try clear c214
  try clear c215
  try clear c217
  try clear c218
  try clear c219
  try clear c220
  try clear c221
  try clear c223
  try clear c224
  try clear c225
  try clear c226
  try clear c228
  try clear c229
  try clear c230
  try clear c231
  try clear c232
  try clear c233
  try clear c234
  try clear c236
  try clear c237
  try clear c238
  try clear c239
  try clear c240
  try clear c241
  try clear c243
  try clear c244
  try clear c245
  try clear c246
  try clear c247
  try clear c248
  try clear c249
  try clear c251
  try clear c252
  try clear c253
  try clear c254
  try clear c255
  try clear c256
  try clear hcz102_0
  try clear hcz102_1
  try clear hcz102_2
  try clear hcz106_0
  try clear hcz106_1
  try clear hcz106_2
  try clear hcz109_0
  try clear hcz109_1
  try clear hcz109_2
  try clear hcz117_0
  try clear hcz117_1
  try clear hcz117_2
  try clear hcz124_0
  try clear hcz124_1
  try clear hcz124_2
  try clear hcz130_0
  try clear hcz130_1
  try clear hcz130_2
  try clear hcz135_0
  try clear hcz135_1
  try clear hcz135_2
  try clear hcz139_0
  try clear hcz139_1
  try clear hcz139_2
  try clear hcz142_0
  try clear hcz142_1
  try clear hcz142_2
  try clear hcz150_0
  try clear hcz150_1
  try clear hcz150_2
  try clear hcz157_0
  try clear hcz157_1
  try clear hcz157_2
  try clear hcz163_0
  try clear hcz163_1
  try clear hcz163_2
  try clear hcz168_0
  try clear hcz168_1
  try clear hcz168_2
  try clear hcz172_0
  try clear hcz172_1
  try clear hcz172_2
  try clear hcz175_0
  try clear hcz175_1
  try clear hcz175_2
  try clear hcz183_0
  try clear hcz183_1
  try clear hcz183_2
  try clear hcz18_0
  try clear hcz18_1
  try clear hcz18_2
  try clear hcz190_0
  try clear hcz190_1
  try clear hcz190_2
  try clear hcz196_0
  try clear hcz196_1
  try clear hcz196_2
  try clear hcz19_0
  try clear hcz19_1
  try clear hcz19_2
  try clear hcz201_0
  try clear hcz201_1
  try clear hcz201_2
  try clear hcz209_0
  try clear hcz209_1
  try clear hcz209_2
  try clear hcz216_0
  try clear hcz216_1
  try clear hcz216_2
  try clear hcz222_0
  try clear hcz222_1
  try clear hcz222_2
  try clear hcz227_0
  try clear hcz227_1
  try clear hcz227_2
  try clear hcz235_0
  try clear hcz235_1
  try clear hcz235_2
  try clear hcz242_0
  try clear hcz242_1
  try clear hcz242_2
  try clear hcz24_0
  try clear hcz24_1
  try clear hcz24_2
  try clear hcz250_0
  try clear hcz250_1
  try clear hcz250_2
  try clear hcz257_0
  try clear hcz257_1
  try clear hcz257_2
  try clear hcz25_0
  try clear hcz25_1
  try clear hcz25_2
  try clear hcz26_0
  try clear hcz26_1
  try clear hcz26_2
  try clear hcz32_0
  try clear hcz32_1
  try clear hcz32_2
  try clear hcz33_0
  try clear hcz33_1
  try clear hcz33_2
  try clear hcz40_0
  try clear hcz40_1
  try clear hcz40_2
  try clear hcz41_0
  try clear hcz41_1
  try clear hcz41_2
  try clear hcz49_0
  try clear hcz49_1
  try clear hcz49_2
  try clear hcz50_0
  try clear hcz50_1
  try clear hcz50_2
  try clear hcz59_0
  try clear hcz59_1
  try clear hcz59_2
  try clear hcz60_0
  try clear hcz60_1
  try clear hcz60_2
  try clear hcz70_0
  try clear hcz70_1
  try clear hcz70_2
  try clear hcz84_0
  try clear hcz84_1
  try clear hcz84_2
  try clear hcz91_0
  try clear hcz91_1
  try clear hcz91_2
  try clear hcz97_0
  try clear hcz97_1
  try clear hcz97_2
  try clear hfz102_0
  try clear hfz102_1
  try clear hfz102_2
  try clear hfz106_0
  try clear hfz106_1
  try clear hfz106_2
  try clear hfz109_0
  try clear hfz109_1
  try clear hfz109_2
  try clear hfz117_0
  try clear hfz117_1
  try clear hfz117_2
  try clear hfz124_0
  try clear hfz124_1
  try clear hfz124_2
  try clear hfz130_0
  try clear hfz130_1
  try clear hfz130_2
  try clear hfz135_0
  try clear hfz135_1
  try clear hfz135_2
  try clear hfz139_0
  try clear hfz139_1
  try clear hfz139_2
  try clear hfz142_0
  try clear hfz142_1
  try clear hfz142_2
  try clear hfz150_0
  try clear hfz150_1
  try clear hfz150_2
  try clear hfz157_0
  try clear hfz157_1
  try clear hfz157_2
  try clear hfz163_0
  try clear hfz163_1
  try clear hfz163_2
  try clear hfz168_0
  try clear hfz168_1
  try clear hfz168_2
  try clear hfz172_0
  try clear hfz172_1
  try clear hfz172_2
  try clear hfz175_0
  try clear hfz175_1
  try clear hfz175_2
  try clear hfz183_0
  try clear hfz183_1
  try clear hfz183_2
  try clear hfz18_0
  try clear hfz18_1
  try clear hfz18_2
  try clear hfz190_0
  try clear hfz190_1
  try clear hfz190_2
  try clear hfz196_0
  try clear hfz196_1
  try clear hfz196_2
  try clear hfz19_0
  try clear hfz19_1
  try clear hfz19_2
  try clear hfz201_0
  try clear hfz201_1
  try clear hfz201_2
  try clear hfz209_0
  try clear hfz209_1
  try clear hfz209_2
  try clear hfz216_0
  try clear hfz216_1
  try clear hfz216_2
  try clear hfz222_0
  try clear hfz222_1
  try clear hfz222_2
  try clear hfz227_0
  try clear hfz227_1
  try clear hfz227_2
  try clear hfz235_0
  try clear hfz235_1
  try clear hfz235_2
  try clear hfz242_0
  try clear hfz242_1
  try clear hfz242_2
  try clear hfz24_0
  try clear hfz24_1
  try clear hfz24_2
  try clear hfz250_0
  try clear hfz250_1
  try clear hfz250_2
  try clear hfz257_0
  try clear hfz257_1
  try clear hfz257_2
  try clear hfz25_0
  try clear hfz25_1
  try clear hfz25_2
  try clear hfz26_0
  try clear hfz26_1
  try clear hfz26_2
  try clear hfz32_0
  try clear hfz32_1
  try clear hfz32_2
  try clear hfz33_0
  try clear hfz33_1
  try clear hfz33_2
  try clear hfz40_0
  try clear hfz40_1
  try clear hfz40_2
  try clear hfz41_0
  try clear hfz41_1
  try clear hfz41_2
  try clear hfz49_0
  try clear hfz49_1
  try clear hfz49_2
  try clear hfz50_0
  try clear hfz50_1
  try clear hfz50_2
  try clear hfz59_0
  try clear hfz59_1
  try clear hfz59_2
  try clear hfz60_0
  try clear hfz60_1
  try clear hfz60_2
  try clear hfz70_0
  try clear hfz70_1
  try clear hfz70_2
  try clear hfz84_0
  try clear hfz84_1
  try clear hfz84_2
  try clear hfz91_0
  try clear hfz91_1
  try clear hfz91_2
  try clear hfz97_0
  try clear hfz97_1
  try clear hfz97_2
  obtain ⟨kq, x26_12, rfl, HA, HJ12, BK427, BK428, BK434, BK439, BK444, BK449, BK455, BK461, HB⟩ := hcut
  cases kq with
  | zero => exact absurd HA.out (by simp [sawtoothlaw02_BigTells.j0])
  | succ kj12 =>
   have H := HA.out; clear HA; simp only [sawtoothlaw02_BigTells.j0] at H
   by_cases c258 : t429 = true
   ·subst c258
    have H1 : (if x26_12 = true then ((big_OfS.f a2).bind fun bt462 => ((sawtoothref02_OfS.f a2).bind fun bt465 => (if (bt462.1 == bt465.1 && (bt462.2.1 == bt465.2.1 && (bt462.2.2 == bt465.2.2))) = true then ((big_MulS.f a2 a3).bind fun bt468 => ((sawtoothref02_MulS.f a2 a3).bind fun bt471 => (if (bt468.1 == bt471.1 && (bt468.2.1 == bt471.2.1 && (bt468.2.2 == bt471.2.2))) = true then ((big_NegS.f a0_0 a0_1 a0_2).bind fun bt474 => ((sawtoothref02_NegS.f a0_0 a0_1 a0_2).bind fun bt477 => (if (bt474.1 == bt477.1 && (bt474.2.1 == bt477.2.1 && (bt474.2.2 == bt477.2.2))) = true then ((big_CmpS.f a0_0 a0_1 a0_2 a1_0 a1_1 a1_2).bind fun t480 => ((sawtoothref02_CmpS.f a0_0 a0_1 a0_2 a1_0 a1_1 a1_2).bind fun t481 => (if t480 = t481 then ((big_IntS.f a0_0 a0_1 a0_2).bind fun t482 => ((sawtoothref02_IntS.f a0_0 a0_1 a0_2).bind fun t483 => (some (t482 == t483)))) else (none)))) else (none)))) else (none)))) else (none)))) else (none)) = some r := by rw [if_pos rfl] at H; exact H
    clear H; have H := H1; clear H1
    by_cases c259 : x26_12 = true
    ·subst c259
     have H1 : ((big_OfS.f a2).bind fun bt462 => ((sawtoothref02_OfS.f a2).bind fun bt465 => (if (bt462.1 == bt465.1 && (bt462.2.1 == bt465.2.1 && (bt462.2.2 == bt465.2.2))) = true then ((big_MulS.f a2 a3).bind fun bt468 => ((sawtoothref02_MulS.f a2 a3).bind fun bt471 => (if (bt468.1 == bt471.1 && (bt468.2.1 == bt471.2.1 && (bt468.2.2 == bt471.2.2))) = true then ((big_NegS.f a0_0 a0_1 a0_2).bind fun bt474 => ((sawtoothref02_NegS.f a0_0 a0_1 a0_2).bind fun bt477 => (if (bt474.1 == bt477.1 && (bt474.2.1 == bt477.2.1 && (bt474.2.2 == bt477.2.2))) = true then ((big_CmpS.f a0_0 a0_1 a0_2 a1_0 a1_1 a1_2).bind fun t480 => ((sawtoothref02_CmpS.f a0_0 a0_1 a0_2 a1_0 a1_1 a1_2).bind fun t481 => (if t480 = t481 then ((big_IntS.f a0_0 a0_1 a0_2).bind fun t482 => ((sawtoothref02_IntS.f a0_0 a0_1 a0_2).bind fun t483 => (some (t482 == t483)))) else (none)))) else (none)))) else (none)))) else (none)))) = some r := by rw [if_pos rfl] at H; exact H
     clear H; have H := H1; clear H1; replace H := Option.bind_eq_some_iff.mp H; obtain ⟨⟨t462, t463, t464⟩, A2600, H⟩ := H; (try dsimp only at H); have A260 := Aside0.mk A2600; clear A2600; replace H := Option.bind_eq_some_iff.mp H; obtain ⟨⟨t465, t466, t467⟩, A2610, H⟩ := H; (try dsimp only at H); have A261 := Aside0.mk A2610; clear A2610
     by_cases c262 : (t462 == t465 && (t463 == t466 && (t464 == t467))) = true
     ·rw [if_pos c262] at H
      have c262b0 : (t462 == t465 && (t463 == t466 && (t464 == t467))) = true := c262
      (try (have c262b1 : decide (t462 = t465 && (t463 == t466 && (t464 == t467))) = true := by simpa using c262))
      (try (have c262b2 : (t462 == t465 && (t463 == t466 && (t464 == t467))) = true := by simpa using c262))
      clear c262; replace H := Option.bind_eq_some_iff.mp H; obtain ⟨⟨t468, t469, t470⟩, A2630, H⟩ := H; (try dsimp only at H); have A263 := Aside0.mk A2630; clear A2630; replace H := Option.bind_eq_some_iff.mp H; obtain ⟨⟨t471, t472, t473⟩, A2640, H⟩ := H; (try dsimp only at H); have A264 := Aside0.mk A2640; clear A2640
      by_cases c265 : (t468 == t471 && (t469 == t472 && (t470 == t473))) = true
      ·rw [if_pos c265] at H
       have c265b0 : (t468 == t471 && (t469 == t472 && (t470 == t473))) = true := c265
       (try (have c265b1 : decide (t468 = t471 && (t469 == t472 && (t470 == t473))) = true := by simpa using c265))
       (try (have c265b2 : (t468 == t471 && (t469 == t472 && (t470 == t473))) = true := by simpa using c265))
       clear c265; replace H := Option.bind_eq_some_iff.mp H; obtain ⟨⟨t474, t475, t476⟩, A2660, H⟩ := H; (try dsimp only at H); have A266 := Aside0.mk A2660; clear A2660; replace H := Option.bind_eq_some_iff.mp H; obtain ⟨⟨t477, t478, t479⟩, A2670, H⟩ := H; (try dsimp only at H); have A267 := Aside0.mk A2670; clear A2670
       by_cases c268 : (t474 == t477 && (t475 == t478 && (t476 == t479))) = true
       ·rw [if_pos c268] at H
        have c268b0 : (t474 == t477 && (t475 == t478 && (t476 == t479))) = true := c268
        (try (have c268b1 : decide (t474 = t477 && (t475 == t478 && (t476 == t479))) = true := by simpa using c268))
        (try (have c268b2 : (t474 == t477 && (t475 == t478 && (t476 == t479))) = true := by simpa using c268))
        clear c268; replace H := Option.bind_eq_some_iff.mp H; obtain ⟨t480, A2690, H⟩ := H; (try dsimp only at H); have A269 := Aside0.mk A2690; clear A2690; replace H := Option.bind_eq_some_iff.mp H; obtain ⟨t481, A2700, H⟩ := H; replace H : (if t480 = t481 then ((big_IntS.f a0_0 a0_1 a0_2).bind fun t482 => ((sawtoothref02_IntS.f a0_0 a0_1 a0_2).bind fun t483 => (some (t482 == t483)))) else (none)) = some r := H; have A270 := Aside0.mk A2700; clear A2700
        by_cases c271 : t480 = t481
        ·rw [if_pos c271] at H
         have c271b0 : (t480 == t481) = true := beq_iff_eq.mpr c271; have c271b1 : (t480 != t481) = false := bne_eq_false_iff_eq.mpr c271; clear c271; replace H := Option.bind_eq_some_iff.mp H; obtain ⟨t482, A2720, H⟩ := H; replace H : ((sawtoothref02_IntS.f a0_0 a0_1 a0_2).bind fun t483 => (some (t482 == t483))) = some r := H; have A272 := Aside0.mk A2720; clear A2720; replace H := Option.bind_eq_some_iff.mp H; obtain ⟨t483, A2730, H⟩ := H; replace H : (some (t482 == t483)) = some r := H; have A273 := Aside0.mk A2730; clear A2730; obtain rfl := Option.some.inj H
         try go_wp2
         replace BK427 := Aside0.mk (blk_drew BK427.out); replace BK428 := Aside0.mk (blk_drew BK428.out); replace BK434 := Aside0.mk (blk_drew BK434.out); replace BK439 := Aside0.mk (blk_drew BK439.out); replace BK444 := Aside0.mk (blk_drew BK444.out); replace BK449 := Aside0.mk (blk_drew BK449.out); replace BK455 := Aside0.mk (blk_drew BK455.out); replace BK461 := Aside0.mk (blk_drew BK461.out); replace HB := Aside0.mk (below_drew1 HB.out); refine start_ (n := 44) (S := fun w' => w'.cell? ⟨gb427, 0, none⟩ = some (.bool a0_0) ∧ w'.cell? ⟨gb427, 1, none⟩ = some (.int .u64 a0_1) ∧ w'.cell? ⟨gb427, 2, none⟩ = some (.int .u64 a0_2) ∧ w'.cell? ⟨gb428, 0, none⟩ = some (.bool a1_0) ∧ w'.cell? ⟨gb428, 1, none⟩ = some (.int .u64 a1_1) ∧ w'.cell? ⟨gb428, 2, none⟩ = some (.int .u64 a1_2)) (ds := []) #[N,N,N,N,N,N,N,N,N,N,N,N,N,N,N,N,N,N,N,N,N,N,N,N,N,N,N,N,N,N,N,N,N,N,N,N,N,N,N,N,N,N,N,N] (by kernel_rfl) rfl rfl ⟨(blk_cell BK427.out 0).trans rfl, (blk_cell BK427.out 1).trans rfl, (blk_cell BK427.out 2).trans rfl, (blk_cell BK428.out 0).trans rfl, (blk_cell BK428.out 1).trans rfl, (blk_cell BK428.out 2).trans rfl⟩ (fun hHeld => ?_); refine with_tabW sawtoothlaw02_BigTells.tab9 sawtoothlaw02_BigTells.bits9 (fun HT_ HW_ => ?_)
         generalize wc.drew = w274 at BK427 BK428 BK434 BK439 BK444 BK449 BK455 BK461 HB hHeld ⊢
         refine pureA_ (i := 0) (N := some 99) #[Y,N,N,N,N,N,N,N,N,N,N,N,N,N,N,N,N,N,N,N,N,N,N,N,N,N,N,N,N,N,N,N,N,N,N,N,N,N,N,N,N,N,N,N] rfl rfl (any_of HT_.out (by kernel_rfl)) ?_
         refine pureA_ (i := 1) (N := some 100) #[Y,Y,N,N,N,N,N,N,N,N,N,N,N,N,N,N,N,N,N,N,N,N,N,N,N,N,N,N,N,N,N,N,N,N,N,N,N,N,N,N,N,N,N,N] rfl rfl (any_of HT_.out (by kernel_rfl)) ?_
         refine pureA_ (i := 2) (N := some 101) #[Y,Y,Y,N,N,N,N,N,N,N,N,N,N,N,N,N,N,N,N,N,N,N,N,N,N,N,N,N,N,N,N,N,N,N,N,N,N,N,N,N,N,N,N,N] rfl rfl (any_of HT_.out (by kernel_rfl)) ?_
         refine pureA_ (i := 3) (N := some 102) #[Y,Y,Y,Y,N,N,N,N,N,N,N,N,N,N,N,N,N,N,N,N,N,N,N,N,N,N,N,N,N,N,N,N,N,N,N,N,N,N,N,N,N,N,N,N] rfl rfl (any_of HT_.out (by kernel_rfl)) ?_
         refine pureA_ (i := 4) (N := some 103) #[Y,Y,Y,Y,Y,N,N,N,N,N,N,N,N,N,N,N,N,N,N,N,N,N,N,N,N,N,N,N,N,N,N,N,N,N,N,N,N,N,N,N,N,N,N,N] rfl rfl (any_of HT_.out (by kernel_rfl)) ?_
         refine pureA_ (i := 5) (N := some 104) #[Y,Y,Y,Y,Y,Y,N,N,N,N,N,N,N,N,N,N,N,N,N,N,N,N,N,N,N,N,N,N,N,N,N,N,N,N,N,N,N,N,N,N,N,N,N,N] rfl rfl (any_of HT_.out (by kernel_rfl)) ?_
         refine pureA_ (i := 7) (N := some 106) #[Y,Y,Y,Y,Y,Y,N,Y,N,N,N,N,N,N,N,N,N,N,N,N,N,N,N,N,N,N,N,N,N,N,N,N,N,N,N,N,N,N,N,N,N,N,N,N] rfl rfl (any_of HT_.out (by kernel_rfl)) ?_
         refine one_ (i := 6) (N := some 105) #[Y,Y,Y,Y,Y,Y,Y,Y,N,N,N,N,N,N,N,N,N,N,N,N,N,N,N,N,N,N,N,N,N,N,N,N,N,N,N,N,N,N,N,N,N,N,N,N] rfl rfl (one_of HT_.out (by kernel_rfl)) (by decide) (fun K hK => ?_); refine goesA_ Try.func11 rfl #[.int .i64 a2] (by rfl) rfl rfl ?_
         with_reducible refine (big_OfS.calls a2 t462 t463 t464 _ A260.out).mono ?_
         rintro e w275 ⟨rfl, hb⟩; refine ⟨_, rfl, ?_⟩; replace BK427 := bbZ BK427 hb; replace BK428 := bbZ BK428 hb; replace BK434 := bbZ BK434 hb; replace BK439 := bbZ BK439 hb; replace BK444 := bbZ BK444 hb; replace BK449 := bbZ BK449 hb; replace BK455 := bbZ BK455 hb; replace BK461 := bbZ BK461 hb; replace HB := Aside0.mk (below_step HB.out hb); clear hb; refine hK.out _ _ ⟨(blk_cell BK427.out 0).trans rfl, (blk_cell BK427.out 1).trans rfl, (blk_cell BK427.out 2).trans rfl, (blk_cell BK428.out 0).trans rfl, (blk_cell BK428.out 1).trans rfl, (blk_cell BK428.out 2).trans rfl⟩ (fun hHeld => ?_); clear hK K; refine normA_ (some 105) ?_
         refine one_ (i := 8) (N := some 107) #[Y,Y,Y,Y,Y,Y,Y,Y,Y,N,N,N,N,N,N,N,N,N,N,N,N,N,N,N,N,N,N,N,N,N,N,N,N,N,N,N,N,N,N,N,N,N,N,N] rfl rfl (one_of HT_.out (by kernel_rfl)) (by decide) (fun K hK => ?_); refine goesA_ Try.func12 rfl #[.int .i64 a2] (by rfl) rfl rfl ?_
         with_reducible refine (sawtoothref02_OfS.calls a2 t465 t466 t467 _ A261.out).mono ?_
         rintro e w276 ⟨rfl, hb⟩; refine ⟨_, rfl, ?_⟩; replace BK427 := bbZ BK427 hb; replace BK428 := bbZ BK428 hb; replace BK434 := bbZ BK434 hb; replace BK439 := bbZ BK439 hb; replace BK444 := bbZ BK444 hb; replace BK449 := bbZ BK449 hb; replace BK455 := bbZ BK455 hb; replace BK461 := bbZ BK461 hb; replace HB := Aside0.mk (below_step HB.out hb); clear hb; refine hK.out _ _ ⟨(blk_cell BK427.out 0).trans rfl, (blk_cell BK427.out 1).trans rfl, (blk_cell BK427.out 2).trans rfl, (blk_cell BK428.out 0).trans rfl, (blk_cell BK428.out 1).trans rfl, (blk_cell BK428.out 2).trans rfl⟩ (fun hHeld => ?_); clear hK K; refine normA_ (some 107) ?_
         refine pureA_ (i := 9) (N := some 108) #[Y,Y,Y,Y,Y,Y,Y,Y,Y,Y,N,N,N,N,N,N,N,N,N,N,N,N,N,N,N,N,N,N,N,N,N,N,N,N,N,N,N,N,N,N,N,N,N,N] rfl rfl (any_of HT_.out (by kernel_rfl)) ?_
         refine pureA_ (i := 10) (N := some 109) #[Y,Y,Y,Y,Y,Y,Y,Y,Y,Y,Y,N,N,N,N,N,N,N,N,N,N,N,N,N,N,N,N,N,N,N,N,N,N,N,N,N,N,N,N,N,N,N,N,N] rfl rfl (any_of HT_.out (by kernel_rfl)) ?_
         refine pureA_ (i := 11) (N := some 110) #[Y,Y,Y,Y,Y,Y,Y,Y,Y,Y,Y,Y,N,N,N,N,N,N,N,N,N,N,N,N,N,N,N,N,N,N,N,N,N,N,N,N,N,N,N,N,N,N,N,N] rfl rfl (any_of HT_.out (by kernel_rfl)) ?_
         refine pureA_ (i := 12) (N := some 111) #[Y,Y,Y,Y,Y,Y,Y,Y,Y,Y,Y,Y,Y,N,N,N,N,N,N,N,N,N,N,N,N,N,N,N,N,N,N,N,N,N,N,N,N,N,N,N,N,N,N,N] rfl rfl (any_of HT_.out (by kernel_rfl)) ?_
         refine pureA_ (i := 13) (N := some 112) #[Y,Y,Y,Y,Y,Y,Y,Y,Y,Y,Y,Y,Y,Y,N,N,N,N,N,N,N,N,N,N,N,N,N,N,N,N,N,N,N,N,N,N,N,N,N,N,N,N,N,N] rfl rfl (any_of HT_.out (by kernel_rfl)) ?_
         refine pureA_ (i := 15) (N := some 114) #[Y,Y,Y,Y,Y,Y,Y,Y,Y,Y,Y,Y,Y,Y,N,Y,N,N,N,N,N,N,N,N,N,N,N,N,N,N,N,N,N,N,N,N,N,N,N,N,N,N,N,N] rfl rfl (any_of HT_.out (by kernel_rfl)) ?_
         refine pureA_ (i := 16) (N := some 115) #[Y,Y,Y,Y,Y,Y,Y,Y,Y,Y,Y,Y,Y,Y,N,Y,Y,N,N,N,N,N,N,N,N,N,N,N,N,N,N,N,N,N,N,N,N,N,N,N,N,N,N,N] rfl rfl (any_of HT_.out (by kernel_rfl)) ?_
         refine one_ (i := 14) (N := some 113) #[Y,Y,Y,Y,Y,Y,Y,Y,Y,Y,Y,Y,Y,Y,Y,Y,Y,N,N,N,N,N,N,N,N,N,N,N,N,N,N,N,N,N,N,N,N,N,N,N,N,N,N,N] rfl rfl (one_of HT_.out (by kernel_rfl)) (by decide) (fun K hK => ?_); refine goesA_ Try.func13 rfl #[.int .i64 a2, .int .i64 a3] (by rfl) rfl rfl ?_
         with_reducible refine (big_MulS.calls a2 a3 t468 t469 t470 _ A263.out).mono ?_
         rintro e w277 ⟨rfl, hb⟩; refine ⟨_, rfl, ?_⟩; replace BK427 := bbZ BK427 hb; replace BK428 := bbZ BK428 hb; replace BK434 := bbZ BK434 hb; replace BK439 := bbZ BK439 hb; replace BK444 := bbZ BK444 hb; replace BK449 := bbZ BK449 hb; replace BK455 := bbZ BK455 hb; replace BK461 := bbZ BK461 hb; replace HB := Aside0.mk (below_step HB.out hb); clear hb; refine hK.out _ _ ⟨(blk_cell BK427.out 0).trans rfl, (blk_cell BK427.out 1).trans rfl, (blk_cell BK427.out 2).trans rfl, (blk_cell BK428.out 0).trans rfl, (blk_cell BK428.out 1).trans rfl, (blk_cell BK428.out 2).trans rfl⟩ (fun hHeld => ?_); clear hK K; refine normA_ (some 113) ?_
         refine one_ (i := 17) (N := some 116) #[Y,Y,Y,Y,Y,Y,Y,Y,Y,Y,Y,Y,Y,Y,Y,Y,Y,Y,N,N,N,N,N,N,N,N,N,N,N,N,N,N,N,N,N,N,N,N,N,N,N,N,N,N] rfl rfl (one_of HT_.out (by kernel_rfl)) (by decide) (fun K hK => ?_); refine goesA_ Try.func14 rfl #[.int .i64 a2, .int .i64 a3] (by rfl) rfl rfl ?_
         with_reducible refine (sawtoothref02_MulS.calls a2 a3 t471 t472 t473 _ A264.out).mono ?_
         rintro e w278 ⟨rfl, hb⟩; refine ⟨_, rfl, ?_⟩; replace BK427 := bbZ BK427 hb; replace BK428 := bbZ BK428 hb; replace BK434 := bbZ BK434 hb; replace BK439 := bbZ BK439 hb; replace BK444 := bbZ BK444 hb; replace BK449 := bbZ BK449 hb; replace BK455 := bbZ BK455 hb; replace BK461 := bbZ BK461 hb; replace HB := Aside0.mk (below_step HB.out hb); clear hb; refine hK.out _ _ ⟨(blk_cell BK427.out 0).trans rfl, (blk_cell BK427.out 1).trans rfl, (blk_cell BK427.out 2).trans rfl, (blk_cell BK428.out 0).trans rfl, (blk_cell BK428.out 1).trans rfl, (blk_cell BK428.out 2).trans rfl⟩ (fun hHeld => ?_); clear hK K; refine normA_ (some 116) ?_
         refine pureA_ (i := 18) (N := some 117) #[Y,Y,Y,Y,Y,Y,Y,Y,Y,Y,Y,Y,Y,Y,Y,Y,Y,Y,Y,N,N,N,N,N,N,N,N,N,N,N,N,N,N,N,N,N,N,N,N,N,N,N,N,N] rfl rfl (any_of HT_.out (by kernel_rfl)) ?_
         refine pureA_ (i := 19) (N := some 118) #[Y,Y,Y,Y,Y,Y,Y,Y,Y,Y,Y,Y,Y,Y,Y,Y,Y,Y,Y,Y,N,N,N,N,N,N,N,N,N,N,N,N,N,N,N,N,N,N,N,N,N,N,N,N] rfl rfl (any_of HT_.out (by kernel_rfl)) ?_
         refine pureA_ (i := 20) (N := some 119) #[Y,Y,Y,Y,Y,Y,Y,Y,Y,Y,Y,Y,Y,Y,Y,Y,Y,Y,Y,Y,Y,N,N,N,N,N,N,N,N,N,N,N,N,N,N,N,N,N,N,N,N,N,N,N] rfl rfl (any_of HT_.out (by kernel_rfl)) ?_
         refine take_ (i := 21) (N := some 120) (v := ?_) (a' := ?_) #[Y,Y,Y,Y,Y,Y,Y,Y,Y,Y,Y,Y,Y,Y,Y,Y,Y,Y,Y,Y,Y,Y,N,N,N,N,N,N,N,N,N,N,N,N,N,N,N,N,N,N,N,N,N,N] rfl rfl (take_ofW HT_.out HW_.out (by kernel_rfl)) (fun _ _ _ h => h) (Or.inl ⟨by rfl, ?_⟩) hHeld ?_ ?_; rotate_left
         ·rintro w' ⟨s0, s1, s2, s3, s4, s5⟩; go_simp
          with_reducible rfl
         rotate_left
         ·simp only [Act.put, sA, sB, sC, i64_w, i32_w]
          rfl
         refine take_ (i := 23) (N := some 122) (v := ?_) (a' := ?_) #[Y,Y,Y,Y,Y,Y,Y,Y,Y,Y,Y,Y,Y,Y,Y,Y,Y,Y,Y,Y,Y,Y,N,Y,N,N,N,N,N,N,N,N,N,N,N,N,N,N,N,N,N,N,N,N] rfl rfl (take_ofW HT_.out HW_.out (by kernel_rfl)) (fun _ _ _ h => h) (Or.inl ⟨by rfl, ?_⟩) hHeld ?_ ?_; rotate_left
         ·rintro w' ⟨s0, s1, s2, s3, s4, s5⟩; go_simp
          with_reducible rfl
         rotate_left
         ·simp only [Act.put, sA, sB, sC, i64_w, i32_w]
          rfl
         refine one_ (i := 22) (N := some 121) #[Y,Y,Y,Y,Y,Y,Y,Y,Y,Y,Y,Y,Y,Y,Y,Y,Y,Y,Y,Y,Y,Y,Y,Y,N,N,N,N,N,N,N,N,N,N,N,N,N,N,N,N,N,N,N,N] rfl rfl (one_of HT_.out (by kernel_rfl)) (by decide) (fun K hK => ?_); refine goesA_ Try.func15 rfl #[.agg #[.bool a0_0, .int .u64 a0_1, .int .u64 a0_2]] (by rfl) rfl rfl ?_
         with_reducible refine (big_NegS.calls a0_0 a0_1 a0_2 t474 t475 t476 _ A266.out).mono ?_
         rintro e w279 ⟨rfl, hb⟩; refine ⟨_, rfl, ?_⟩; replace BK427 := bbZ BK427 hb; replace BK428 := bbZ BK428 hb; replace BK434 := bbZ BK434 hb; replace BK439 := bbZ BK439 hb; replace BK444 := bbZ BK444 hb; replace BK449 := bbZ BK449 hb; replace BK455 := bbZ BK455 hb; replace BK461 := bbZ BK461 hb; replace HB := Aside0.mk (below_step HB.out hb); clear hb; refine hK.out _ _ ⟨(blk_cell BK427.out 0).trans rfl, (blk_cell BK427.out 1).trans rfl, (blk_cell BK427.out 2).trans rfl, (blk_cell BK428.out 0).trans rfl, (blk_cell BK428.out 1).trans rfl, (blk_cell BK428.out 2).trans rfl⟩ (fun hHeld => ?_); clear hK K; refine normA_ (some 121) ?_
         refine one_ (i := 24) (N := some 123) #[Y,Y,Y,Y,Y,Y,Y,Y,Y,Y,Y,Y,Y,Y,Y,Y,Y,Y,Y,Y,Y,Y,Y,Y,Y,N,N,N,N,N,N,N,N,N,N,N,N,N,N,N,N,N,N,N] rfl rfl (one_of HT_.out (by kernel_rfl)) (by decide) (fun K hK => ?_); refine goesA_ Try.func16 rfl #[.agg #[.bool a0_0, .int .u64 a0_1, .int .u64 a0_2]] (by rfl) rfl rfl ?_
         with_reducible refine (sawtoothref02_NegS.calls a0_0 a0_1 a0_2 t477 t478 t479 _ A267.out).mono ?_
         rintro e w280 ⟨rfl, hb⟩; refine ⟨_, rfl, ?_⟩; replace BK427 := bbZ BK427 hb; replace BK428 := bbZ BK428 hb; replace BK434 := bbZ BK434 hb; replace BK439 := bbZ BK439 hb; replace BK444 := bbZ BK444 hb; replace BK449 := bbZ BK449 hb; replace BK455 := bbZ BK455 hb; replace BK461 := bbZ BK461 hb; replace HB := Aside0.mk (below_step HB.out hb); clear hb; refine hK.out _ _ ⟨(blk_cell BK427.out 0).trans rfl, (blk_cell BK427.out 1).trans rfl, (blk_cell BK427.out 2).trans rfl, (blk_cell BK428.out 0).trans rfl, (blk_cell BK428.out 1).trans rfl, (blk_cell BK428.out 2).trans rfl⟩ (fun hHeld => ?_); clear hK K; refine normA_ (some 123) ?_
         refine pureA_ (i := 25) (N := some 124) #[Y,Y,Y,Y,Y,Y,Y,Y,Y,Y,Y,Y,Y,Y,Y,Y,Y,Y,Y,Y,Y,Y,Y,Y,Y,Y,N,N,N,N,N,N,N,N,N,N,N,N,N,N,N,N,N,N] rfl rfl (any_of HT_.out (by kernel_rfl)) ?_
         refine pureA_ (i := 26) (N := some 125) #[Y,Y,Y,Y,Y,Y,Y,Y,Y,Y,Y,Y,Y,Y,Y,Y,Y,Y,Y,Y,Y,Y,Y,Y,Y,Y,Y,N,N,N,N,N,N,N,N,N,N,N,N,N,N,N,N,N] rfl rfl (any_of HT_.out (by kernel_rfl)) ?_
         refine pureA_ (i := 27) (N := some 126) #[Y,Y,Y,Y,Y,Y,Y,Y,Y,Y,Y,Y,Y,Y,Y,Y,Y,Y,Y,Y,Y,Y,Y,Y,Y,Y,Y,Y,N,N,N,N,N,N,N,N,N,N,N,N,N,N,N,N] rfl rfl (any_of HT_.out (by kernel_rfl)) ?_
         refine take_ (i := 28) (N := some 127) (v := ?_) (a' := ?_) #[Y,Y,Y,Y,Y,Y,Y,Y,Y,Y,Y,Y,Y,Y,Y,Y,Y,Y,Y,Y,Y,Y,Y,Y,Y,Y,Y,Y,Y,N,N,N,N,N,N,N,N,N,N,N,N,N,N,N] rfl rfl (take_ofW HT_.out HW_.out (by kernel_rfl)) (fun _ _ _ h => h) (Or.inl ⟨by rfl, ?_⟩) hHeld ?_ ?_; rotate_left
         ·rintro w' ⟨s0, s1, s2, s3, s4, s5⟩; go_simp
          with_reducible rfl
         rotate_left
         ·simp only [Act.put, sA, sB, sC, i64_w, i32_w]
          rfl
         refine take_ (i := 29) (N := some 128) (v := ?_) (a' := ?_) #[Y,Y,Y,Y,Y,Y,Y,Y,Y,Y,Y,Y,Y,Y,Y,Y,Y,Y,Y,Y,Y,Y,Y,Y,Y,Y,Y,Y,Y,Y,N,N,N,N,N,N,N,N,N,N,N,N,N,N] rfl rfl (take_ofW HT_.out HW_.out (by kernel_rfl)) (fun _ _ _ h => h) (Or.inl ⟨by rfl, ?_⟩) hHeld ?_ ?_; rotate_left
         ·rintro w' ⟨s0, s1, s2, s3, s4, s5⟩; go_simp
          with_reducible rfl
         rotate_left
         ·simp only [Act.put, sA, sB, sC, i64_w, i32_w]
          rfl
         refine take_ (i := 31) (N := some 130) (v := ?_) (a' := ?_) #[Y,Y,Y,Y,Y,Y,Y,Y,Y,Y,Y,Y,Y,Y,Y,Y,Y,Y,Y,Y,Y,Y,Y,Y,Y,Y,Y,Y,Y,Y,N,Y,N,N,N,N,N,N,N,N,N,N,N,N] rfl rfl (take_ofW HT_.out HW_.out (by kernel_rfl)) (fun _ _ _ h => h) (Or.inl ⟨by rfl, ?_⟩) hHeld ?_ ?_; rotate_left
         ·rintro w' ⟨s0, s1, s2, s3, s4, s5⟩; go_simp
          with_reducible rfl
         rotate_left
         ·simp only [Act.put, sA, sB, sC, i64_w, i32_w]
          rfl
         refine take_ (i := 32) (N := some 131) (v := ?_) (a' := ?_) #[Y,Y,Y,Y,Y,Y,Y,Y,Y,Y,Y,Y,Y,Y,Y,Y,Y,Y,Y,Y,Y,Y,Y,Y,Y,Y,Y,Y,Y,Y,N,Y,Y,N,N,N,N,N,N,N,N,N,N,N] rfl rfl (take_ofW HT_.out HW_.out (by kernel_rfl)) (fun _ _ _ h => h) (Or.inl ⟨by rfl, ?_⟩) hHeld ?_ ?_; rotate_left
         ·rintro w' ⟨s0, s1, s2, s3, s4, s5⟩; go_simp
          with_reducible rfl
         rotate_left
         ·simp only [Act.put, sA, sB, sC, i64_w, i32_w]
          rfl
         refine one_ (i := 30) (N := some 129) #[Y,Y,Y,Y,Y,Y,Y,Y,Y,Y,Y,Y,Y,Y,Y,Y,Y,Y,Y,Y,Y,Y,Y,Y,Y,Y,Y,Y,Y,Y,Y,Y,Y,N,N,N,N,N,N,N,N,N,N,N] rfl rfl (one_of HT_.out (by kernel_rfl)) (by decide) (fun K hK => ?_); refine goesA_ Try.func17 rfl #[.agg #[.bool a0_0, .int .u64 a0_1, .int .u64 a0_2], .agg #[.bool a1_0, .int .u64 a1_1, .int .u64 a1_2]] (by rfl) rfl rfl ?_
         with_reducible refine (big_CmpS.calls a0_0 a0_1 a0_2 a1_0 a1_1 a1_2 t480 _ A269.out).mono ?_
         rintro e w281 ⟨rfl, hb⟩; refine ⟨_, rfl, ?_⟩; replace BK427 := bbZ BK427 hb; replace BK428 := bbZ BK428 hb; replace BK434 := bbZ BK434 hb; replace BK439 := bbZ BK439 hb; replace BK444 := bbZ BK444 hb; replace BK449 := bbZ BK449 hb; replace BK455 := bbZ BK455 hb; replace BK461 := bbZ BK461 hb; replace HB := Aside0.mk (below_step HB.out hb); clear hb; refine hK.out _ _ ⟨(blk_cell BK427.out 0).trans rfl, (blk_cell BK427.out 1).trans rfl, (blk_cell BK427.out 2).trans rfl, (blk_cell BK428.out 0).trans rfl, (blk_cell BK428.out 1).trans rfl, (blk_cell BK428.out 2).trans rfl⟩ (fun hHeld => ?_); clear hK K; refine normA_ (some 129) ?_
         refine one_ (i := 33) (N := some 132) #[Y,Y,Y,Y,Y,Y,Y,Y,Y,Y,Y,Y,Y,Y,Y,Y,Y,Y,Y,Y,Y,Y,Y,Y,Y,Y,Y,Y,Y,Y,Y,Y,Y,Y,N,N,N,N,N,N,N,N,N,N] rfl rfl (one_of HT_.out (by kernel_rfl)) (by decide) (fun K hK => ?_); refine goesA_ Try.func18 rfl #[.agg #[.bool a0_0, .int .u64 a0_1, .int .u64 a0_2], .agg #[.bool a1_0, .int .u64 a1_1, .int .u64 a1_2]] (by rfl) rfl rfl ?_
         with_reducible refine (sawtoothref02_CmpS.calls a0_0 a0_1 a0_2 a1_0 a1_1 a1_2 t481 _ A270.out).mono ?_
         rintro e w282 ⟨rfl, hb⟩; refine ⟨_, rfl, ?_⟩; replace BK427 := bbZ BK427 hb; replace BK428 := bbZ BK428 hb; replace BK434 := bbZ BK434 hb; replace BK439 := bbZ BK439 hb; replace BK444 := bbZ BK444 hb; replace BK449 := bbZ BK449 hb; replace BK455 := bbZ BK455 hb; replace BK461 := bbZ BK461 hb; replace HB := Aside0.mk (below_step HB.out hb); clear hb; refine hK.out _ _ ⟨(blk_cell BK427.out 0).trans rfl, (blk_cell BK427.out 1).trans rfl, (blk_cell BK427.out 2).trans rfl, (blk_cell BK428.out 0).trans rfl, (blk_cell BK428.out 1).trans rfl, (blk_cell BK428.out 2).trans rfl⟩ (fun hHeld => ?_); clear hK K; refine normA_ (some 132) ?_
         refine pureA_ (i := 34) (N := some 133) #[Y,Y,Y,Y,Y,Y,Y,Y,Y,Y,Y,Y,Y,Y,Y,Y,Y,Y,Y,Y,Y,Y,Y,Y,Y,Y,Y,Y,Y,Y,Y,Y,Y,Y,Y,N,N,N,N,N,N,N,N,N] rfl rfl (any_of HT_.out (by kernel_rfl)) ?_
         refine pureA_ (i := 35) (N := some 134) #[Y,Y,Y,Y,Y,Y,Y,Y,Y,Y,Y,Y,Y,Y,Y,Y,Y,Y,Y,Y,Y,Y,Y,Y,Y,Y,Y,Y,Y,Y,Y,Y,Y,Y,Y,Y,N,N,N,N,N,N,N,N] rfl rfl (any_of HT_.out (by kernel_rfl)) ?_
         refine pureA_ (i := 36) (N := some 135) #[Y,Y,Y,Y,Y,Y,Y,Y,Y,Y,Y,Y,Y,Y,Y,Y,Y,Y,Y,Y,Y,Y,Y,Y,Y,Y,Y,Y,Y,Y,Y,Y,Y,Y,Y,Y,Y,N,N,N,N,N,N,N] rfl rfl (any_of HT_.out (by kernel_rfl)) ?_
         refine take_ (i := 37) (N := some 136) (v := ?_) (a' := ?_) #[Y,Y,Y,Y,Y,Y,Y,Y,Y,Y,Y,Y,Y,Y,Y,Y,Y,Y,Y,Y,Y,Y,Y,Y,Y,Y,Y,Y,Y,Y,Y,Y,Y,Y,Y,Y,Y,Y,N,N,N,N,N,N] rfl rfl (take_ofW HT_.out HW_.out (by kernel_rfl)) (fun _ _ _ h => h) (Or.inl ⟨by rfl, ?_⟩) hHeld ?_ ?_; rotate_left
         ·rintro w' ⟨s0, s1, s2, s3, s4, s5⟩; go_simp
          with_reducible rfl
         rotate_left
         ·simp only [Act.put, sA, sB, sC, i64_w, i32_w]
          rfl
         refine take_ (i := 39) (N := some 138) (v := ?_) (a' := ?_) #[Y,Y,Y,Y,Y,Y,Y,Y,Y,Y,Y,Y,Y,Y,Y,Y,Y,Y,Y,Y,Y,Y,Y,Y,Y,Y,Y,Y,Y,Y,Y,Y,Y,Y,Y,Y,Y,Y,N,Y,N,N,N,N] rfl rfl (take_ofW HT_.out HW_.out (by kernel_rfl)) (fun _ _ _ h => h) (Or.inl ⟨by rfl, ?_⟩) hHeld ?_ ?_; rotate_left
         ·rintro w' ⟨s0, s1, s2, s3, s4, s5⟩; go_simp
          with_reducible rfl
         rotate_left
         ·simp only [Act.put, sA, sB, sC, i64_w, i32_w]
          rfl
         refine one_ (i := 38) (N := some 137) #[Y,Y,Y,Y,Y,Y,Y,Y,Y,Y,Y,Y,Y,Y,Y,Y,Y,Y,Y,Y,Y,Y,Y,Y,Y,Y,Y,Y,Y,Y,Y,Y,Y,Y,Y,Y,Y,Y,Y,Y,N,N,N,N] rfl rfl (one_of HT_.out (by kernel_rfl)) (by decide) (fun K hK => ?_); refine goesA_ Try.func19 rfl #[.agg #[.bool a0_0, .int .u64 a0_1, .int .u64 a0_2]] (by rfl) rfl rfl ?_
         with_reducible refine (big_IntS.calls a0_0 a0_1 a0_2 t482 _ A272.out).mono ?_
         rintro e w283 ⟨rfl, hb⟩; refine ⟨_, rfl, ?_⟩; replace BK427 := bbZ BK427 hb; replace BK428 := bbZ BK428 hb; replace BK434 := bbZ BK434 hb; replace BK439 := bbZ BK439 hb; replace BK444 := bbZ BK444 hb; replace BK449 := bbZ BK449 hb; replace BK455 := bbZ BK455 hb; replace BK461 := bbZ BK461 hb; replace HB := Aside0.mk (below_step HB.out hb); clear hb; refine hK.out _ _ ⟨(blk_cell BK427.out 0).trans rfl, (blk_cell BK427.out 1).trans rfl, (blk_cell BK427.out 2).trans rfl, (blk_cell BK428.out 0).trans rfl, (blk_cell BK428.out 1).trans rfl, (blk_cell BK428.out 2).trans rfl⟩ (fun hHeld => ?_); clear hK K; refine normA_ (some 137) ?_
         refine one_ (i := 40) (N := some 139) #[Y,Y,Y,Y,Y,Y,Y,Y,Y,Y,Y,Y,Y,Y,Y,Y,Y,Y,Y,Y,Y,Y,Y,Y,Y,Y,Y,Y,Y,Y,Y,Y,Y,Y,Y,Y,Y,Y,Y,Y,Y,N,N,N] rfl rfl (one_of HT_.out (by kernel_rfl)) (by decide) (fun K hK => ?_); refine goesA_ Try.func20 rfl #[.agg #[.bool a0_0, .int .u64 a0_1, .int .u64 a0_2]] (by rfl) rfl rfl ?_
         with_reducible refine (sawtoothref02_IntS.calls a0_0 a0_1 a0_2 t483 _ A273.out).mono ?_
         rintro e w284 ⟨rfl, hb⟩; refine ⟨_, rfl, ?_⟩; replace BK427 := bbZ BK427 hb; replace BK428 := bbZ BK428 hb; replace BK434 := bbZ BK434 hb; replace BK439 := bbZ BK439 hb; replace BK444 := bbZ BK444 hb; replace BK449 := bbZ BK449 hb; replace BK455 := bbZ BK455 hb; replace BK461 := bbZ BK461 hb; replace HB := Aside0.mk (below_step HB.out hb); clear hb; refine hK.out _ _ ⟨(blk_cell BK427.out 0).trans rfl, (blk_cell BK427.out 1).trans rfl, (blk_cell BK427.out 2).trans rfl, (blk_cell BK428.out 0).trans rfl, (blk_cell BK428.out 1).trans rfl, (blk_cell BK428.out 2).trans rfl⟩ (fun hHeld => ?_); clear hK K; refine normA_ (some 139) ?_
         refine pureA_ (i := 41) (N := some 140) #[Y,Y,Y,Y,Y,Y,Y,Y,Y,Y,Y,Y,Y,Y,Y,Y,Y,Y,Y,Y,Y,Y,Y,Y,Y,Y,Y,Y,Y,Y,Y,Y,Y,Y,Y,Y,Y,Y,Y,Y,Y,Y,N,N] rfl rfl (any_of HT_.out (by kernel_rfl)) ?_
         refine pureA_ (i := 42) (N := some 141) #[Y,Y,Y,Y,Y,Y,Y,Y,Y,Y,Y,Y,Y,Y,Y,Y,Y,Y,Y,Y,Y,Y,Y,Y,Y,Y,Y,Y,Y,Y,Y,Y,Y,Y,Y,Y,Y,Y,Y,Y,Y,Y,Y,N] rfl rfl (any_of HT_.out (by kernel_rfl)) ?_
         refine pureA_ (i := 43) (N := some 10) #[Y,Y,Y,Y,Y,Y,Y,Y,Y,Y,Y,Y,Y,Y,Y,Y,Y,Y,Y,Y,Y,Y,Y,Y,Y,Y,Y,Y,Y,Y,Y,Y,Y,Y,Y,Y,Y,Y,Y,Y,Y,Y,Y,Y] rfl rfl (any_of HT_.out (by kernel_rfl)) ?_
         refine done_ (done_of HT_.out (by kernel_rfl)) ?_
         try go_wp2
         go_ret
         exact ⟨by first | rfl | (simp [errW_none, errW_some] <;> rfl) | (simp [*, errW_none, errW_some] <;> rfl), by repeat (first | (with_reducible first | exact HB.out | apply below_alloc | apply pw_below_drewN | apply below_drew1 | refine below_set ?_ (Aside0.out (by assumption))) | exact HB.out)⟩
        ·rw [if_neg c271] at H
         have c271b0 : (t480 == t481) = false := beq_eq_false_iff_ne.mpr c271; have c271b1 : (t480 != t481) = true := bne_iff_ne.mpr c271; exact absurd H (by simp)
       ·rw [if_neg c268] at H
        have c268b0 : (t474 == t477 && (t475 == t478 && (t476 == t479))) = false := by simpa using c268
        (try (have c268b1 : decide (t474 = t477 && (t475 == t478 && (t476 == t479))) = false := by simpa using c268))
        (try (have c268b2 : (t474 == t477 && (t475 == t478 && (t476 == t479))) = false := by simpa using c268))
        (try (have c268b3 : ¬ (t474 = t477 && (t475 == t478 && (t476 == t479))) := by simpa using c268))
        clear c268; exact absurd H (by simp)
      ·rw [if_neg c265] at H
       have c265b0 : (t468 == t471 && (t469 == t472 && (t470 == t473))) = false := by simpa using c265
       (try (have c265b1 : decide (t468 = t471 && (t469 == t472 && (t470 == t473))) = false := by simpa using c265))
       (try (have c265b2 : (t468 == t471 && (t469 == t472 && (t470 == t473))) = false := by simpa using c265))
       (try (have c265b3 : ¬ (t468 = t471 && (t469 == t472 && (t470 == t473))) := by simpa using c265))
       clear c265; exact absurd H (by simp)
     ·rw [if_neg c262] at H
      have c262b0 : (t462 == t465 && (t463 == t466 && (t464 == t467))) = false := by simpa using c262
      (try (have c262b1 : decide (t462 = t465 && (t463 == t466 && (t464 == t467))) = false := by simpa using c262))
      (try (have c262b2 : (t462 == t465 && (t463 == t466 && (t464 == t467))) = false := by simpa using c262))
      (try (have c262b3 : ¬ (t462 = t465 && (t463 == t466 && (t464 == t467))) := by simpa using c262))
      clear c262; exact absurd H (by simp)
    ·replace c259 := Bool.eq_false_iff.mpr c259
     subst c259
     have H1 : (none) = some r := by rw [if_neg (show ¬ (false = true) by decide)] at H; exact H
     clear H; have H := H1; clear H1; exact absurd H (by simp)
   ·replace c258 := Bool.eq_false_iff.mpr c258
    subst c258
    have H1 : (none) = some r := by rw [if_neg (show ¬ (false = true) by decide)] at H; exact H
    clear H; have H := H1; clear H1; exact absurd H (by simp)

end Go.Proofs.Ytlcobnngpcabpaa.Px
