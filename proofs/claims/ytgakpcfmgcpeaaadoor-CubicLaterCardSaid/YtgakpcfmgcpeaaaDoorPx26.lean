/- Printed by px.py, over the kit's print. Conditions: none beside the theorems' own. -/
import Derived.Test.YtgakpcfmgcpeaaaDoorPx0
import Derived.Test.YtgakpcfmgcpeaaaDoorPx4
import Derived.Test.YtgakpcfmgcpeaaaDoorPx5
import Derived.Test.YtgakpcfmgcpeaaaDoorPx17
import Derived.Test.YtgakpcfmgcpeaaaDoorPx18
import Derived.Test.YtgakpcfmgcpeaaaDoorPx23
import Derived.Test.YtgakpcfmgcpeaaaDoorPx25
import Derived.Test.YtgakpcfmgcpeaaaDoorSpec
namespace Go.Proofs.YtgakpcfmgcpeaaaDoor.Px
open Go.RowKit Go.Proofs.YtgakpcfmgcpeaaaDoorW.PrintWords Go.Proofs.YtgakpcfmgcpeaaaDoorW.PrintLast Go.Proofs.YtgakpcfmgcpeaaaDoorW.PrintMore
attribute [local go_sem] max2_int min2_int max_two min_two max_three min_three max_four min_four
set_option linter.unusedVariables false
set_option linter.unusedSimpArgs false

/-! ### cubic_Rise: function 13 -/
noncomputable def cubic_Rise.f (a0 : Int) : Option (Int) := (safe_ClampS.f a0 (-2147483648) 2147483648).bind fun t260 => ((safe_AbsS.f t260).bind fun t261 => ((root_CubeS.f (IntKind.u64.wrap (t261))).bind fun bt262 => ((big_ScaleS.f (decide (t260 < 0)) bt262.2.1 bt262.2.2.1 262144).bind fun bt267 => ((big_DivS.f bt267.1 bt267.2.1 bt267.2.2.1 10000000000000000000).bind fun bt272 => ((big_IntS.f bt272.1 bt272.2.1 bt272.2.2.1).bind fun t278 => (some t278))))))
set_option maxHeartbeats 8000000 in
set_option maxRecDepth 100000 in
theorem cubic_Rise.calls (a0 : Int) (r : Int) (w : World) (h : cubic_Rise.f a0 = some r) :
  Calls Tryd.prog 13 #[.int .i64 a0] w fun e w' => e = .returned (.int .i64 r) ∧ Below w.heap.size w w' := by
 have hu33 := Tryd.underlying33; have HB := Aside0.mk (Below.refl w.heap.size w); have H : ((safe_ClampS.f a0 (-2147483648) 2147483648).bind fun t260 => ((safe_AbsS.f t260).bind fun t261 => ((root_CubeS.f (IntKind.u64.wrap (t261))).bind fun bt262 => ((big_ScaleS.f (decide (t260 < 0)) bt262.2.1 bt262.2.2.1 262144).bind fun bt267 => ((big_DivS.f bt267.1 bt267.2.1 bt267.2.2.1 10000000000000000000).bind fun bt272 => ((big_IntS.f bt272.1 bt272.2.1 bt272.2.2.1).bind fun t278 => (some t278))))))) = some r := h; clear h; replace H := Option.bind_eq_some_iff.mp H; obtain ⟨t260, A20, H⟩ := H; (try dsimp only at H); have A2 := Aside0.mk A20; clear A20; replace H := Option.bind_eq_some_iff.mp H; obtain ⟨t261, A30, H⟩ := H; (try dsimp only at H); have A3 := Aside0.mk A30; clear A30; replace H := Option.bind_eq_some_iff.mp H; obtain ⟨⟨t262, t263, t264, t265⟩, A40, H⟩ := H; (try dsimp only at H); have A4 := Aside0.mk A40; clear A40; replace H := Option.bind_eq_some_iff.mp H; obtain ⟨⟨t267, t268, t269, t270⟩, A50, H⟩ := H; replace H : ((big_DivS.f t267 t268 t269 10000000000000000000).bind fun bt272 => ((big_IntS.f bt272.1 bt272.2.1 bt272.2.2.1).bind fun t278 => (some t278))) = some r := H; have A5 := Aside0.mk A50; clear A50; replace H := Option.bind_eq_some_iff.mp H; obtain ⟨⟨t272, t273, t274, t275, t276⟩, A60, H⟩ := H; replace H : ((big_IntS.f t272 t273 t274).bind fun t278 => (some t278)) = some r := H; have A6 := Aside0.mk A60; clear A60; replace H := Option.bind_eq_some_iff.mp H; obtain ⟨t278, A70, H⟩ := H; replace H : (some t278) = some r := H; have A7 := Aside0.mk A70; clear A70; obtain rfl := Option.some.inj H
 go_enter Tryd.func13, Tryd.ntmps13
 go_wp2_with (first | ((with_reducible refine gate_callee (f := 30) rfl ?_); refine goesLA_ (some 11) rfl rfl Tryd.func30 rfl #[.int .i64 a0, .int .i64 (-2147483648), .int .i64 2147483648] rfl ?_; (with_reducible refine (safe_ClampS.calls a0 (-2147483648) 2147483648 t260 _ A2.out).mono ?_); rintro e w8 ⟨rfl, hb⟩; refine ⟨_, rfl, ?_⟩; replace HB := stA hb; clear hb) | ((with_reducible refine gate_callee (f := 32) rfl ?_); refine goesLA_ (some 14) rfl rfl Tryd.func32 rfl #[.int .i64 t260] rfl ?_; (with_reducible refine (safe_AbsS.calls t260 t261 _ A3.out).mono ?_); rintro e w9 ⟨rfl, hb⟩; refine ⟨_, rfl, ?_⟩; replace HB := stA hb; clear hb) | ((with_reducible refine gate_callee (f := 31) rfl ?_); refine goesLA_ (some 16) rfl rfl Tryd.func31 rfl #[.int .u64 (IntKind.u64.wrap (t261))] rfl ?_; (with_reducible refine (root_CubeS.calls (IntKind.u64.wrap (t261)) t262 t263 t264 t265 _ A4.out).mono ?_); rintro e w10 ⟨rfl, hb⟩; refine ⟨_, rfl, ?_⟩; replace HB := stA hb; clear hb) | ((with_reducible refine gate_dst (N := 3) rfl ?_); refine box_event ?hg (N := 3) ?hd (cs := #[.bool false, .int .u64 0, .int .u64 0]) (t := 33) ?hr ?_; (case hd => rfl); (case hg => rfl); (case hr => first | (go_simp; done) | (go_simp; rfl)); intro gb266 hg w11 hbox hb; have BK266 := Aside0.mk (hbox); obtain ⟨GW266, nHB⟩ := geA hg hb; have GE266 := GW266; replace HB := nHB; clear nHB; clear hb hbox hg; have hcz12_0 := czZ BK266 0 (.bool false); have hcz12_1 := czZ BK266 1 (.int .u64 0); have hcz12_2 := czZ BK266 2 (.int .u64 0); have hfz12_0 := blk_frozen BK266.out 0; have hfz12_1 := blk_frozen BK266.out 1; have hfz12_2 := blk_frozen BK266.out 2) | ((with_reducible refine gate_callee (f := 33) rfl ?_); refine goesLA_ (some 24) rfl rfl Tryd.func33 rfl #[.agg #[.bool (decide (t260 < 0)), .int .u64 t263, .int .u64 t264], .int .u64 262144] rfl ?_; (with_reducible refine (big_ScaleS.calls (decide (t260 < 0)) t263 t264 262144 t267 t268 t269 t270 _ A5.out).mono ?_); rintro e w13 ⟨rfl, hb⟩; refine ⟨_, rfl, ?_⟩; replace BK266 := Aside0.mk (blk_below (g := gb266) (o := .cells #[.bool (decide (t260 < 0)), .int .u64 t263, .int .u64 t264] 33 (0, 0)) (by (with_reducible repeat first | apply blk_drewN | apply blk_drew | apply blk_alloc); refine blk_put (cs := #[.bool t262, .int .u64 t263, .int .u64 t264]) ?_ 0 _ rfl; (with_reducible repeat first | apply blk_drewN | apply blk_drew | apply blk_alloc); refine blk_put (cs := #[.bool t262, .int .u64 t263, .int .u64 0]) ?_ 2 _ rfl; (with_reducible repeat first | apply blk_drewN | apply blk_drew | apply blk_alloc); refine blk_put (cs := #[.bool t262, .int .u64 0, .int .u64 0]) ?_ 1 _ rfl; (with_reducible repeat first | apply blk_drewN | apply blk_drew | apply blk_alloc); refine blk_put (cs := #[.bool false, .int .u64 0, .int .u64 0]) ?_ 0 _ rfl; (with_reducible repeat first | apply blk_drewN | apply blk_drew | apply blk_alloc); exact BK266.out) hb); replace HB := stA hb; clear hb) | ((with_reducible refine gate_dst (N := 5) rfl ?_); refine box_event ?hg (N := 5) ?hd (cs := #[.bool false, .int .u64 0, .int .u64 0]) (t := 33) ?hr ?_; (case hd => rfl); (case hg => rfl); (case hr => first | (go_simp; done) | (go_simp; rfl)); intro gb271 hg w14 hbox hb; have BK271 := Aside0.mk (hbox); obtain ⟨GW271, nHB⟩ := geA hg hb; have GE271 := GW271; obtain ⟨NB266_271, NB271_266, nBK⟩ := nbA BK266 hg hb; replace BK266 := nBK; clear nBK; replace HB := nHB; clear nHB; clear hb hbox hg; have hnb15 := NB271_266.out; have hnc15 := NB266_271.out; have hcz16_0 := czZ BK271 0 (.bool false); have hcz16_1 := czZ BK271 1 (.int .u64 0); have hcz16_2 := czZ BK271 2 (.int .u64 0); have hfz16_0 := blk_frozen BK271.out 0; have hfz16_1 := blk_frozen BK271.out 1; have hfz16_2 := blk_frozen BK271.out 2) | ((with_reducible refine gate_callee (f := 34) rfl ?_); refine goesLA_ (some 29) rfl rfl Tryd.func34 rfl #[.agg #[.bool t267, .int .u64 t268, .int .u64 t269], .int .u64 10000000000000000000] rfl ?_; (with_reducible refine (big_DivS.calls t267 t268 t269 10000000000000000000 t272 t273 t274 t275 t276 _ A6.out).mono ?_); rintro e w17 ⟨rfl, hb⟩; refine ⟨_, rfl, ?_⟩; replace BK266 := bfZ BK266 (fun h_ => by (with_reducible repeat first | apply blk_drewN | apply blk_drew | apply blk_alloc | refine farZ ?_ NB266_271 _); exact h_) hb; replace BK271 := Aside0.mk (blk_below (g := gb271) (o := .cells #[.bool t267, .int .u64 t268, .int .u64 t269] 33 (0, 0)) (by (with_reducible repeat first | apply blk_drewN | apply blk_drew | apply blk_alloc); refine blk_put (cs := #[.bool t267, .int .u64 t268, .int .u64 0]) ?_ 2 _ rfl; (with_reducible repeat first | apply blk_drewN | apply blk_drew | apply blk_alloc); refine blk_put (cs := #[.bool t267, .int .u64 0, .int .u64 0]) ?_ 1 _ rfl; (with_reducible repeat first | apply blk_drewN | apply blk_drew | apply blk_alloc); refine blk_put (cs := #[.bool false, .int .u64 0, .int .u64 0]) ?_ 0 _ rfl; (with_reducible repeat first | apply blk_drewN | apply blk_drew | apply blk_alloc); exact BK271.out) hb); replace HB := stA hb; clear hb) | ((with_reducible refine gate_dst (N := 7) rfl ?_); refine box_event ?hg (N := 7) ?hd (cs := #[.bool false, .int .u64 0, .int .u64 0]) (t := 33) ?hr ?_; (case hd => rfl); (case hg => rfl); (case hr => first | (go_simp; done) | (go_simp; rfl)); intro gb277 hg w18 hbox hb; have BK277 := Aside0.mk (hbox); obtain ⟨GW277, nHB⟩ := geA hg hb; have GE277 := GW277; obtain ⟨NB266_277, NB277_266, nBK⟩ := nbA BK266 hg hb; replace BK266 := nBK; clear nBK; obtain ⟨NB271_277, NB277_271, nBK⟩ := nbA BK271 hg hb; replace BK271 := nBK; clear nBK; replace HB := nHB; clear nHB; clear hb hbox hg; have hnb19 := NB277_266.out; have hnc19 := NB266_277.out; have hnb20 := NB277_271.out; have hnc20 := NB271_277.out; have hcz21_0 := czZ BK277 0 (.bool false); have hcz21_1 := czZ BK277 1 (.int .u64 0); have hcz21_2 := czZ BK277 2 (.int .u64 0); have hfz21_0 := blk_frozen BK277.out 0; have hfz21_1 := blk_frozen BK277.out 1; have hfz21_2 := blk_frozen BK277.out 2) | ((with_reducible refine gate_callee (f := 35) rfl ?_); refine goesLA_ (some 34) rfl rfl Tryd.func35 rfl #[.agg #[.bool t272, .int .u64 t273, .int .u64 t274]] rfl ?_; (with_reducible refine (big_IntS.calls t272 t273 t274 t278 _ A7.out).mono ?_); rintro e w22 ⟨rfl, hb⟩; refine ⟨_, rfl, ?_⟩; replace BK266 := bfZ BK266 (fun h_ => by (with_reducible repeat first | apply blk_drewN | apply blk_drew | apply blk_alloc | refine farZ ?_ NB266_277 _); exact h_) hb; replace BK271 := bfZ BK271 (fun h_ => by (with_reducible repeat first | apply blk_drewN | apply blk_drew | apply blk_alloc | refine farZ ?_ NB271_277 _); exact h_) hb; replace BK277 := Aside0.mk (blk_below (g := gb277) (o := .cells #[.bool t272, .int .u64 t273, .int .u64 t274] 33 (0, 0)) (by (with_reducible repeat first | apply blk_drewN | apply blk_drew | apply blk_alloc); refine blk_put (cs := #[.bool t272, .int .u64 t273, .int .u64 0]) ?_ 2 _ rfl; (with_reducible repeat first | apply blk_drewN | apply blk_drew | apply blk_alloc); refine blk_put (cs := #[.bool t272, .int .u64 0, .int .u64 0]) ?_ 1 _ rfl; (with_reducible repeat first | apply blk_drewN | apply blk_drew | apply blk_alloc); refine blk_put (cs := #[.bool false, .int .u64 0, .int .u64 0]) ?_ 0 _ rfl; (with_reducible repeat first | apply blk_drewN | apply blk_drew | apply blk_alloc); exact BK277.out) hb); replace HB := stA hb; clear hb))
 go_ret
 exact ⟨by first | rfl | (simp [errW_none, errW_some] <;> rfl) | (simp [*, errW_none, errW_some] <;> rfl), by repeat (first | (with_reducible first | exact HB.out | apply below_alloc | apply pw_below_drewN | apply below_drew1 | refine below_set ?_ (Aside0.out (by assumption))) | exact HB.out)⟩

/-! ### cubic_RiseS: pure, behind function 13 -/
section
open Go.Proofs.YtgakpcfmgcpeaaaDoor.Sp
noncomputable def cubic_RiseS.f (d : Int) : Option (Int) := need ((I d)) (some (riseQ d))
theorem cubic_RiseS.eq {d : Int} (h1 : I d) : cubic_RiseS.f d = some (riseQ d) := need_pos h1
theorem cubic_Rise.main {d : Int} (h1 : I d) : cubic_Rise.f d = some (riseQ d) := by
 unfold cubic_Rise.f
 rw [safe_ClampS.eq h1 (by omega) (by omega)]
 simp only [Option.bind_some]; have b := c31_bd d; have cb := c31_cube d; have rb := riseQ_bd d; have e0 : riseQ d = c31 d * c31 d * c31 d * 262144 / 10000000000000000000 := rfl
 rw [show clamp d (-2147483648) 2147483648 = c31 d from rfl, safe_AbsS.eq (by omega)]
 simp only [Option.bind_some]
 generalize c31 d = x at *
 rw [near_in (v := (x.natAbs : Int)) (by omega), u64w_in (x := (x.natAbs : Int)) (by omega), root_CubeS.eq (by omega)]
 have an : (x.natAbs : Int) * (x.natAbs : Int) * (x.natAbs : Int) = if x < 0 then -(x * x * x) else x * x * x := by
  by_cases h : x < 0
  ·rw [if_pos h, show (x.natAbs : Int) = -x by omega, Int.neg_mul_neg, Int.mul_neg]
  ·rw [if_neg h, show (x.natAbs : Int) = x by omega]
 have ap : 0 ≤ (x.natAbs : Int) * (x.natAbs : Int) * (x.natAbs : Int) := Int.mul_nonneg (Int.mul_nonneg (by omega) (by omega)) (by omega)
 have au : (x.natAbs : Int) * (x.natAbs : Int) * (x.natAbs : Int) ≤ 9903520314283042199192993792 := by rw [an]; split <;> omega
 generalize (x.natAbs : Int) * (x.natAbs : Int) * (x.natAbs : Int) = y at *
 rw [held_in (by omega)]
 simp only [Option.bind_some]; have ev := @val_enc y
 rw [encN_pos ap, val_f] at ev
 have es : val (decide (x < 0)) (encH y) (encL y) = x * x * x := by
  by_cases h : x < 0
  ·rw [decide_eq_true h, val_t, ev, an, if_pos h]; omega
  ·rw [decide_eq_false h, val_f, ev, an, if_neg h]
 rw [big_ScaleS.eq (encH_U (by omega)) encL_U (by omega), es, held_in (by omega)]
 simp only [Option.bind_some]
 rw [big_DivS.enc (by omega) (by omega), quo_pos (by omega)]
 simp only [Option.bind_some]
 rw [← e0, big_IntS.enc (by omega), near_in (by omega)]
 rfl
end
theorem cubic_RiseS.calls (a0 : Int) (r : Int) (w : World) (h : cubic_RiseS.f a0 = some r) :
  Calls Tryd.prog 13 #[.int .i64 a0] w fun e w' => e = .returned (.int .i64 r) ∧ Below w.heap.size w w' := by
 obtain ⟨hc, h⟩ := Sp.need_some h; have h1 := hc; exact cubic_Rise.calls a0 r w (by rw [cubic_Rise.main h1]; exact h)

/-! ### cubic_law: function 27 -/
noncomputable def cubic_law.f (a0_0 : Bool) (a0_1 : Int) (a0_2 : Int) (a0_3 : Int) (a0_4 : Int) (a0_5 : Int) (a1 : Int) : Option (Int) := (safe_SubS.f a1 a0_4).bind fun t280 => ((cubic_RiseS.f t280).bind fun t281 => ((safe_Add.f a0_3 t281).bind fun t282 => ((safe_ClampS.f t282 0 68719476736).bind fun t283 => (some t283))))
def cubic_law.T1 : Bool × List (List Nat × List Nat) := (true, [([], []), ([0], [0]), ([], []), ([], []), ([3], [3]), ([2, 4], [2, 4]), ([5, 5], [5]), ([1, 6, 6], [1, 6]), ([7, 7], [7]), ([8, 8, 0, 1, 2, 3, 4, 5, 6, 7, 8], [8])])
def cubic_law.B1 : List Nat := [0, 1, 0, 0, 8, 28, 60, 127, 255, 511]
theorem cubic_law.tab1 : rtab .any (opsOf Tryd.f27 1) = cubic_law.T1 := by kernel_rfl
theorem cubic_law.bits1 : waitsOk cubic_law.T1.2 cubic_law.B1 = true := by kernel_rfl
set_option maxHeartbeats 8000000 in
set_option maxRecDepth 100000 in
theorem cubic_law.calls (a0_0 : Bool) (a0_1 : Int) (a0_2 : Int) (a0_3 : Int) (a0_4 : Int) (a0_5 : Int) (a1 : Int) (r : Int) (w : World) (h : cubic_law.f a0_0 a0_1 a0_2 a0_3 a0_4 a0_5 a1 = some r) :
  Calls Tryd.prog 27 #[.agg #[.bool a0_0, .int .i64 a0_1, .int .i64 a0_2, .int .i64 a0_3, .int .i64 a0_4, .int .i64 a0_5], .int .i64 a1] w fun e w' => e = .returned (.int .i64 r) ∧ Below w.heap.size w w' := by
 have hu23 := Tryd.underlying23; have HB := Aside0.mk (Below.refl w.heap.size w); have H : ((safe_SubS.f a1 a0_4).bind fun t280 => ((cubic_RiseS.f t280).bind fun t281 => ((safe_Add.f a0_3 t281).bind fun t282 => ((safe_ClampS.f t282 0 68719476736).bind fun t283 => (some t283))))) = some r := h; clear h; replace H := Option.bind_eq_some_iff.mp H; obtain ⟨t280, A30, H⟩ := H; replace H : ((cubic_RiseS.f t280).bind fun t281 => ((safe_Add.f a0_3 t281).bind fun t282 => ((safe_ClampS.f t282 0 68719476736).bind fun t283 => (some t283)))) = some r := H; have A3 := Aside0.mk A30; clear A30; replace H := Option.bind_eq_some_iff.mp H; obtain ⟨t281, A40, H⟩ := H; replace H : ((safe_Add.f a0_3 t281).bind fun t282 => ((safe_ClampS.f t282 0 68719476736).bind fun t283 => (some t283))) = some r := H; have A4 := Aside0.mk A40; clear A40; replace H := Option.bind_eq_some_iff.mp H; obtain ⟨t282, A50, H⟩ := H; replace H : ((safe_ClampS.f t282 0 68719476736).bind fun t283 => (some t283)) = some r := H; have A5 := Aside0.mk A50; clear A50; replace H := Option.bind_eq_some_iff.mp H; obtain ⟨t283, A60, H⟩ := H; replace H : (some t283) = some r := H; have A6 := Aside0.mk A60; clear A60; obtain rfl := Option.some.inj H
 go_enter Tryd.func27, Tryd.ntmps27
 try go_wp2_with (first | ((with_reducible refine gate_dst (N := 2) rfl ?_); refine box_event ?hg (N := 2) ?hd (cs := #[.bool a0_0, .int .i64 a0_1, .int .i64 a0_2, .int .i64 a0_3, .int .i64 a0_4, .int .i64 a0_5]) (t := 23) ?hr ?_; (case hd => rfl); (case hg => rfl); (case hr => first | (go_simp; done) | (go_simp; rfl)); intro gb279 hg w7 hbox hb; have BK279 := Aside0.mk (hbox); obtain ⟨GW279, nHB⟩ := geA hg hb; have GE279 := GW279; replace HB := nHB; clear nHB; clear hb hbox hg))
 replace BK279 := Aside0.mk (blk_drew BK279.out); replace HB := Aside0.mk (below_drew1 HB.out); refine start_ (n := 10) (S := fun w' => w'.cell? ⟨gb279, 0, none⟩ = some (.bool a0_0) ∧ w'.cell? ⟨gb279, 1, none⟩ = some (.int .i64 a0_1) ∧ w'.cell? ⟨gb279, 2, none⟩ = some (.int .i64 a0_2) ∧ w'.cell? ⟨gb279, 3, none⟩ = some (.int .i64 a0_3) ∧ w'.cell? ⟨gb279, 4, none⟩ = some (.int .i64 a0_4) ∧ w'.cell? ⟨gb279, 5, none⟩ = some (.int .i64 a0_5)) (ds := []) #[N,N,N,N,N,N,N,N,N,N] (by kernel_rfl) rfl rfl ⟨(blk_cell BK279.out 0).trans rfl, (blk_cell BK279.out 1).trans rfl, (blk_cell BK279.out 2).trans rfl, (blk_cell BK279.out 3).trans rfl, (blk_cell BK279.out 4).trans rfl, (blk_cell BK279.out 5).trans rfl⟩ (fun hHeld => ?_); refine with_tabW cubic_law.tab1 cubic_law.bits1 (fun HT_ HW_ => ?_)
 generalize w7.drew = w8 at BK279 HB hHeld ⊢
 refine pureA_ (i := 0) (N := some 5) #[Y,N,N,N,N,N,N,N,N,N] rfl rfl (any_of HT_.out (by kernel_rfl)) ?_
 refine pureA_ (i := 2) (N := some 7) #[Y,N,Y,N,N,N,N,N,N,N] rfl rfl (any_of HT_.out (by kernel_rfl)) ?_
 refine pureA_ (i := 3) (N := some 8) #[Y,N,Y,Y,N,N,N,N,N,N] rfl rfl (any_of HT_.out (by kernel_rfl)) ?_
 refine take_ (i := 1) (N := some 6) (v := ?_) (a' := ?_) #[Y,Y,Y,Y,N,N,N,N,N,N] rfl rfl (take_ofW HT_.out HW_.out (by kernel_rfl)) (fun _ _ _ h => h) (Or.inl ⟨by rfl, ?_⟩) hHeld ?_ ?_; rotate_left
 ·rintro w' ⟨s0, s1, s2, s3, s4, s5⟩; go_simp
  with_reducible rfl
 rotate_left
 ·simp only [Act.put, sA, sB, sC, i64_w, i32_w]
  rfl
 refine take_ (i := 4) (N := some 9) (v := ?_) (a' := ?_) #[Y,Y,Y,Y,Y,N,N,N,N,N] rfl rfl (take_ofW HT_.out HW_.out (by kernel_rfl)) (fun _ _ _ h => h) (Or.inl ⟨by rfl, ?_⟩) hHeld ?_ ?_; rotate_left
 ·rintro w' ⟨s0, s1, s2, s3, s4, s5⟩; go_simp
  with_reducible rfl
 rotate_left
 ·simp only [Act.put, sA, sB, sC, i64_w, i32_w]
  rfl
 refine one_ (i := 5) (N := some 10) #[Y,Y,Y,Y,Y,Y,N,N,N,N] rfl rfl (one_of HT_.out (by kernel_rfl)) (by decide) (fun K hK => ?_); refine goesA_ Tryd.func39 rfl #[.int .i64 a1, .int .i64 a0_4] (by rfl) rfl rfl ?_
 with_reducible refine (safe_SubS.calls a1 a0_4 t280 _ A3.out).mono ?_
 rintro e w9 ⟨rfl, hb⟩; refine ⟨_, rfl, ?_⟩; replace BK279 := bbZ BK279 hb; replace HB := Aside0.mk (below_step HB.out hb); clear hb; refine hK.out _ _ ⟨(blk_cell BK279.out 0).trans rfl, (blk_cell BK279.out 1).trans rfl, (blk_cell BK279.out 2).trans rfl, (blk_cell BK279.out 3).trans rfl, (blk_cell BK279.out 4).trans rfl, (blk_cell BK279.out 5).trans rfl⟩ (fun hHeld => ?_); clear hK K; refine normA_ (some 10) ?_
 refine one_ (i := 6) (N := some 11) #[Y,Y,Y,Y,Y,Y,Y,N,N,N] rfl rfl (one_of HT_.out (by kernel_rfl)) (by decide) (fun K hK => ?_); refine goesA_ Tryd.func13 rfl #[.int .i64 t280] (by rfl) rfl rfl ?_
 with_reducible refine (cubic_RiseS.calls t280 t281 _ A4.out).mono ?_
 rintro e w10 ⟨rfl, hb⟩; refine ⟨_, rfl, ?_⟩; replace BK279 := bbZ BK279 hb; replace HB := Aside0.mk (below_step HB.out hb); clear hb; refine hK.out _ _ ⟨(blk_cell BK279.out 0).trans rfl, (blk_cell BK279.out 1).trans rfl, (blk_cell BK279.out 2).trans rfl, (blk_cell BK279.out 3).trans rfl, (blk_cell BK279.out 4).trans rfl, (blk_cell BK279.out 5).trans rfl⟩ (fun hHeld => ?_); clear hK K; refine normA_ (some 11) ?_
 refine one_ (i := 7) (N := some 12) #[Y,Y,Y,Y,Y,Y,Y,Y,N,N] rfl rfl (one_of HT_.out (by kernel_rfl)) (by decide) (fun K hK => ?_); refine goesA_ Tryd.func41 rfl #[.int .i64 a0_3, .int .i64 t281] (by rfl) rfl rfl ?_
 with_reducible refine (safe_Add.calls a0_3 t281 t282 _ A5.out).mono ?_
 rintro e w11 ⟨rfl, hb⟩; refine ⟨_, rfl, ?_⟩; replace BK279 := bbZ BK279 hb; replace HB := Aside0.mk (below_step HB.out hb); clear hb; refine hK.out _ _ ⟨(blk_cell BK279.out 0).trans rfl, (blk_cell BK279.out 1).trans rfl, (blk_cell BK279.out 2).trans rfl, (blk_cell BK279.out 3).trans rfl, (blk_cell BK279.out 4).trans rfl, (blk_cell BK279.out 5).trans rfl⟩ (fun hHeld => ?_); clear hK K; refine normA_ (some 12) ?_
 refine one_ (i := 8) (N := some 13) #[Y,Y,Y,Y,Y,Y,Y,Y,Y,N] rfl rfl (one_of HT_.out (by kernel_rfl)) (by decide) (fun K hK => ?_); refine goesA_ Tryd.func30 rfl #[.int .i64 t282, .int .i64 0, .int .i64 68719476736] (by rfl) rfl rfl ?_
 with_reducible refine (safe_ClampS.calls t282 0 68719476736 t283 _ A6.out).mono ?_
 rintro e w12 ⟨rfl, hb⟩; refine ⟨_, rfl, ?_⟩; replace BK279 := bbZ BK279 hb; replace HB := Aside0.mk (below_step HB.out hb); clear hb; refine hK.out _ _ ⟨(blk_cell BK279.out 0).trans rfl, (blk_cell BK279.out 1).trans rfl, (blk_cell BK279.out 2).trans rfl, (blk_cell BK279.out 3).trans rfl, (blk_cell BK279.out 4).trans rfl, (blk_cell BK279.out 5).trans rfl⟩ (fun hHeld => ?_); clear hK K; refine normA_ (some 13) ?_
 refine pureA_ (i := 9) (N := some 4) #[Y,Y,Y,Y,Y,Y,Y,Y,Y,Y] rfl rfl (any_of HT_.out (by kernel_rfl)) ?_
 refine done_ (done_of HT_.out (by kernel_rfl)) ?_
 try go_wp2
 go_ret
 exact ⟨by first | rfl | (simp [errW_none, errW_some] <;> rfl) | (simp [*, errW_none, errW_some] <;> rfl), by repeat (first | (with_reducible first | exact HB.out | apply below_alloc | apply pw_below_drewN | apply below_drew1 | refine below_set ?_ GE279.out) | exact HB.out)⟩

/-! ### cubic_lawS: pure, behind function 27 -/
section
open Go.Proofs.YtgakpcfmgcpeaaaDoor.Sp
noncomputable def cubic_lawS.f (on : Bool) (s : Int) (f : Int) (m : Int) (k : Int) (e : Int) (t : Int) : Option (Int) := need ((I m) ∧ (I k) ∧ (I t)) (some (clamp (near (m + riseQ (near (t - k)))) 0 68719476736))
theorem cubic_lawS.eq {on : Bool} {s : Int} {f : Int} {m : Int} {k : Int} {e : Int} {t : Int} (h1 : I m) (h2 : I k) (h3 : I t) : cubic_lawS.f on s f m k e t = some (clamp (near (m + riseQ (near (t - k)))) 0 68719476736) := need_pos ⟨h1, h2, h3⟩
theorem cubic_law.main {on : Bool} {s : Int} {f : Int} {m : Int} {k : Int} {e : Int} {t : Int} (h1 : I m) (h2 : I k) (h3 : I t) : cubic_law.f on s f m k e t = some (clamp (near (m + riseQ (near (t - k)))) 0 68719476736) := by
 unfold cubic_law.f
 rw [safe_SubS.eq h3 h2]
 simp only [Option.bind_some]
 rw [cubic_RiseS.eq (near_I _)]
 simp only [Option.bind_some]; have b := riseQ_bd (near (t - k))
 rw [safe_Add.eq h1 (by omega)]
 simp only [Option.bind_some]
 rw [safe_ClampS.eq (near_I _) (by omega) (by omega)]
 rfl
end
theorem cubic_lawS.calls (a0_0 : Bool) (a0_1 : Int) (a0_2 : Int) (a0_3 : Int) (a0_4 : Int) (a0_5 : Int) (a1 : Int) (r : Int) (w : World) (h : cubic_lawS.f a0_0 a0_1 a0_2 a0_3 a0_4 a0_5 a1 = some r) :
  Calls Tryd.prog 27 #[.agg #[.bool a0_0, .int .i64 a0_1, .int .i64 a0_2, .int .i64 a0_3, .int .i64 a0_4, .int .i64 a0_5], .int .i64 a1] w fun e w' => e = .returned (.int .i64 r) ∧ Below w.heap.size w w' := by
 obtain ⟨hc, h⟩ := Sp.need_some h; obtain ⟨h1, h2, h3⟩ := hc; exact cubic_law.calls a0_0 a0_1 a0_2 a0_3 a0_4 a0_5 a1 r w (by rw [cubic_law.main h1 h2 h3]; exact h)

-- NOT PRINTED: function 28 (cubic_Reach_1)

end Go.Proofs.YtgakpcfmgcpeaaaDoor.Px
