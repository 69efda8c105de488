/- Printed by px.py, over the kit's print. Conditions: none beside the theorems' own. -/
import Derived.WalkMore
import Derived.Test.YtfahbgkoldoflaaGreatDoorPx0
import Derived.Test.YtfahbgkoldoflaaGreatDoorPx1
import Derived.Test.YtfahbgkoldoflaaGreatDoorPx12
import Derived.Test.YtfahbgkoldoflaaGreatDoorPx14
import Derived.Test.YtfahbgkoldoflaaGreatDoorPx15
import Derived.Test.YtfahbgkoldoflaaGreatDoorPx17
import Derived.Test.YtfahbgkoldoflaaGreatDoorPx18
import Derived.Test.YtfahbgkoldoflaaGreatDoorSpec
namespace Go.Proofs.YtfahbgkoldoflaaGreatDoor.Px
open Go.RowKit Go.Proofs.YtfahbgkoldoflaaGreatDoorW.PrintWords Go.Proofs.YtfahbgkoldoflaaGreatDoorW.PrintLast Go.Proofs.YtfahbgkoldoflaaGreatDoorW.PrintMore
attribute [local go_sem] max2_int min2_int max_two min_two max_three min_three max_four min_four
set_option linter.unusedVariables false
set_option linter.unusedSimpArgs false

attribute [local go_sem high] eqA25
/-! ### epoch_time: function 17 -/
noncomputable def epoch_time.f (a0 : Int) : Option (Bool) := if a0 ≥ 0 then (some (decide (a0 ≤ 1099511627776))) else (some false)
set_option maxHeartbeats 8000000 in
set_option maxRecDepth 100000 in
theorem epoch_time.calls (a0 : Int) (r : Bool) (w : World) (h : epoch_time.f a0 = some r) :
  Calls Tryz.prog 17 #[.int .i64 a0] w fun e w' => e = .returned (.bool r) ∧ Drawn0 w w' := by
 have H : (if a0 ≥ 0 then (some (decide (a0 ≤ 1099511627776))) else (some false)) = some r := h; clear h
 by_cases c2 : a0 ≥ 0
 ·rw [if_pos c2] at H
  have c2b0 : decide (0 ≤ a0) = true := decide_eq_true c2; clear c2; obtain rfl := Option.some.inj H
  go_enter Tryz.func17, Tryz.ntmps17
  go_wp2
  go_ret
  exact ⟨by first | rfl | (simp; done) | (simp [*]; done), by repeat (first | exact Drawn0.refl _ | apply Drawn0.step)⟩
 ·rw [if_neg c2] at H
  have c2b0 : decide (0 ≤ a0) = false := decide_eq_false c2; clear c2; obtain rfl := Option.some.inj H
  go_enter Tryz.func17, Tryz.ntmps17
  go_wp2
  go_ret
  exact ⟨by first | rfl | (simp; done) | (simp [*]; done), by repeat (first | exact Drawn0.refl _ | apply Drawn0.step)⟩

/-! ### epoch_window: function 18 -/
noncomputable def epoch_window.f (a0 : Int) : Option (Bool) := if a0 ≥ 0 then (some (decide (a0 ≤ 68719476736))) else (some false)
set_option maxHeartbeats 8000000 in
set_option maxRecDepth 100000 in
theorem epoch_window.calls (a0 : Int) (r : Bool) (w : World) (h : epoch_window.f a0 = some r) :
  Calls Tryz.prog 18 #[.int .i64 a0] w fun e w' => e = .returned (.bool r) ∧ Drawn0 w w' := by
 have H : (if a0 ≥ 0 then (some (decide (a0 ≤ 68719476736))) else (some false)) = some r := h; clear h
 by_cases c2 : a0 ≥ 0
 ·rw [if_pos c2] at H
  have c2b0 : decide (0 ≤ a0) = true := decide_eq_true c2; clear c2; obtain rfl := Option.some.inj H
  go_enter Tryz.func18, Tryz.ntmps18
  go_wp2
  go_ret
  exact ⟨by first | rfl | (simp; done) | (simp [*]; done), by repeat (first | exact Drawn0.refl _ | apply Drawn0.step)⟩
 ·rw [if_neg c2] at H
  have c2b0 : decide (0 ≤ a0) = false := decide_eq_false c2; clear c2; obtain rfl := Option.some.inj H
  go_enter Tryz.func18, Tryz.ntmps18
  go_wp2
  go_ret
  exact ⟨by first | rfl | (simp; done) | (simp [*]; done), by repeat (first | exact Drawn0.refl _ | apply Drawn0.step)⟩

/-! ### epoch_windowS: pure, behind function 18 -/
section
open Go.Proofs.YtfahbgkoldoflaaGreatDoor.Sp
noncomputable def epoch_windowS.f (n : Int) : Option (Bool) := some (winOk n)
theorem epoch_windowS.eq {n : Int}  : epoch_windowS.f n = some (winOk n) := rfl
theorem epoch_window.main {n : Int}  : epoch_window.f n = some (winOk n) := by
 unfold epoch_window.f winOk
 by_cases c1 : 0 ≤ n <;> by_cases c2 : n ≤ 68719476736 <;> simp [c1, c2]
end
theorem epoch_windowS.calls (a0 : Int) (r : Bool) (w : World) (h : epoch_windowS.f a0 = some r) :
  Calls Tryz.prog 18 #[.int .i64 a0] w fun e w' => e = .returned (.bool r) ∧ Below w.heap.size w w' := by
 refine (epoch_window.calls a0 r w (by rw [epoch_window.main ]; exact h)).mono (fun e w' hq => ⟨hq.1, ?_⟩); obtain ⟨nd, rfl⟩ := hq.2; exact pw_below_drewN (Below.refl _ _) nd

/-! ### big_Scale: function 49 -/
noncomputable def big_Scale.f (a0_0 : Bool) (a0_1 : Int) (a0_2 : Int) (a1 : Int) : Option (Bool × Int × Int × Int) := (bits_Mul64.f a0_1 a1).bind fun bt279 => ((bits_Mul64.f a0_2 a1).bind fun bt281 => ((bits_Add64.f bt279.2 bt281.1 0).bind fun bt283 => (if bt279.1 > 0 then (some (false, 0, 0, 10)) else (if bt283.2 > 0 then (some (false, 0, 0, 10)) else ((big_size_with.f bt283.1 bt281.2 a0_0).bind fun bt285 => (some (bt285.1, bt285.2.1, bt285.2.2, 0)))))))
set_option maxHeartbeats 8000000 in
set_option maxRecDepth 100000 in
theorem big_Scale.calls (a0_0 : Bool) (a0_1 : Int) (a0_2 : Int) (a1 : Int) (r1 : Bool) (r2 : Int) (r3 : Int) (r4 : Int) (w : World) (h : big_Scale.f a0_0 a0_1 a0_2 a1 = some (r1, r2, r3, r4)) :
  Calls Tryz.prog 49 #[.agg #[.bool a0_0, .int .u64 a0_1, .int .u64 a0_2], .int .u64 a1] w fun e w' => e = .returned (.tuple #[.agg #[.bool r1, .int .u64 r2, .int .u64 r3], .int .i64 r4]) ∧ Below w.heap.size w w' := by
 have hu99 := Tryz.underlying99; have hu154 := Tryz.underlying154; have HB := Aside0.mk (Below.refl w.heap.size w); have H : ((bits_Mul64.f a0_1 a1).bind fun bt279 => ((bits_Mul64.f a0_2 a1).bind fun bt281 => ((bits_Add64.f bt279.2 bt281.1 0).bind fun bt283 => (if bt279.1 > 0 then (some (false, 0, 0, 10)) else (if bt283.2 > 0 then (some (false, 0, 0, 10)) else ((big_size_with.f bt283.1 bt281.2 a0_0).bind fun bt285 => (some (bt285.1, bt285.2.1, bt285.2.2, 0)))))))) = some (r1, r2, r3, r4) := h; clear h; replace H := Option.bind_eq_some_iff.mp H; obtain ⟨⟨t279, t280⟩, A30, H⟩ := H; (try dsimp only at H); have A3 := Aside0.mk A30; clear A30; replace H := Option.bind_eq_some_iff.mp H; obtain ⟨⟨t281, t282⟩, A40, H⟩ := H; (try dsimp only at H); have A4 := Aside0.mk A40; clear A40; replace H := Option.bind_eq_some_iff.mp H; obtain ⟨⟨t283, t284⟩, A50, H⟩ := H; (try dsimp only at H); have A5 := Aside0.mk A50; clear A50
 by_cases c6 : t279 > 0
 ·rw [if_pos c6] at H
  have c6b0 : decide (0 < t279) = true := decide_eq_true c6; clear c6; simp only [Option.some.injEq, Prod.mk.injEq] at H; obtain ⟨rfl, rfl, rfl, rfl⟩ := H
  go_enter Tryz.func49, Tryz.ntmps49
  go_wp2_with (first | ((with_reducible refine gate_dst (N := 2) rfl ?_); refine box_event ?hg (N := 2) ?hd (cs := #[.bool a0_0, .int .u64 a0_1, .int .u64 a0_2]) (t := 99) ?hr ?_; (case hd => rfl); (case hg => rfl); (case hr => first | (go_simp; done) | (go_simp; rfl)); intro gb277 hg w7 hbox hb; have BK277 := Aside0.mk (hbox); obtain ⟨GW277, nHB⟩ := geA hg hb; have GE277 := GW277; replace HB := nHB; clear nHB; clear hb hbox hg) | ((with_reducible refine gate_dst (N := 4) rfl ?_); refine box_event ?hg (N := 4) ?hd (cs := #[.bool false, .int .u64 0, .int .u64 0]) (t := 99) ?hr ?_; (case hd => rfl); (case hg => rfl); (case hr => first | (go_simp; done) | (go_simp; rfl)); intro gb278 hg w8 hbox hb; have BK278 := Aside0.mk (hbox); obtain ⟨GW278, nHB⟩ := geA hg hb; have GE278 := GW278; obtain ⟨NB277_278, NB278_277, nBK⟩ := nbA BK277 hg hb; replace BK277 := nBK; clear nBK; replace HB := nHB; clear nHB; clear hb hbox hg; have hnb9 := NB277_278.out; have hnc9 := NB278_277.out; have hcz10_0 := czZ BK277 0 (.bool a0_0); have hcz10_1 := czZ BK277 1 (.int .u64 a0_1); have hcz10_2 := czZ BK277 2 (.int .u64 a0_2); have hfz10_0 := blk_frozen BK277.out 0; have hfz10_1 := blk_frozen BK277.out 1; have hfz10_2 := blk_frozen BK277.out 2) | ((with_reducible refine gate_callee (f := 104) rfl ?_); refine goesLA_ (some 15) rfl rfl Tryz.func104 rfl #[.int .u64 a0_1, .int .u64 a1] rfl ?_; (with_reducible refine (bits_Mul64.calls a0_1 a1 t279 t280 _ A3.out).mono ?_); rintro e w' ⟨rfl, ⟨nd, rfl⟩⟩; refine ⟨_, rfl, ?_⟩; (try (rw [drewN_self w8]; generalize hq_ : World.drewN w8 _ = w8; have n0_ : Aside0 (w8.heap[gb277]? = some (.cells #[.bool a0_0, .int .u64 a0_1, .int .u64 a0_2] 99 (0, 0))) := ⟨by rw [← hq_]; exact (by (with_reducible repeat first | apply blk_drewN | apply blk_drew | apply blk_alloc); exact BK277.out)⟩; have n1_ : Aside0 (w8.heap[gb278]? = some (.cells #[.bool false, .int .u64 0, .int .u64 0] 99 (0, 0))) := ⟨by rw [← hq_]; exact (by (with_reducible repeat first | apply blk_drewN | apply blk_drew | apply blk_alloc); exact BK278.out)⟩; have n2_ : Aside0 (Below w.heap.size w w8) := ⟨by rw [← hq_]; exact (by repeat (first | (with_reducible first | exact HB.out | apply below_alloc | apply pw_below_drewN | apply below_drew1 | refine below_set ?_ (Aside0.out (by assumption))) | exact HB.out))⟩; clear BK277 BK278 HB hq_; have BK277 := n0_; have BK278 := n1_; have HB := n2_; clear n0_ n1_ n2_)); have hcz11_0 := czZ BK277 0 (.bool a0_0); have hcz11_1 := czZ BK277 1 (.int .u64 a0_1); have hcz11_2 := czZ BK277 2 (.int .u64 a0_2); have hfz11_0 := blk_frozen BK277.out 0; have hfz11_1 := blk_frozen BK277.out 1; have hfz11_2 := blk_frozen BK277.out 2) | ((with_reducible refine gate_callee (f := 104) rfl ?_); refine goesLA_ (some 22) rfl rfl Tryz.func104 rfl #[.int .u64 a0_2, .int .u64 a1] rfl ?_; (with_reducible refine (bits_Mul64.calls a0_2 a1 t281 t282 _ A4.out).mono ?_); rintro e w' ⟨rfl, ⟨nd, rfl⟩⟩; refine ⟨_, rfl, ?_⟩; (try (rw [drewN_self w8]; generalize hq_ : World.drewN w8 _ = w8; have n0_ : Aside0 (w8.heap[gb277]? = some (.cells #[.bool a0_0, .int .u64 a0_1, .int .u64 a0_2] 99 (0, 0))) := ⟨by rw [← hq_]; exact (by (with_reducible repeat first | apply blk_drewN | apply blk_drew | apply blk_alloc); exact BK277.out)⟩; have n1_ : Aside0 (w8.heap[gb278]? = some (.cells #[.bool false, .int .u64 0, .int .u64 0] 99 (0, 0))) := ⟨by rw [← hq_]; exact (by (with_reducible repeat first | apply blk_drewN | apply blk_drew | apply blk_alloc); exact BK278.out)⟩; have n2_ : Aside0 (Below w.heap.size w w8) := ⟨by rw [← hq_]; exact (by repeat (first | (with_reducible first | exact HB.out | apply below_alloc | apply pw_below_drewN | apply below_drew1 | refine below_set ?_ (Aside0.out (by assumption))) | exact HB.out))⟩; clear BK277 BK278 HB hq_; have BK277 := n0_; have BK278 := n1_; have HB := n2_; clear n0_ n1_ n2_))) | (simp only [bits_Add64.runs t280 t281 0 t283 t284 A5.out]; have hcz12_0 := czZ BK278 0 (.bool false); have hcz12_1 := czZ BK278 1 (.int .u64 0); have hcz12_2 := czZ BK278 2 (.int .u64 0); have hfz12_0 := blk_frozen BK278.out 0; have hfz12_1 := blk_frozen BK278.out 1; have hfz12_2 := blk_frozen BK278.out 2))
  refine bodyPost_ret (results_ct rfl _ _ gb278 99 #[.bool false, .int .u64 0, .int .u64 0] (0, 0) _ rfl (by (with_reducible repeat first | apply blk_drewN | apply blk_drew | apply blk_alloc); refine blk_put (cs := #[.bool false, .int .u64 0, .int .u64 0]) ?_ 2 _ rfl; (with_reducible repeat first | apply blk_drewN | apply blk_drew | apply blk_alloc); refine blk_put (cs := #[.bool false, .int .u64 0, .int .u64 0]) ?_ 1 _ rfl; (with_reducible repeat first | apply blk_drewN | apply blk_drew | apply blk_alloc); refine blk_put (cs := #[.bool false, .int .u64 0, .int .u64 0]) ?_ 0 _ rfl; (with_reducible repeat first | apply blk_drewN | apply blk_drew | apply blk_alloc); exact BK278.out) Tryz.underlying99 rfl (by kernel_rfl)) rfl ?_; exact ⟨by first | rfl | (simp [errW_none, errW_some] <;> rfl) | (simp [*, errW_none, errW_some] <;> rfl), by repeat (first | (with_reducible first | exact HB.out | apply below_alloc | apply pw_below_drewN | apply below_drew1 | refine below_set ?_ (Aside0.out (by assumption))) | exact HB.out)⟩
 ·rw [if_neg c6] at H
  have c6b0 : decide (0 < t279) = false := decide_eq_false c6; clear c6
  by_cases c13 : t284 > 0
  ·rw [if_pos c13] at H
   have c13b0 : decide (0 < t284) = true := decide_eq_true c13; clear c13; simp only [Option.some.injEq, Prod.mk.injEq] at H; obtain ⟨rfl, rfl, rfl, rfl⟩ := H
   go_enter Tryz.func49, Tryz.ntmps49
   go_wp2_with (first | ((with_reducible refine gate_dst (N := 2) rfl ?_); refine box_event ?hg (N := 2) ?hd (cs := #[.bool a0_0, .int .u64 a0_1, .int .u64 a0_2]) (t := 99) ?hr ?_; (case hd => rfl); (case hg => rfl); (case hr => first | (go_simp; done) | (go_simp; rfl)); intro gb277 hg w14 hbox hb; have BK277 := Aside0.mk (hbox); obtain ⟨GW277, nHB⟩ := geA hg hb; have GE277 := GW277; replace HB := nHB; clear nHB; clear hb hbox hg) | ((with_reducible refine gate_dst (N := 4) rfl ?_); refine box_event ?hg (N := 4) ?hd (cs := #[.bool false, .int .u64 0, .int .u64 0]) (t := 99) ?hr ?_; (case hd => rfl); (case hg => rfl); (case hr => first | (go_simp; done) | (go_simp; rfl)); intro gb278 hg w15 hbox hb; have BK278 := Aside0.mk (hbox); obtain ⟨GW278, nHB⟩ := geA hg hb; have GE278 := GW278; obtain ⟨NB277_278, NB278_277, nBK⟩ := nbA BK277 hg hb; replace BK277 := nBK; clear nBK; replace HB := nHB; clear nHB; clear hb hbox hg; have hnb16 := NB277_278.out; have hnc16 := NB278_277.out; have hcz17_0 := czZ BK277 0 (.bool a0_0); have hcz17_1 := czZ BK277 1 (.int .u64 a0_1); have hcz17_2 := czZ BK277 2 (.int .u64 a0_2); have hfz17_0 := blk_frozen BK277.out 0; have hfz17_1 := blk_frozen BK277.out 1; have hfz17_2 := blk_frozen BK277.out 2) | ((with_reducible refine gate_callee (f := 104) rfl ?_); refine goesLA_ (some 15) rfl rfl Tryz.func104 rfl #[.int .u64 a0_1, .int .u64 a1] rfl ?_; (with_reducible refine (bits_Mul64.calls a0_1 a1 t279 t280 _ A3.out).mono ?_); rintro e w' ⟨rfl, ⟨nd, rfl⟩⟩; refine ⟨_, rfl, ?_⟩; (try (rw [drewN_self w15]; generalize hq_ : World.drewN w15 _ = w15; have n0_ : Aside0 (w15.heap[gb277]? = some (.cells #[.bool a0_0, .int .u64 a0_1, .int .u64 a0_2] 99 (0, 0))) := ⟨by rw [← hq_]; exact (by (with_reducible repeat first | apply blk_drewN | apply blk_drew | apply blk_alloc); exact BK277.out)⟩; have n1_ : Aside0 (w15.heap[gb278]? = some (.cells #[.bool false, .int .u64 0, .int .u64 0] 99 (0, 0))) := ⟨by rw [← hq_]; exact (by (with_reducible repeat first | apply blk_drewN | apply blk_drew | apply blk_alloc); exact BK278.out)⟩; have n2_ : Aside0 (Below w.heap.size w w15) := ⟨by rw [← hq_]; exact (by repeat (first | (with_reducible first | exact HB.out | apply below_alloc | apply pw_below_drewN | apply below_drew1 | refine below_set ?_ (Aside0.out (by assumption))) | exact HB.out))⟩; clear BK277 BK278 HB hq_; have BK277 := n0_; have BK278 := n1_; have HB := n2_; clear n0_ n1_ n2_)); have hcz18_0 := czZ BK277 0 (.bool a0_0); have hcz18_1 := czZ BK277 1 (.int .u64 a0_1); have hcz18_2 := czZ BK277 2 (.int .u64 a0_2); have hfz18_0 := blk_frozen BK277.out 0; have hfz18_1 := blk_frozen BK277.out 1; have hfz18_2 := blk_frozen BK277.out 2) | ((with_reducible refine gate_callee (f := 104) rfl ?_); refine goesLA_ (some 22) rfl rfl Tryz.func104 rfl #[.int .u64 a0_2, .int .u64 a1] rfl ?_; (with_reducible refine (bits_Mul64.calls a0_2 a1 t281 t282 _ A4.out).mono ?_); rintro e w' ⟨rfl, ⟨nd, rfl⟩⟩; refine ⟨_, rfl, ?_⟩; (try (rw [drewN_self w15]; generalize hq_ : World.drewN w15 _ = w15; have n0_ : Aside0 (w15.heap[gb277]? = some (.cells #[.bool a0_0, .int .u64 a0_1, .int .u64 a0_2] 99 (0, 0))) := ⟨by rw [← hq_]; exact (by (with_reducible repeat first | apply blk_drewN | apply blk_drew | apply blk_alloc); exact BK277.out)⟩; have n1_ : Aside0 (w15.heap[gb278]? = some (.cells #[.bool false, .int .u64 0, .int .u64 0] 99 (0, 0))) := ⟨by rw [← hq_]; exact (by (with_reducible repeat first | apply blk_drewN | apply blk_drew | apply blk_alloc); exact BK278.out)⟩; have n2_ : Aside0 (Below w.heap.size w w15) := ⟨by rw [← hq_]; exact (by repeat (first | (with_reducible first | exact HB.out | apply below_alloc | apply pw_below_drewN | apply below_drew1 | refine below_set ?_ (Aside0.out (by assumption))) | exact HB.out))⟩; clear BK277 BK278 HB hq_; have BK277 := n0_; have BK278 := n1_; have HB := n2_; clear n0_ n1_ n2_))) | (simp only [bits_Add64.runs t280 t281 0 t283 t284 A5.out]; have hcz19_0 := czZ BK278 0 (.bool false); have hcz19_1 := czZ BK278 1 (.int .u64 0); have hcz19_2 := czZ BK278 2 (.int .u64 0); have hfz19_0 := blk_frozen BK278.out 0; have hfz19_1 := blk_frozen BK278.out 1; have hfz19_2 := blk_frozen BK278.out 2))
   refine bodyPost_ret (results_ct rfl _ _ gb278 99 #[.bool false, .int .u64 0, .int .u64 0] (0, 0) _ rfl (by (with_reducible repeat first | apply blk_drewN | apply blk_drew | apply blk_alloc); refine blk_put (cs := #[.bool false, .int .u64 0, .int .u64 0]) ?_ 2 _ rfl; (with_reducible repeat first | apply blk_drewN | apply blk_drew | apply blk_alloc); refine blk_put (cs := #[.bool false, .int .u64 0, .int .u64 0]) ?_ 1 _ rfl; (with_reducible repeat first | apply blk_drewN | apply blk_drew | apply blk_alloc); refine blk_put (cs := #[.bool false, .int .u64 0, .int .u64 0]) ?_ 0 _ rfl; (with_reducible repeat first | apply blk_drewN | apply blk_drew | apply blk_alloc); exact BK278.out) Tryz.underlying99 rfl (by kernel_rfl)) rfl ?_; exact ⟨by first | rfl | (simp [errW_none, errW_some] <;> rfl) | (simp [*, errW_none, errW_some] <;> rfl), by repeat (first | (with_reducible first | exact HB.out | apply below_alloc | apply pw_below_drewN | apply below_drew1 | refine below_set ?_ (Aside0.out (by assumption))) | exact HB.out)⟩
  ·rw [if_neg c13] at H
   have c13b0 : decide (0 < t284) = false := decide_eq_false c13; clear c13; replace H := Option.bind_eq_some_iff.mp H; obtain ⟨⟨t285, t286, t287⟩, A200, H⟩ := H; replace H : (some (t285, t286, t287, 0)) = some (r1, r2, r3, r4) := H; have A20 := Aside0.mk A200; clear A200; simp only [Option.some.injEq, Prod.mk.injEq] at H; obtain ⟨rfl, rfl, rfl, rfl⟩ := H
   go_enter Tryz.func49, Tryz.ntmps49
   go_wp2_with (first | ((with_reducible refine gate_dst (N := 2) rfl ?_); refine box_event ?hg (N := 2) ?hd (cs := #[.bool a0_0, .int .u64 a0_1, .int .u64 a0_2]) (t := 99) ?hr ?_; (case hd => rfl); (case hg => rfl); (case hr => first | (go_simp; done) | (go_simp; rfl)); intro gb277 hg w21 hbox hb; have BK277 := Aside0.mk (hbox); obtain ⟨GW277, nHB⟩ := geA hg hb; have GE277 := GW277; replace HB := nHB; clear nHB; clear hb hbox hg) | ((with_reducible refine gate_dst (N := 4) rfl ?_); refine box_event ?hg (N := 4) ?hd (cs := #[.bool false, .int .u64 0, .int .u64 0]) (t := 99) ?hr ?_; (case hd => rfl); (case hg => rfl); (case hr => first | (go_simp; done) | (go_simp; rfl)); intro gb278 hg w22 hbox hb; have BK278 := Aside0.mk (hbox); obtain ⟨GW278, nHB⟩ := geA hg hb; have GE278 := GW278; obtain ⟨NB277_278, NB278_277, nBK⟩ := nbA BK277 hg hb; replace BK277 := nBK; clear nBK; replace HB := nHB; clear nHB; clear hb hbox hg; have hnb23 := NB277_278.out; have hnc23 := NB278_277.out; have hcz24_0 := czZ BK277 0 (.bool a0_0); have hcz24_1 := czZ BK277 1 (.int .u64 a0_1); have hcz24_2 := czZ BK277 2 (.int .u64 a0_2); have hfz24_0 := blk_frozen BK277.out 0; have hfz24_1 := blk_frozen BK277.out 1; have hfz24_2 := blk_frozen BK277.out 2) | ((with_reducible refine gate_callee (f := 104) rfl ?_); refine goesLA_ (some 15) rfl rfl Tryz.func104 rfl #[.int .u64 a0_1, .int .u64 a1] rfl ?_; (with_reducible refine (bits_Mul64.calls a0_1 a1 t279 t280 _ A3.out).mono ?_); rintro e w' ⟨rfl, ⟨nd, rfl⟩⟩; refine ⟨_, rfl, ?_⟩; (try (rw [drewN_self w22]; generalize hq_ : World.drewN w22 _ = w22; have n0_ : Aside0 (w22.heap[gb277]? = some (.cells #[.bool a0_0, .int .u64 a0_1, .int .u64 a0_2] 99 (0, 0))) := ⟨by rw [← hq_]; exact (by (with_reducible repeat first | apply blk_drewN | apply blk_drew | apply blk_alloc); exact BK277.out)⟩; have n1_ : Aside0 (w22.heap[gb278]? = some (.cells #[.bool false, .int .u64 0, .int .u64 0] 99 (0, 0))) := ⟨by rw [← hq_]; exact (by (with_reducible repeat first | apply blk_drewN | apply blk_drew | apply blk_alloc); exact BK278.out)⟩; have n2_ : Aside0 (Below w.heap.size w w22) := ⟨by rw [← hq_]; exact (by repeat (first | (with_reducible first | exact HB.out | apply below_alloc | apply pw_below_drewN | apply below_drew1 | refine below_set ?_ (Aside0.out (by assumption))) | exact HB.out))⟩; clear BK277 BK278 HB hq_; have BK277 := n0_; have BK278 := n1_; have HB := n2_; clear n0_ n1_ n2_)); have hcz25_0 := czZ BK277 0 (.bool a0_0); have hcz25_1 := czZ BK277 1 (.int .u64 a0_1); have hcz25_2 := czZ BK277 2 (.int .u64 a0_2); have hfz25_0 := blk_frozen BK277.out 0; have hfz25_1 := blk_frozen BK277.out 1; have hfz25_2 := blk_frozen BK277.out 2) | ((with_reducible refine gate_callee (f := 104) rfl ?_); refine goesLA_ (some 22) rfl rfl Tryz.func104 rfl #[.int .u64 a0_2, .int .u64 a1] rfl ?_; (with_reducible refine (bits_Mul64.calls a0_2 a1 t281 t282 _ A4.out).mono ?_); rintro e w' ⟨rfl, ⟨nd, rfl⟩⟩; refine ⟨_, rfl, ?_⟩; (try (rw [drewN_self w22]; generalize hq_ : World.drewN w22 _ = w22; have n0_ : Aside0 (w22.heap[gb277]? = some (.cells #[.bool a0_0, .int .u64 a0_1, .int .u64 a0_2] 99 (0, 0))) := ⟨by rw [← hq_]; exact (by (with_reducible repeat first | apply blk_drewN | apply blk_drew | apply blk_alloc); exact BK277.out)⟩; have n1_ : Aside0 (w22.heap[gb278]? = some (.cells #[.bool false, .int .u64 0, .int .u64 0] 99 (0, 0))) := ⟨by rw [← hq_]; exact (by (with_reducible repeat first | apply blk_drewN | apply blk_drew | apply blk_alloc); exact BK278.out)⟩; have n2_ : Aside0 (Below w.heap.size w w22) := ⟨by rw [← hq_]; exact (by repeat (first | (with_reducible first | exact HB.out | apply below_alloc | apply pw_below_drewN | apply below_drew1 | refine below_set ?_ (Aside0.out (by assumption))) | exact HB.out))⟩; clear BK277 BK278 HB hq_; have BK277 := n0_; have BK278 := n1_; have HB := n2_; clear n0_ n1_ n2_))) | (simp only [bits_Add64.runs t280 t281 0 t283 t284 A5.out]; have hcz26_0 := czZ BK277 0 (.bool a0_0); have hcz26_1 := czZ BK277 1 (.int .u64 a0_1); have hcz26_2 := czZ BK277 2 (.int .u64 a0_2); have hfz26_0 := blk_frozen BK277.out 0; have hfz26_1 := blk_frozen BK277.out 1; have hfz26_2 := blk_frozen BK277.out 2) | ((with_reducible refine gate_callee (f := 103) rfl ?_); refine goesLA_ (some 43) rfl rfl Tryz.func103 rfl #[.agg #[.int .u64 t283, .int .u64 t282], .bool a0_0] rfl ?_; (with_reducible refine (big_size_with.calls t283 t282 a0_0 t285 t286 t287 _ A20.out).mono ?_); rintro e w27 ⟨rfl, hb⟩; refine ⟨_, rfl, ?_⟩; replace BK277 := bdZ BK277 hb; replace BK278 := bdZ BK278 hb; replace HB := stA hb; clear hb; have hcz28_0 := czZ BK278 0 (.bool false); have hcz28_1 := czZ BK278 1 (.int .u64 0); have hcz28_2 := czZ BK278 2 (.int .u64 0); have hfz28_0 := blk_frozen BK278.out 0; have hfz28_1 := blk_frozen BK278.out 1; have hfz28_2 := blk_frozen BK278.out 2))
   refine bodyPost_ret (results_ct rfl _ _ gb278 99 #[.bool t285, .int .u64 t286, .int .u64 t287] (0, 0) _ rfl (by (with_reducible repeat first | apply blk_drewN | apply blk_drew | apply blk_alloc); refine blk_put (cs := #[.bool t285, .int .u64 t286, .int .u64 0]) ?_ 2 _ rfl; (with_reducible repeat first | apply blk_drewN | apply blk_drew | apply blk_alloc); refine blk_put (cs := #[.bool t285, .int .u64 0, .int .u64 0]) ?_ 1 _ rfl; (with_reducible repeat first | apply blk_drewN | apply blk_drew | apply blk_alloc); refine blk_put (cs := #[.bool false, .int .u64 0, .int .u64 0]) ?_ 0 _ rfl; (with_reducible repeat first | apply blk_drewN | apply blk_drew | apply blk_alloc); exact BK278.out) Tryz.underlying99 rfl (by kernel_rfl)) rfl ?_; exact ⟨by first | rfl | (simp [errW_none, errW_some] <;> rfl) | (simp [*, errW_none, errW_some] <;> rfl), by repeat (first | (with_reducible first | exact HB.out | apply below_alloc | apply pw_below_drewN | apply below_drew1 | refine below_set ?_ (Aside0.out (by assumption))) | exact HB.out)⟩

/-! ### big_ScaleS: so many times a number: pure, behind function 49 -/
noncomputable def big_ScaleS.f (n : Bool) (h l k : Int) : Option (Bool × Int × Int × Int) := Sp.need (Sp.U h ∧ Sp.U l ∧ Sp.U k) (Sp.held (Sp.val n h l * k))
theorem big_ScaleS.eq {n : Bool} {h l k : Int} (h1 : Sp.U h) (h2 : Sp.U l) (h3 : Sp.U k) : big_ScaleS.f n h l k = Sp.held (Sp.val n h l * k) := Sp.need_pos ⟨h1, h2, h3⟩
theorem big_ScaleS.enc {v k : Int} (h : Sp.B v) (h3 : Sp.U k) : big_ScaleS.f (Sp.encN v) (Sp.encH v) (Sp.encL v) k = Sp.held (v * k) := by
 rw [big_ScaleS.eq (Sp.encH_U h) Sp.encL_U h3, Sp.val_enc]
theorem big_ScaleS.calls (a0_0 : Bool) (a0_1 a0_2 a1 : Int) (r1 : Bool) (r2 r3 r4 : Int) (w : World) (h : big_ScaleS.f a0_0 a0_1 a0_2 a1 = some (r1, r2, r3, r4)) :
  Calls Tryz.prog 49 #[.agg #[.bool a0_0, .int .u64 a0_1, .int .u64 a0_2], .int .u64 a1] w fun e w' => e = .returned (.tuple #[.agg #[.bool r1, .int .u64 r2, .int .u64 r3], .int .i64 r4]) ∧ Below w.heap.size w w' := by
 obtain ⟨hc, h⟩ := Sp.need_some h; obtain ⟨h1, h2, h3⟩ := hc; refine big_Scale.calls a0_0 a0_1 a0_2 a1 r1 r2 r3 r4 w ?_
 rw [← h]
 unfold big_Scale.f bits_Mul64.f bits_Add64.f
 rw [Sp.need_pos ⟨h1.1, h1.2, h3.1, h3.2⟩, Sp.need_pos ⟨h2.1, h2.2, h3.1, h3.2⟩]
 simp only [Option.bind_some]; have p1 : 0 ≤ a0_1 * a1 := Int.mul_nonneg h1.1 h3.1; have p2 : 0 ≤ a0_2 * a1 := Int.mul_nonneg h2.1 h3.1; have p3 := Sp.mulU h1 h3; have p4 := Sp.mulU h2 h3
 rw [Sp.need_pos (by omega)]
 simp only [Option.bind_some]
 have e : Sp.val a0_0 a0_1 a0_2 * a1 = if a0_0 = true then -(a0_1 * a1 * 18446744073709551616 + a0_2 * a1) else a0_1 * a1 * 18446744073709551616 + a0_2 * a1 := by
  unfold Sp.val
  cases a0_0
  ·simp only [Bool.false_eq_true, if_false]; rw [Int.add_mul, Int.mul_right_comm]
  ·simp only [if_true]; rw [Int.neg_mul, Int.add_mul, Int.mul_right_comm]
 have hv : ∀ q r : Int, Sp.val a0_0 q r = if a0_0 = true then -(q * 18446744073709551616 + r) else q * 18446744073709551616 + r := fun _ _ => rfl
 unfold Sp.held
 generalize a0_1 * a1 = X at *
 generalize a0_2 * a1 = Y at *
 by_cases c1 : X / 18446744073709551616 > 0
 ·rw [if_pos c1, if_neg (by rw [e]; split <;> omega)]
 rw [if_neg c1]
 by_cases c2 : (X % 18446744073709551616 + Y / 18446744073709551616 + 0) / 18446744073709551616 > 0
 ·rw [if_pos c2, if_neg (by rw [e]; split <;> omega)]
 rw [if_neg c2, big_with.eq (by omega) (by omega), if_pos (by rw [e]; split <;> omega)]
 simp only [Option.bind_some]
 have e2 : Sp.val a0_0 ((X % 18446744073709551616 + Y / 18446744073709551616 + 0) % 18446744073709551616) (Y % 18446744073709551616) = Sp.val a0_0 a0_1 a0_2 * a1 := by
  rw [e, hv]; split <;> omega
 rw [e2]

/-! ### root_long: function 108 -/
noncomputable def root_long.f (a0_0 : Bool) (a0_1 : Int) (a0_2 : Int) : Option (Int) := if a0_1 > 0 then ((bits_Len64.f a0_1).bind fun t289 => (some (wrap64 (64 + t289)))) else ((bits_Len64.f a0_2).bind fun t290 => (some t290))
set_option maxHeartbeats 8000000 in
set_option maxRecDepth 100000 in
theorem root_long.calls (a0_0 : Bool) (a0_1 : Int) (a0_2 : Int) (r : Int) (w : World) (h : root_long.f a0_0 a0_1 a0_2 = some r) :
  Calls Tryz.prog 108 #[.agg #[.bool a0_0, .int .u64 a0_1, .int .u64 a0_2]] w fun e w' => e = .returned (.int .i64 r) ∧ Below w.heap.size w w' := by
 have hu99 := Tryz.underlying99; have HB := Aside0.mk (Below.refl w.heap.size w); have H : (if a0_1 > 0 then ((bits_Len64.f a0_1).bind fun t289 => (some (wrap64 (64 + t289)))) else ((bits_Len64.f a0_2).bind fun t290 => (some t290))) = some r := h; clear h
 by_cases c2 : a0_1 > 0
 ·rw [if_pos c2] at H
  have c2b0 : decide (0 < a0_1) = true := decide_eq_true c2; clear c2; replace H := Option.bind_eq_some_iff.mp H; obtain ⟨t289, A30, H⟩ := H; replace H : (some (wrap64 (64 + t289))) = some r := H; have A3 := Aside0.mk A30; clear A30; obtain rfl := Option.some.inj H
  go_enter Tryz.func108, Tryz.ntmps108
  go_wp2_with (first | ((with_reducible refine gate_dst (N := 1) rfl ?_); refine box_event ?hg (N := 1) ?hd (cs := #[.bool a0_0, .int .u64 a0_1, .int .u64 a0_2]) (t := 99) ?hr ?_; (case hd => rfl); (case hg => rfl); (case hr => first | (go_simp; done) | (go_simp; rfl)); intro gb288 hg w4 hbox hb; have BK288 := Aside0.mk (hbox); obtain ⟨GW288, nHB⟩ := geA hg hb; have GE288 := GW288; replace HB := nHB; clear nHB; clear hb hbox hg; have hcz5_0 := czZ BK288 0 (.bool a0_0); have hcz5_1 := czZ BK288 1 (.int .u64 a0_1); have hcz5_2 := czZ BK288 2 (.int .u64 a0_2); have hfz5_0 := blk_frozen BK288.out 0; have hfz5_1 := blk_frozen BK288.out 1; have hfz5_2 := blk_frozen BK288.out 2) | ((with_reducible refine gate_callee (f := 151) rfl ?_); refine goesLA_ (some 8) rfl rfl Tryz.func151 rfl #[.int .u64 a0_1] rfl ?_; (with_reducible refine (bits_Len64.calls a0_1 t289 _ A3.out).mono ?_); rintro e w' ⟨rfl, ⟨nd, rfl⟩⟩; refine ⟨_, rfl, ?_⟩))
  go_ret
  exact ⟨by first | rfl | (simp [errW_none, errW_some] <;> rfl) | (simp [*, errW_none, errW_some] <;> rfl), by repeat (first | (with_reducible first | exact HB.out | apply below_alloc | apply pw_below_drewN | apply below_drew1 | refine below_set ?_ GE288.out) | exact HB.out)⟩
 ·rw [if_neg c2] at H
  have c2b0 : decide (0 < a0_1) = false := decide_eq_false c2; clear c2; replace H := Option.bind_eq_some_iff.mp H; obtain ⟨t290, A60, H⟩ := H; replace H : (some t290) = some r := H; have A6 := Aside0.mk A60; clear A60; obtain rfl := Option.some.inj H
  go_enter Tryz.func108, Tryz.ntmps108
  go_wp2_with (first | ((with_reducible refine gate_dst (N := 1) rfl ?_); refine box_event ?hg (N := 1) ?hd (cs := #[.bool a0_0, .int .u64 a0_1, .int .u64 a0_2]) (t := 99) ?hr ?_; (case hd => rfl); (case hg => rfl); (case hr => first | (go_simp; done) | (go_simp; rfl)); intro gb288 hg w7 hbox hb; have BK288 := Aside0.mk (hbox); obtain ⟨GW288, nHB⟩ := geA hg hb; have GE288 := GW288; replace HB := nHB; clear nHB; clear hb hbox hg; have hcz8_0 := czZ BK288 0 (.bool a0_0); have hcz8_1 := czZ BK288 1 (.int .u64 a0_1); have hcz8_2 := czZ BK288 2 (.int .u64 a0_2); have hfz8_0 := blk_frozen BK288.out 0; have hfz8_1 := blk_frozen BK288.out 1; have hfz8_2 := blk_frozen BK288.out 2) | ((with_reducible refine gate_callee (f := 151) rfl ?_); refine goesLA_ (some 12) rfl rfl Tryz.func151 rfl #[.int .u64 a0_2] rfl ?_; (with_reducible refine (bits_Len64.calls a0_2 t290 _ A6.out).mono ?_); rintro e w' ⟨rfl, ⟨nd, rfl⟩⟩; refine ⟨_, rfl, ?_⟩))
  go_ret
  exact ⟨by first | rfl | (simp [errW_none, errW_some] <;> rfl) | (simp [*, errW_none, errW_some] <;> rfl), by repeat (first | (with_reducible first | exact HB.out | apply below_alloc | apply pw_below_drewN | apply below_drew1 | refine below_set ?_ GE288.out) | exact HB.out)⟩

/-! ### root_longS: pure, behind function 108 -/
section
open Go.Proofs.YtfahbgkoldoflaaGreatDoor.Sp
noncomputable def root_longS.f (n : Bool) (h : Int) (l : Int) : Option (Int) := need (U h ∧ U l) (some (longW h l))
theorem root_longS.eq {n : Bool} {h : Int} {l : Int} (h1 : U h) (h2 : U l) : root_longS.f n h l = some (longW h l) := need_pos ⟨h1, h2⟩
theorem root_long.main {n : Bool} {h : Int} {l : Int} (h1 : U h) (h2 : U l) : root_long.f n h l = some (longW h l) := by
 unfold root_long.f longW bits_Len64.f
 by_cases c : h > 0
 ·rw [if_pos c, if_pos (show 0 < h from c), need_pos (by omega)]
  simp only [Option.bind_some]; obtain ⟨a1, a2, a3, a4⟩ := bitLen_facts (Y := h.toNat) (by omega) (by omega)
  rw [w64 (by omega)]
 ·rw [if_neg c, if_neg (show ¬ 0 < h from c), need_pos (by omega)]
  rfl
end
theorem root_longS.calls (a0_0 : Bool) (a0_1 : Int) (a0_2 : Int) (r : Int) (w : World) (h : root_longS.f a0_0 a0_1 a0_2 = some r) :
  Calls Tryz.prog 108 #[.agg #[.bool a0_0, .int .u64 a0_1, .int .u64 a0_2]] w fun e w' => e = .returned (.int .i64 r) ∧ Below w.heap.size w w' := by
 obtain ⟨hc, h⟩ := Sp.need_some h; obtain ⟨h1, h2⟩ := hc; exact root_long.calls a0_0 a0_1 a0_2 r w (by rw [root_long.main h1 h2]; exact h)

-- NOT PRINTED: function 109 (root_greatest)

/-! ### root_Square: function 152 -/
noncomputable def root_Square.f (a0 : Int) : Option (Bool × Int × Int) := (big_ScaleS.f false 0 a0 a0).bind fun bt292 => (some (bt292.1, bt292.2.1, bt292.2.2.1))
set_option maxHeartbeats 8000000 in
set_option maxRecDepth 100000 in
theorem root_Square.calls (a0 : Int) (r1 : Bool) (r2 : Int) (r3 : Int) (w : World) (h : root_Square.f a0 = some (r1, r2, r3)) :
  Calls Tryz.prog 152 #[.int .u64 a0] w fun e w' => e = .returned (.agg #[.bool r1, .int .u64 r2, .int .u64 r3]) ∧ Below w.heap.size w w' := by
 have hu99 := Tryz.underlying99; have HB := Aside0.mk (Below.refl w.heap.size w); have H : ((big_ScaleS.f false 0 a0 a0).bind fun bt292 => (some (bt292.1, bt292.2.1, bt292.2.2.1))) = some (r1, r2, r3) := h; clear h; replace H := Option.bind_eq_some_iff.mp H; obtain ⟨⟨t292, t293, t294, t295⟩, A20, H⟩ := H; replace H : (some (t292, t293, t294)) = some (r1, r2, r3) := H; have A2 := Aside0.mk A20; clear A20; simp only [Option.some.injEq, Prod.mk.injEq] at H; obtain ⟨rfl, rfl, rfl⟩ := H
 go_enter Tryz.func152, Tryz.ntmps152
 go_wp2_with (first | ((with_reducible refine gate_dst (N := 2) rfl ?_); refine box_event ?hg (N := 2) ?hd (cs := #[.bool false, .int .u64 0, .int .u64 0]) (t := 99) ?hr ?_; (case hd => rfl); (case hg => rfl); (case hr => first | (go_simp; done) | (go_simp; rfl)); intro gb291 hg w3 hbox hb; have BK291 := Aside0.mk (hbox); obtain ⟨GW291, nHB⟩ := geA hg hb; have GE291 := GW291; replace HB := nHB; clear nHB; clear hb hbox hg) | ((with_reducible refine gate_callee (f := 49) rfl ?_); refine goesLA_ (some 9) rfl rfl Tryz.func49 rfl #[.agg #[.bool false, .int .u64 0, .int .u64 a0], .int .u64 a0] rfl ?_; (with_reducible refine (big_ScaleS.calls false 0 a0 a0 t292 t293 t294 t295 _ A2.out).mono ?_); rintro e w4 ⟨rfl, hb⟩; refine ⟨_, rfl, ?_⟩; replace BK291 := bdZ BK291 hb; replace HB := stA hb; clear hb) | ((with_reducible refine gate_dst (N := 3) rfl ?_); refine box_event ?hg (N := 3) ?hd (cs := #[.bool false, .int .u64 0, .int .u64 0]) (t := 99) ?hr ?_; (case hd => rfl); (case hg => rfl); (case hr => first | (go_simp; done) | (go_simp; rfl)); intro gb296 hg w5 hbox hb; have BK296 := Aside0.mk (hbox); obtain ⟨GW296, nHB⟩ := geA hg hb; have GE296 := GW296; obtain ⟨NB291_296, NB296_291, nBK⟩ := nbA BK291 hg hb; replace BK291 := nBK; clear nBK; replace HB := nHB; clear nHB; clear hb hbox hg; have hnb6 := NB296_291.out; have hnc6 := NB291_296.out; have hcz7_0 := czZ BK296 0 (.bool false); have hcz7_1 := czZ BK296 1 (.int .u64 0); have hcz7_2 := czZ BK296 2 (.int .u64 0); have hfz7_0 := blk_frozen BK296.out 0; have hfz7_1 := blk_frozen BK296.out 1; have hfz7_2 := blk_frozen BK296.out 2; have hcz8_0 := czZ BK291 0 (.bool false); have hcz8_1 := czZ BK291 1 (.int .u64 0); have hcz8_2 := czZ BK291 2 (.int .u64 0); have hfz8_0 := blk_frozen BK291.out 0; have hfz8_1 := blk_frozen BK291.out 1; have hfz8_2 := blk_frozen BK291.out 2))
 refine bodyPost_ret (results_cell_row rfl _ _ gb291 99 #[.bool t292, .int .u64 t293, .int .u64 t294] (0, 0) _ rfl (by (with_reducible repeat first | apply blk_drewN | apply blk_drew | apply blk_alloc); refine blk_put (cs := #[.bool t292, .int .u64 t293, .int .u64 0]) ?_ 2 _ rfl; (with_reducible repeat first | apply blk_drewN | apply blk_drew | apply blk_alloc); refine blk_put (cs := #[.bool t292, .int .u64 0, .int .u64 0]) ?_ 1 _ rfl; (with_reducible repeat first | apply blk_drewN | apply blk_drew | apply blk_alloc); refine blk_put (cs := #[.bool false, .int .u64 0, .int .u64 0]) ?_ 0 _ rfl; (with_reducible repeat first | apply blk_drewN | apply blk_drew | apply blk_alloc); refine blk_far ?_ NB291_296.out _; (with_reducible repeat first | apply blk_drewN | apply blk_drew | apply blk_alloc); refine blk_far ?_ NB291_296.out _; (with_reducible repeat first | apply blk_drewN | apply blk_drew | apply blk_alloc); refine blk_far ?_ NB291_296.out _; (with_reducible repeat first | apply blk_drewN | apply blk_drew | apply blk_alloc); exact BK291.out) Tryz.underlying99 rfl (by kernel_rfl)) rfl ?_; exact ⟨by first | rfl | (simp [errW_none, errW_some] <;> rfl) | (simp [*, errW_none, errW_some] <;> rfl), by repeat (first | (with_reducible first | exact HB.out | apply below_alloc | apply pw_below_drewN | apply below_drew1 | refine below_set ?_ (Aside0.out (by assumption))) | exact HB.out)⟩

/-! ### root_Cube: function 111 -/
noncomputable def root_Cube.f (a0 : Int) : Option (Bool × Int × Int × Int) := (root_Square.f a0).bind fun bt298 => ((big_ScaleS.f bt298.1 bt298.2.1 bt298.2.2 a0).bind fun bt301 => (some (bt301.1, bt301.2.1, bt301.2.2.1, bt301.2.2.2)))
set_option maxHeartbeats 8000000 in
set_option maxRecDepth 100000 in
theorem root_Cube.calls (a0 : Int) (r1 : Bool) (r2 : Int) (r3 : Int) (r4 : Int) (w : World) (h : root_Cube.f a0 = some (r1, r2, r3, r4)) :
  Calls Tryz.prog 111 #[.int .u64 a0] w fun e w' => e = .returned (.tuple #[.agg #[.bool r1, .int .u64 r2, .int .u64 r3], .int .i64 r4]) ∧ Below w.heap.size w w' := by
 have hu99 := Tryz.underlying99; have HB := Aside0.mk (Below.refl w.heap.size w); have H : ((root_Square.f a0).bind fun bt298 => ((big_ScaleS.f bt298.1 bt298.2.1 bt298.2.2 a0).bind fun bt301 => (some (bt301.1, bt301.2.1, bt301.2.2.1, bt301.2.2.2)))) = some (r1, r2, r3, r4) := h; clear h; replace H := Option.bind_eq_some_iff.mp H; obtain ⟨⟨t298, t299, t300⟩, A20, H⟩ := H; replace H : ((big_ScaleS.f t298 t299 t300 a0).bind fun bt301 => (some (bt301.1, bt301.2.1, bt301.2.2.1, bt301.2.2.2))) = some (r1, r2, r3, r4) := H; have A2 := Aside0.mk A20; clear A20; replace H := Option.bind_eq_some_iff.mp H; obtain ⟨⟨t301, t302, t303, t304⟩, A30, H⟩ := H; replace H : (some (t301, t302, t303, t304)) = some (r1, r2, r3, r4) := H; have A3 := Aside0.mk A30; clear A30; simp only [Option.some.injEq, Prod.mk.injEq] at H; obtain ⟨rfl, rfl, rfl, rfl⟩ := H
 go_enter Tryz.func111, Tryz.ntmps111
 go_wp2_with (first | ((with_reducible refine gate_dst (N := 2) rfl ?_); refine box_event ?hg (N := 2) ?hd (cs := #[.bool false, .int .u64 0, .int .u64 0]) (t := 99) ?hr ?_; (case hd => rfl); (case hg => rfl); (case hr => first | (go_simp; done) | (go_simp; rfl)); intro gb297 hg w4 hbox hb; have BK297 := Aside0.mk (hbox); obtain ⟨GW297, nHB⟩ := geA hg hb; have GE297 := GW297; replace HB := nHB; clear nHB; clear hb hbox hg) | ((with_reducible refine gate_callee (f := 152) rfl ?_); refine goesLA_ (some 5) rfl rfl Tryz.func152 rfl #[.int .u64 a0] rfl ?_; (with_reducible refine (root_Square.calls a0 t298 t299 t300 _ A2.out).mono ?_); rintro e w5 ⟨rfl, hb⟩; refine ⟨_, rfl, ?_⟩; replace BK297 := bdZ BK297 hb; replace HB := stA hb; clear hb) | ((with_reducible refine gate_callee (f := 49) rfl ?_); refine goesLA_ (some 7) rfl rfl Tryz.func49 rfl #[.agg #[.bool t298, .int .u64 t299, .int .u64 t300], .int .u64 a0] rfl ?_; (with_reducible refine (big_ScaleS.calls t298 t299 t300 a0 t301 t302 t303 t304 _ A3.out).mono ?_); rintro e w6 ⟨rfl, hb⟩; refine ⟨_, rfl, ?_⟩; replace BK297 := bdZ BK297 hb; replace HB := stA hb; clear hb; have hcz7_0 := czZ BK297 0 (.bool false); have hcz7_1 := czZ BK297 1 (.int .u64 0); have hcz7_2 := czZ BK297 2 (.int .u64 0); have hfz7_0 := blk_frozen BK297.out 0; have hfz7_1 := blk_frozen BK297.out 1; have hfz7_2 := blk_frozen BK297.out 2))
 refine bodyPost_ret (results_ct rfl _ _ gb297 99 #[.bool t301, .int .u64 t302, .int .u64 t303] (0, 0) _ rfl (by (with_reducible repeat first | apply blk_drewN | apply blk_drew | apply blk_alloc); refine blk_put (cs := #[.bool t301, .int .u64 t302, .int .u64 0]) ?_ 2 _ rfl; (with_reducible repeat first | apply blk_drewN | apply blk_drew | apply blk_alloc); refine blk_put (cs := #[.bool t301, .int .u64 0, .int .u64 0]) ?_ 1 _ rfl; (with_reducible repeat first | apply blk_drewN | apply blk_drew | apply blk_alloc); refine blk_put (cs := #[.bool false, .int .u64 0, .int .u64 0]) ?_ 0 _ rfl; (with_reducible repeat first | apply blk_drewN | apply blk_drew | apply blk_alloc); exact BK297.out) Tryz.underlying99 rfl (by kernel_rfl)) rfl ?_; exact ⟨by first | rfl | (simp [errW_none, errW_some] <;> rfl) | (simp [*, errW_none, errW_some] <;> rfl), by repeat (first | (with_reducible first | exact HB.out | apply below_alloc | apply pw_below_drewN | apply below_drew1 | refine below_set ?_ GE297.out) | exact HB.out)⟩

/-! ### root_CubeS: pure, behind function 111 -/
section
open Go.Proofs.YtfahbgkoldoflaaGreatDoor.Sp
noncomputable def root_CubeS.f (a : Int) : Option (Bool × Int × Int × Int) := need (U a) (held (a * a * a))
theorem root_CubeS.eq {a : Int} (h1 : U a) : root_CubeS.f a = held (a * a * a) := need_pos h1
theorem root_Cube.main {a : Int} (h1 : U a) : root_Cube.f a = held (a * a * a) := by
 unfold root_Cube.f root_Square.f
 have u := mulU h1 h1; have p := Int.mul_nonneg h1.1 h1.1
 rw [big_ScaleS.eq (by omega) h1 h1, val_f]
 have e : (0 * 18446744073709551616 + a) * a = a * a := by rw [Int.zero_mul, Int.zero_add]
 rw [e, held_in (by omega)]
 simp only [Option.bind_some]
 rw [big_ScaleS.enc (by omega) h1]
 unfold held
 split <;> rfl
end
theorem root_CubeS.calls (a0 : Int) (r1 : Bool) (r2 : Int) (r3 : Int) (r4 : Int) (w : World) (h : root_CubeS.f a0 = some (r1, r2, r3, r4)) :
  Calls Tryz.prog 111 #[.int .u64 a0] w fun e w' => e = .returned (.tuple #[.agg #[.bool r1, .int .u64 r2, .int .u64 r3], .int .i64 r4]) ∧ Below w.heap.size w w' := by
 obtain ⟨hc, h⟩ := Sp.need_some h; have h1 := hc; exact root_Cube.calls a0 r1 r2 r3 r4 w (by rw [root_Cube.main h1]; exact h)

-- NOT PRINTED: function 110 (root_Third_1)

/-! ### root_Third: function 51 -/
noncomputable def root_Third.f (n : Bool) (h l : Int) : Option Int := Sp.need (Sp.U h ∧ Sp.U l) (some (Sp.root3 (h * 18446744073709551616 + l)))
theorem root_Third.eq {n : Bool} {h l : Int} (h1 : Sp.U h) (h2 : Sp.U l) : root_Third.f n h l = some (Sp.root3 (h * 18446744073709551616 + l)) := Sp.need_pos ⟨h1, h2⟩
set_option maxHeartbeats 1000000 in
set_option maxRecDepth 100000 in
theorem root_Third.closure (g : Nat) (n h l : Int) (c1 : Bool) (c2 c3 e k : Int) (b d : Bool) (HC : Aside0 (root_CubeS.f n = some (c1, c2, c3, e))) (HK : Aside0 (b = true → big_CmpS.f c1 c2 c3 false h l = some k)) (he : (e == 0) = b) (hk : decide (k ≤ 0) = d) (w : World)
  (hb0 : w.heap[g]? = some (.cells #[.bool false, .int .u64 h, .int .u64 l] 99 (0, 0))) :
  Calls Tryz.prog 110 #[.int .u64 n, .pointer (some ⟨g, 0, none⟩)] w fun e w' => e = .returned (.bool (b && d)) ∧ Below w.heap.size w w' := by
 have HB := Aside0.mk (Below.refl w.heap.size w); have BK := Aside0.mk hb0; clear hb0
 cases b
 ·go_enter Tryz.func110, Tryz.ntmps110
  go_wp2_with (first
   | (go_at_call 111; refine (root_CubeS.calls n c1 c2 c3 e _ HC.out).mono ?_; rintro e1 w1 ⟨rfl, hb⟩; replace BK := bbZ BK hb; replace HB := stA hb; clear hb)
   | ((with_reducible refine gate_dst (N := 4) rfl ?_); refine box_event ?hg (N := 4) ?hd (cs := #[.bool false, .int .u64 0, .int .u64 0]) (t := 99) ?hr ?_; (case hd => rfl); (case hg => rfl); (case hr => first | (go_simp; done) | (go_simp; rfl)); intro gb hg w2 hbox hb; have BK1 := Aside0.mk hbox; obtain ⟨GW1, nHB⟩ := geA hg hb; have GE1 := GW1; obtain ⟨NB1, NB2, nBK⟩ := nbA BK hg hb; replace BK := nBK; clear nBK; replace HB := nHB; clear nHB; clear hb hbox hg; have z0 := czZ BK1 0 (.bool false); have z1 := czZ BK1 1 (.int .u64 0); have z2 := czZ BK1 2 (.int .u64 0); have f0 := blk_frozen BK1.out 0; have f1 := blk_frozen BK1.out 1; have f2 := blk_frozen BK1.out 2; have y0 := czZ BK 0 (.bool false); have y1 := czZ BK 1 (.int .u64 h); have y2 := czZ BK 2 (.int .u64 l); have n1 := NB1.out; have n2 := NB2.out))
  go_ret
  exact ⟨by first | rfl | (simp; done) | (simp [*]; done), (by repeat (first | (with_reducible first | apply below_alloc | exact HB.out | apply pw_below_drewN | apply below_drew1 | refine below_set ?_ GE1.out) | exact HB.out))⟩
 ·go_enter Tryz.func110, Tryz.ntmps110
  go_wp2_with (first
   | (go_at_call 111; refine (root_CubeS.calls n c1 c2 c3 e _ HC.out).mono ?_; rintro e1 w1 ⟨rfl, hb⟩; replace BK := bbZ BK hb; replace HB := stA hb; clear hb)
   | ((with_reducible refine gate_dst (N := 4) rfl ?_); refine box_event ?hg (N := 4) ?hd (cs := #[.bool false, .int .u64 0, .int .u64 0]) (t := 99) ?hr ?_; (case hd => rfl); (case hg => rfl); (case hr => first | (go_simp; done) | (go_simp; rfl)); intro gb hg w2 hbox hb; have BK1 := Aside0.mk hbox; obtain ⟨GW1, nHB⟩ := geA hg hb; have GE1 := GW1; obtain ⟨NB1, NB2, nBK⟩ := nbA BK hg hb; replace BK := nBK; clear nBK; replace HB := nHB; clear nHB; clear hb hbox hg; have z0 := czZ BK1 0 (.bool false); have z1 := czZ BK1 1 (.int .u64 0); have z2 := czZ BK1 2 (.int .u64 0); have f0 := blk_frozen BK1.out 0; have f1 := blk_frozen BK1.out 1; have f2 := blk_frozen BK1.out 2; have y0 := czZ BK 0 (.bool false); have y1 := czZ BK 1 (.int .u64 h); have y2 := czZ BK 2 (.int .u64 l); have n1 := NB1.out; have n2 := NB2.out)
   | (go_at_call 112; refine (big_CmpS.calls c1 c2 c3 false h l k _ (HK.out (by trivial))).mono ?_; rintro e1 w3 ⟨rfl, hb⟩; replace HB := Aside0.mk (below_step (by repeat (first | (with_reducible first | apply below_alloc | exact HB.out | apply pw_below_drewN | apply below_drew1 | refine below_set ?_ GE1.out) | exact HB.out)) hb); clear hb))
  go_ret
  exact ⟨by first | rfl | (simp; done) | (simp [*]; done), (by repeat (first | (with_reducible first | apply below_alloc | exact HB.out | apply pw_below_drewN | apply below_drew1 | refine below_set ?_ GE1.out) | exact HB.out))⟩
set_option maxHeartbeats 2000000 in
set_option maxRecDepth 100000 in
/-- The greatest number of so many bits for which something is right: told by a function value that answers 'n ≤ R', whatever the world behind what was. -/
theorem root_Third.greatest (R many : Int) (g : Nat) (o : Obj) (hm : Aside0 (0 ≤ many ∧ many ≤ 43)) (hR : Aside0 (0 ≤ R ∧ R < 2 ^ many.toNat)) (w : World) (hb0 : w.heap[g]? = some o)
  (hright : ∀ (n : Int) (b : Bool) (w' : World), Aside0 (0 ≤ n ∧ n < 18446744073709551616 ∧ decide (n ≤ R) = b) → w'.heap[g]? = some o → Calls Tryz.prog 110 #[.int .u64 n, .pointer (some ⟨g, 0, none⟩)] w' fun e w'' => e = .returned (.bool b) ∧ Below w'.heap.size w' w'') :
  Calls Tryz.prog 109 #[.int .i64 many, .func (.func 110) #[] #[.pointer (some ⟨g, 0, none⟩)]] w fun e w' => e = .returned (.int .u64 R) ∧ Below w.heap.size w w' := by
 have HB := Aside0.mk (Below.refl w.heap.size w); have BK := Aside0.mk hb0; have HF := Aside0.mk hright; clear hb0 hright; have hs : (0 : Int) ≤ many := hm.out.1
 go_enter Tryz.func109, Tryz.ntmps109
 go_wp2_with (fail)
 go_step3
 go_wp2_with (fail)
 go_quiet (fail)
 go_wp2_with (fail)
 go_step3
 go_wp2_with (fail)
 obtain ⟨H0, hH0⟩ : ∃ H0 : Int, H0 = IntKind.u64.wrap (IntKind.u64.wrap (2 ^ min many.toNat 64) - 1) := ⟨_, rfl⟩
 rw [← hH0]
 have h0 : Aside0 (H0 = 2 ^ many.toNat - 1 ∧ H0 < 8796093022208) := ⟨by
  have a := hm.out; have p : (2 : Int) ^ many.toNat ≤ 2 ^ 43 := Sp.pow2_le (by omega); have p0 : (0 : Int) < 2 ^ many.toNat := Int.pow_pos (by omega)
  have q : (2 : Int) ^ 43 = 8796093022208 := by decide
  rw [hH0, show min many.toNat 64 = many.toNat by omega, Sp.u64w, Sp.u64w]
  omega⟩
 clear hH0 hs
 go_loopg [5, 6, 12] many.toNat (fun kq v5 v6 v12 wr => ∃ lo hi i : Int, v5 = .int .u64 lo ∧ v6 = .int .u64 hi ∧ v12 = .int .i64 i ∧ Aside0 (0 ≤ lo ∧ lo ≤ R ∧ R ≤ hi ∧ hi < 8796093022208 ∧ hi - lo < 2 ^ kq ∧ i + (kq : Int) = many ∧ 0 ≤ i) ∧ Aside0 (Below w.heap.size w wr))
 case atStart =>
  have a := hm.out; have b := hR.out; have c := h0.out; exact ⟨0, H0, 0, rfl, rfl, rfl, ⟨by omega, by omega, by omega, by omega, by omega, by omega, by omega⟩, ⟨pw_below_drewN HB.out _⟩⟩
 case round =>
  clear HB; obtain ⟨lo, hi, i, rfl, rfl, rfl, HA, HB⟩ := hrel
  cases gk with
  | zero =>
   have c1 : decide (i < many) = false := decide_eq_false (by have := HA.out; omega)
   have e1 : lo = R := by have := HA.out; simp at this; omega
   go_wp2
   (try rw [Exit.noGoto_ret])
   go_ret
   exact ⟨congrArg (fun z => Ending.returned (.int .u64 z)) e1, HB.out⟩
  | succ k1 =>
   have c1 : decide (i < many) = true := decide_eq_true (by have := HA.out; omega)
   by_cases e : lo = hi
   ·have c2 : (lo == hi) = true := beq_iff_eq.mpr e
    have e1 : Aside0 (lo = R) := ⟨by have := HA.out; omega⟩
    clear e
    go_wp2
    (try rw [Exit.noGoto_ret])
    go_ret
    exact ⟨congrArg (fun z => Ending.returned (.int .u64 z)) e1.out, HB.out⟩
   ·have c2 : (lo == hi) = false := beq_eq_false_iff_ne.mpr e
    have e1 : Aside0 (lo ≠ hi) := ⟨e⟩
    clear e; have e2 := Int.pow_succ 2 k1
    have hd : Aside0 (hi - lo < 2 * 2 ^ k1) := ⟨by have := HA.out; omega⟩
    clear e2
    obtain ⟨n, hn⟩ : ∃ n, IntKind.u64.wrap (hi - IntKind.u64.wrap ((IntKind.u64.wrap (hi - lo)).tdiv 2)) = n := ⟨_, rfl⟩
    obtain ⟨n1, hn1⟩ : ∃ n1, IntKind.u64.wrap (n - 1) = n1 := ⟨_, rfl⟩
    obtain ⟨i1, hi1⟩ : ∃ i1, wrap64 (i + 1) = i1 := ⟨_, rfl⟩
    have hn' : Aside0 (0 ≤ n ∧ n < 18446744073709551616 ∧ n = hi - (hi - lo) / 2 ∧ n1 = n - 1 ∧ i1 = i + 1) := ⟨by
     have a := HA.out; have b := e1.out; have c := hm.out; have hi1' := hi1
     rw [Sp.w64 (x := i + 1) (by omega)] at hi1'
     have hn2 := hn
     rw [Sp.u64w_in (x := hi - lo) (by omega), Int.tdiv_eq_ediv_of_nonneg (by omega), Sp.u64w_in (x := (hi - lo) / 2) (by omega), Sp.u64w_in (x := hi - (hi - lo) / 2) (by omega)] at hn2
     have hn3 := hn1
     rw [Sp.u64w_in (x := n - 1) (by omega)] at hn3
     omega⟩
    by_cases cr : n ≤ R
    ·have cr' := Aside0.mk cr; clear cr
     go_wp2_with (first | (go_at_call 110; refine (HF.out n true _ ⟨hn'.out.1, hn'.out.2.1, decide_eq_true cr'.out⟩ (blk_below BK.out HB.out)).mono ?_; rintro e9 w9 ⟨rfl, hb9⟩; replace HB := Aside0.mk (below_step HB.out hb9); clear hb9) | fail)
     go_roundg k1
     case rel =>
      have a := HA.out; have b := hn'.out; have c := cr'.out; have d := hd.out; have f := e1.out; exact ⟨n, hi, i1, rfl, rfl, congrArg (Value.int .i64) hi1, ⟨by omega, by omega, by omega, by omega, by omega, by omega, by omega⟩, HB⟩
     case measure => omega
    ·have cr' := Aside0.mk cr; clear cr
     go_wp2_with (first | (go_at_call 110; refine (HF.out n false _ ⟨hn'.out.1, hn'.out.2.1, decide_eq_false cr'.out⟩ (blk_below BK.out HB.out)).mono ?_; rintro e9 w9 ⟨rfl, hb9⟩; replace HB := Aside0.mk (below_step HB.out hb9); clear hb9) | fail)
     go_roundg k1
     case rel =>
      have a := HA.out; have b := hn'.out; have c := cr'.out; have d := hd.out; have f := e1.out; exact ⟨lo, n1, i1, rfl, rfl, congrArg (Value.int .i64) hi1, ⟨by omega, by omega, by omega, by omega, by omega, by omega, by omega⟩, HB⟩
     case measure => omega
theorem root_Third.right {h l n : Int} {b : Bool} {g : Nat} {w : World} (h1 : Sp.U h) (h2 : Sp.U l) (hn : 0 ≤ n ∧ n < 18446744073709551616 ∧ decide (n ≤ Sp.root3 (h * 18446744073709551616 + l)) = b)
  (hb : w.heap[g]? = some (.cells #[.bool false, .int .u64 h, .int .u64 l] 99 (0, 0))) :
  Calls Tryz.prog 110 #[.int .u64 n, .pointer (some ⟨g, 0, none⟩)] w fun e w' => e = .returned (.bool b) ∧ Below w.heap.size w w' := by
 obtain ⟨n0, n1, rfl⟩ := hn; have k := Sp.cube_le_iff (X := h * 18446744073709551616 + l) (by omega) n0; have p0 := Int.mul_nonneg (Int.mul_nonneg n0 n0) n0
 by_cases c : Sp.B (n * n * n)
 ·have hc := (root_CubeS.eq (a := n) ⟨n0, n1⟩).trans (Sp.held_in c); have hk := big_CmpS.el (m := false) c h1 h2
  rw [Sp.val_f] at hk
  refine (root_Third.closure g n h l _ _ _ _ _ true (decide (n ≤ Sp.root3 (h * 18446744073709551616 + l))) ⟨hc⟩ ⟨fun _ => hk⟩ rfl ?_ w hb).mono (fun e w' hq => ⟨by rw [hq.1]; simp, hq.2⟩)
  rw [decide_eq_decide, ← k]
  unfold Sp.cmpI
  split
  ·omega
  ·split <;> omega
 ·have hc := (root_CubeS.eq (a := n) ⟨n0, n1⟩).trans (Sp.held_out c); have hf : decide (n ≤ Sp.root3 (h * 18446744073709551616 + l)) = false := decide_eq_false (by rw [← k]; omega)
  rw [hf]
  exact (root_Third.closure g n h l _ _ _ _ 0 false true ⟨hc⟩ ⟨fun x => by cases x⟩ rfl rfl w hb).mono (fun e w' hq => ⟨by rw [hq.1]; simp, hq.2⟩)
set_option maxHeartbeats 1000000 in
set_option maxRecDepth 100000 in
theorem root_Third.calls (a0_0 : Bool) (a0_1 a0_2 r : Int) (w : World) (h : root_Third.f a0_0 a0_1 a0_2 = some r) :
  Calls Tryz.prog 51 #[.agg #[.bool a0_0, .int .u64 a0_1, .int .u64 a0_2]] w fun e w' => e = .returned (.int .u64 r) ∧ Below w.heap.size w w' := by
 obtain ⟨⟨h1, h2⟩, h⟩ := Sp.need_some h; obtain rfl := Option.some.inj h; clear h
 have hmf : ∀ (fn : Fn) (first cap : Array Value) (w : World), (Instr.makeFunc fn first cap).run Tryz.prog w = .ok (.func fn first cap) w := fun _ _ _ _ => rfl
 have HU := Aside0.mk (And.intro h1 h2); have HL := Aside0.mk (root_longS.eq (n := false) h1 h2); have HR := Aside0.mk (Sp.root3_bits h1 h2); have H0 := Aside0.mk (Sp.root3_spec (X := a0_1 * 18446744073709551616 + a0_2) (by omega)); have HB := Aside0.mk (Below.refl w.heap.size w)
 obtain ⟨many, hm⟩ : ∃ many, wrap64 (Int.tdiv (wrap64 (Sp.longW a0_1 a0_2 + 2)) 3) = many := ⟨_, rfl⟩
 have HM : Aside0 (many = (Sp.longW a0_1 a0_2 + 2) / 3) := ⟨by
  have b := Sp.longW_bd h1 h2
  rw [← hm, Sp.w64 (x := Sp.longW a0_1 a0_2 + 2) (by omega), Int.tdiv_eq_ediv_of_nonneg (by omega), Sp.w64 (by omega)]⟩
 clear h1 h2
 generalize Sp.longW a0_1 a0_2 = L at *
 go_enter Tryz.func51, Tryz.ntmps51
 go_wp2_with (first
  | ((with_reducible refine gate_dst (N := 1) rfl ?_); refine box_event ?hg (N := 1) ?hd (cs := #[.bool a0_0, .int .u64 a0_1, .int .u64 a0_2]) (t := 99) ?hr ?_; (case hd => rfl); (case hg => rfl); (case hr => first | (go_simp; done) | (go_simp; rfl)); intro gb hg w2 hbox hb; have BK1 := Aside0.mk hbox; obtain ⟨GW1, nHB⟩ := geA hg hb; have GE1 := GW1; replace HB := nHB; clear nHB; clear hb hbox hg; have z0 := czZ BK1 0 (.bool a0_0); have z1 := czZ BK1 1 (.int .u64 a0_1); have z2 := czZ BK1 2 (.int .u64 a0_2); have f0 := blk_frozen BK1.out 0; have f1 := blk_frozen BK1.out 1; have f2 := blk_frozen BK1.out 2)
  | (go_at_call 108; refine (root_longS.calls false a0_1 a0_2 L _ HL.out).mono ?_; rintro e1 w3 ⟨rfl, hb⟩; have BK2 := Aside0.mk (blk_below (blk_put (cs := #[.bool a0_0, .int .u64 a0_1, .int .u64 a0_2]) BK1.out 0 (.bool false) rfl) hb); replace HB := Aside0.mk (below_step (by repeat (first | (with_reducible first | apply below_alloc | exact HB.out | apply pw_below_drewN | apply below_drew1 | refine below_set ?_ GE1.out) | exact HB.out)) hb); clear hb)
  | (go_at_call 109; refine (root_Third.greatest (Sp.root3 (a0_1 * 18446744073709551616 + a0_2)) many gb _ ⟨by have a := HM.out; have b := HR.out; omega⟩ ⟨by have a := HM.out; have b := HR.out; have c := H0.out; rw [a]; exact ⟨c.1, b.2.2⟩⟩ _ BK2.out (fun n b w' hn hb => root_Third.right HU.out.1 HU.out.2 hn.out hb)).mono ?_; rintro e1 w4 ⟨rfl, hb⟩; replace HB := Aside0.mk (below_step HB.out hb); clear hb)
  | fail)
 go_ret
 exact ⟨by first | rfl | (simp; done) | (simp [*]; done), (by repeat (first | (with_reducible first | apply below_alloc | exact HB.out | apply pw_below_drewN | apply below_drew1 | refine below_set ?_ GE1.out) | exact HB.out))⟩

/-! ### epoch_K: function 19 -/
/-- The table of the parts of 10^19 lies as the program's text lays it. -/
def Tens (w : World) : Prop := ∃ t, w.heap[0]? = some (.cells #[.int .u64 1000000000, .int .u64 10000000000] t (0, 0))
theorem tensB {w w' : World} (h : Tens w) (hb : Below w.heap.size w w') : Tens w' := by
 obtain ⟨t, h⟩ := h; exact ⟨t, by rw [hb.block _ (Array.getElem?_eq_some_iff.1 h).1]; exact h⟩
noncomputable def epoch_K.f (a : Int) : Option Int := Sp.need (Sp.I a) (some (Sp.kQ a))
theorem epoch_K.eq {a : Int} (h1 : Sp.I a) : epoch_K.f a = some (Sp.kQ a) := Sp.need_pos h1
theorem epoch_K.put {w : World} {g : Nat} {x y z : Value} {t : TypeId} (h : w.heap[g]? = some (.cells #[x, y, z] t (0, 0))) (a b c : Value) : (((w.setCell ⟨g, 0, none⟩ a).setCell ⟨g, 1, none⟩ b).setCell ⟨g, 2, none⟩ c).heap[g]? = some (.cells #[a, b, c] t (0, 0)) :=
 blk_put (blk_put (blk_put h 0 a rfl) 1 b rfl) 2 c rfl
set_option maxHeartbeats 2000000 in
set_option maxRecDepth 100000 in
theorem epoch_K.walk (a0 c n0 n1 n2 n3 n4 n5 : Int) (s0 s1 s2 s3 : Bool) (q0 q1 rm rt r : Int) (HS1 : Aside0 (safe_ClampS.f a0 0 68719476736 = some c)) (HS2 : Aside0 (big_OfS.f c = some (s0, n0, n1))) (HS3 : Aside0 (big_ScaleS.f s0 n0 n1 1000000000 = some (s1, n2, n3, 0)))
  (HS4 : Aside0 (big_ScaleS.f s1 n2 n3 10000000000 = some (s2, n4, n5, 0))) (HS5 : Aside0 (big_DivS.f s2 n4 n5 262144 = some (s3, q0, q1, rm, 0))) (HS6 : Aside0 (root_Third.f s3 q0 q1 = some rt)) (hr : wrap64 rt = r) (w : World) (hL : Tens w) :
  Calls Tryz.prog 19 #[.int .i64 a0] w fun e w' => e = .returned (.int .i64 r) ∧ Below w.heap.size w w' := by
 have HB := Aside0.mk (Below.refl w.heap.size w); obtain ⟨tt, hT⟩ := hL; have BT := Aside0.mk hT
 have hi0 : ∀ w : World, (Instr.index 101 (.agg #[.int .u64 1000000000, .int .u64 10000000000]) (.int .i64 0)).run Tryz.prog w = .ok (.int .u64 1000000000) w := fun _ => by kernel_rfl
 have hi1 : ∀ w : World, (Instr.index 101 (.agg #[.int .u64 1000000000, .int .u64 10000000000]) (.int .i64 1)).run Tryz.prog w = .ok (.int .u64 10000000000) w := fun _ => by kernel_rfl
 clear hT
 go_enter Tryz.func19, Tryz.ntmps19
 go_wp2_with (first
  | (go_at_call 22; refine (safe_ClampS.calls a0 0 68719476736 c _ HS1.out).mono ?_; rintro e1 w1 ⟨rfl, hb⟩; replace BT := bbZ BT hb; replace HB := stA hb; clear hb)
  | (go_at_call 48; refine (big_OfS.calls c s0 n0 n1 _ HS2.out).mono ?_; rintro e1 w2 ⟨rfl, hb⟩; replace BT := bbZ BT hb; replace HB := stA hb; clear hb)
  | ((with_reducible refine gate_dst (N := 3) rfl ?_); refine box_event ?hg (N := 3) ?hd (cs := #[.bool false, .int .u64 0, .int .u64 0]) (t := 99) ?hr ?_; (case hd => rfl); (case hg => rfl); (case hr => first | (go_simp; done) | (go_simp; rfl)); intro gb hg w3 hbox hb; have BK1 := Aside0.mk hbox; obtain ⟨GW1, nHB⟩ := geA hg hb; have GE1 := GW1; obtain ⟨NB1, NB2, nBK⟩ := nbA BT hg hb; replace BT := nBK; clear nBK; replace HB := nHB; clear nHB; clear hb hbox hg; have z0 := czZ BK1 0 (.bool false); have z1 := czZ BK1 1 (.int .u64 0); have z2 := czZ BK1 2 (.int .u64 0); have f0 := blk_frozen BK1.out 0; have f1 := blk_frozen BK1.out 1; have f2 := blk_frozen BK1.out 2; have y0 := czZ BT 0 (.int .u64 1000000000); have y1 := czZ BT 1 (.int .u64 10000000000); have n1_ := NB1.out; have n2_ := NB2.out)
  | fail)
 refine wp_loop_rounds 3 ?_
 rw [rounds_succ]
 go_wp2_with (first | (go_at_call 49; refine (big_ScaleS.calls s0 n0 n1 1000000000 s1 n2 n3 0 _ HS3.out).mono ?_; rintro e1 w4 ⟨rfl, hb⟩; replace BK1 := Aside0.mk (blk_below (epoch_K.put BK1.out (.bool s0) (.int .u64 n0) (.int .u64 n1)) hb); replace HB := Aside0.mk (below_step (by repeat (first | (with_reducible first | apply below_alloc | exact HB.out | apply pw_below_drewN | apply below_drew1 | refine below_set ?_ GE1.out) | exact HB.out)) hb); clear hb z0 z1 z2 f0 f1 f2; have z0 := czZ BK1 0 (.bool s0); have z1 := czZ BK1 1 (.int .u64 n0); have z2 := czZ BK1 2 (.int .u64 n1); have f0 := blk_frozen BK1.out 0; have f1 := blk_frozen BK1.out 1; have f2 := blk_frozen BK1.out 2) | fail)
 rw [rounds_succ]
 go_wp2_with (first | (go_at_call 49; refine (big_ScaleS.calls s1 n2 n3 10000000000 s2 n4 n5 0 _ HS4.out).mono ?_; rintro e1 w5 ⟨rfl, hb⟩; replace BK1 := Aside0.mk (blk_below (epoch_K.put BK1.out (.bool s1) (.int .u64 n2) (.int .u64 n3)) hb); replace HB := Aside0.mk (below_step (by repeat (first | (with_reducible first | apply below_alloc | exact HB.out | apply pw_below_drewN | apply below_drew1 | refine below_set ?_ GE1.out) | exact HB.out)) hb); clear hb z0 z1 z2 f0 f1 f2; have z0 := czZ BK1 0 (.bool s1); have z1 := czZ BK1 1 (.int .u64 n2); have z2 := czZ BK1 2 (.int .u64 n3); have f0 := blk_frozen BK1.out 0; have f1 := blk_frozen BK1.out 1; have f2 := blk_frozen BK1.out 2) | fail)
 rw [rounds_succ]
 go_wp2_with (first | (go_at_call 50; refine (big_DivS.calls s2 n4 n5 262144 s3 q0 q1 rm 0 _ HS5.out).mono ?_; rintro e1 w6 ⟨rfl, hb⟩; replace BK1 := Aside0.mk (blk_below (epoch_K.put BK1.out (.bool s2) (.int .u64 n4) (.int .u64 n5)) hb); replace HB := Aside0.mk (below_step (by repeat (first | (with_reducible first | apply below_alloc | exact HB.out | apply pw_below_drewN | apply below_drew1 | refine below_set ?_ GE1.out) | exact HB.out)) hb); clear hb z0 z1 z2 f0 f1 f2; have z0 := czZ BK1 0 (.bool s2); have z1 := czZ BK1 1 (.int .u64 n4); have z2 := czZ BK1 2 (.int .u64 n5); have f0 := blk_frozen BK1.out 0; have f1 := blk_frozen BK1.out 1; have f2 := blk_frozen BK1.out 2) | (go_at_call 51; refine (root_Third.calls s3 q0 q1 rt _ HS6.out).mono ?_; rintro e1 w7 ⟨rfl, hb⟩; replace HB := Aside0.mk (below_step (by repeat (first | (with_reducible first | apply below_alloc | exact HB.out | apply pw_below_drewN | apply below_drew1 | refine below_set ?_ GE1.out) | exact HB.out)) hb); clear hb) | fail)
 go_ret
 exact ⟨by first | rfl | (simp; done) | (simp [*]; done), (by repeat (first | (with_reducible first | apply below_alloc | exact HB.out | apply pw_below_drewN | apply below_drew1 | refine below_set ?_ GE1.out) | exact HB.out))⟩
theorem epoch_K.calls (a0 r : Int) (w : World) (h : epoch_K.f a0 = some r) (hL : Tens w) :
  Calls Tryz.prog 19 #[.int .i64 a0] w fun e w' => e = .returned (.int .i64 r) ∧ Below w.heap.size w w' := by
 obtain ⟨h1, h⟩ := Sp.need_some h; obtain rfl := Option.some.inj h; have c := Sp.clamp_bd (a := a0) (low := 0) (high := 68719476736) (by omega); have kb := Sp.kQ_bd a0; have e0 : Sp.kQ a0 = Sp.root3 (Sp.clamp a0 0 68719476736 * 10000000000000000000 / 262144) := rfl; have s0 := safe_ClampS.eq (a := a0) (b := 0) (c := 68719476736) h1 (by omega) (by omega)
 generalize Sp.clamp a0 0 68719476736 = g at *
 have e1 : g * 1000000000 * 10000000000 = g * 10000000000000000000 := by omega
 have s1 := (big_ScaleS.enc (v := g) (k := 1000000000) (by omega) (by omega)).trans (Sp.held_in (by omega)); have s2 := (big_ScaleS.enc (v := g * 1000000000) (k := 10000000000) (by omega) (by omega)).trans (Sp.held_in (by omega)); have s3 := (big_DivS.enc (v := g * 1000000000 * 10000000000) (d := 262144) (by omega) (by omega)).trans (Sp.quo_pos (by omega))
 have bq : Sp.B (g * 1000000000 * 10000000000 / 262144) := by omega
 have s4 := root_Third.eq (n := Sp.encN (g * 1000000000 * 10000000000 / 262144)) (Sp.encH_U bq) (Sp.encL_U (v := g * 1000000000 * 10000000000 / 262144)); have ve := @Sp.val_enc (g * 1000000000 * 10000000000 / 262144)
 rw [Sp.encN_pos (by omega), Sp.val_f] at ve
 refine epoch_K.walk a0 g _ _ _ _ _ _ _ _ _ _ _ _ _ _ _ ⟨s0⟩ ⟨big_OfS.eq (by omega)⟩ ⟨s1⟩ ⟨s2⟩ ⟨s3⟩ ⟨s4⟩ ?_ w hL
 rw [ve, e1, ← e0, Sp.w64 (by omega)]

/-! ### epoch_Begin: function 7 -/
noncomputable def epoch_Begin.f (a0 : Int) (a1 : Int) (a2 : Int) : Option (Bool × Int × Int × Int × Int × Int × Int) := (epoch_time.f a0).bind fun t311 => (if t311 = true then ((epoch_windowS.f a1).bind fun t312 => (if t312 = true then ((epoch_windowS.f a2).bind fun t313 => (if t313 = true then ((epoch_K.f (wrap64 ((mx a2 a1) - a1))).bind fun t314 => (some (true, a0, a1, mx a2 a1, t314, a1, 0))) else (some (false, 0, 0, 0, 0, 0, 201)))) else (some (false, 0, 0, 0, 0, 0, 201)))) else (some (false, 0, 0, 0, 0, 0, 201)))
set_option maxHeartbeats 8000000 in
set_option maxRecDepth 100000 in
theorem epoch_Begin.calls (a0 : Int) (a1 : Int) (a2 : Int) (r1 : Bool) (r2 : Int) (r3 : Int) (r4 : Int) (r5 : Int) (r6 : Int) (r7 : Int) (w : World) (h : epoch_Begin.f a0 a1 a2 = some (r1, r2, r3, r4, r5, r6, r7)) (hL : Tens w) :
  Calls Tryz.prog 7 #[.int .i64 a0, .int .i64 a1, .int .i64 a2] w fun e w' => e = .returned (.tuple #[.agg #[.bool r1, .int .i64 r2, .int .i64 r3, .int .i64 r4, .int .i64 r5, .int .i64 r6], .int .i64 r7]) ∧ Below w.heap.size w w' := by
 have hu25 := Tryz.underlying25; have HB := Aside0.mk (Below.refl w.heap.size w); have H : ((epoch_time.f a0).bind fun t311 => (if t311 = true then ((epoch_windowS.f a1).bind fun t312 => (if t312 = true then ((epoch_windowS.f a2).bind fun t313 => (if t313 = true then ((epoch_K.f (wrap64 ((mx a2 a1) - a1))).bind fun t314 => (some (true, a0, a1, mx a2 a1, t314, a1, 0))) else (some (false, 0, 0, 0, 0, 0, 201)))) else (some (false, 0, 0, 0, 0, 0, 201)))) else (some (false, 0, 0, 0, 0, 0, 201)))) = some (r1, r2, r3, r4, r5, r6, r7) := h; clear h; replace H := Option.bind_eq_some_iff.mp H; obtain ⟨t311, A40, H⟩ := H; (try dsimp only at H); have A4 := Aside0.mk A40; clear A40
 by_cases c5 : t311 = true
 ·subst c5
  have H1 : ((epoch_windowS.f a1).bind fun t312 => (if t312 = true then ((epoch_windowS.f a2).bind fun t313 => (if t313 = true then ((epoch_K.f (wrap64 ((mx a2 a1) - a1))).bind fun t314 => (some (true, a0, a1, mx a2 a1, t314, a1, 0))) else (some (false, 0, 0, 0, 0, 0, 201)))) else (some (false, 0, 0, 0, 0, 0, 201)))) = some (r1, r2, r3, r4, r5, r6, r7) := by rw [if_pos rfl] at H; exact H
  clear H; have H := H1; clear H1; replace H := Option.bind_eq_some_iff.mp H; obtain ⟨t312, A60, H⟩ := H; (try dsimp only at H); have A6 := Aside0.mk A60; clear A60
  by_cases c7 : t312 = true
  ·subst c7
   have H1 : ((epoch_windowS.f a2).bind fun t313 => (if t313 = true then ((epoch_K.f (wrap64 ((mx a2 a1) - a1))).bind fun t314 => (some (true, a0, a1, mx a2 a1, t314, a1, 0))) else (some (false, 0, 0, 0, 0, 0, 201)))) = some (r1, r2, r3, r4, r5, r6, r7) := by rw [if_pos rfl] at H; exact H
   clear H; have H := H1; clear H1; replace H := Option.bind_eq_some_iff.mp H; obtain ⟨t313, A80, H⟩ := H; (try dsimp only at H); have A8 := Aside0.mk A80; clear A80
   by_cases c9 : t313 = true
   ·subst c9
    have H1 : ((epoch_K.f (wrap64 ((mx a2 a1) - a1))).bind fun t314 => (some (true, a0, a1, mx a2 a1, t314, a1, 0))) = some (r1, r2, r3, r4, r5, r6, r7) := by rw [if_pos rfl] at H; exact H
    clear H; have H := H1; clear H1
    obtain ⟨ji10, hji10⟩ : ∃ j_ : Int, (mx a2 a1) = j_ := ⟨_, rfl⟩
    replace H : ((epoch_K.f (wrap64 ((ji10) - a1))).bind fun t314 => (some (true, a0, a1, ji10, t314, a1, 0))) = some (r1, r2, r3, r4, r5, r6, r7) := by first | (rw [hji10] at H; exact H) | (simp only [hji10] at H ⊢; exact H)
    (try rw [hji10] at A4)
    (try rw [hji10] at A6)
    (try rw [hji10] at A8)
    have hji10_ : (if a2 < a1 then a1 else a2) = ji10 := hji10; replace H := Option.bind_eq_some_iff.mp H; obtain ⟨t314, A110, H⟩ := H; replace H : (some (true, a0, a1, ji10, t314, a1, 0)) = some (r1, r2, r3, r4, r5, r6, r7) := H; have A11 := Aside0.mk A110; clear A110; simp only [Option.some.injEq, Prod.mk.injEq] at H; obtain ⟨rfl, rfl, rfl, rfl, rfl, rfl, rfl⟩ := H
    go_enter Tryz.func7, Tryz.ntmps7
    go_wp2_with (first | ((with_reducible refine gate_dst (N := 6) rfl ?_); refine box_event ?hg (N := 6) ?hd (cs := #[.bool false, .int .i64 0, .int .i64 0, .int .i64 0, .int .i64 0, .int .i64 0]) (t := 25) ?hr ?_; (case hd => rfl); (case hg => rfl); (case hr => first | (go_simp; done) | (go_simp; rfl)); intro gb310 hg w12 hbox hb; have BK310 := Aside0.mk (hbox); obtain ⟨GW310, nHB⟩ := geA hg hb; have GE310 := GW310; replace HB := nHB; clear nHB; clear hb hbox hg) | ((with_reducible refine gate_callee (f := 17) rfl ?_); refine goesLA_ (some 9) rfl rfl Tryz.func17 rfl #[.int .i64 a0] rfl ?_; (with_reducible refine (epoch_time.calls a0 true _ A4.out).mono ?_); rintro e w' ⟨rfl, ⟨nd, rfl⟩⟩; refine ⟨_, rfl, ?_⟩; (try (rw [drewN_self w12]; generalize hq_ : World.drewN w12 _ = w12; have n0_ : Aside0 (w12.heap[gb310]? = some (.cells #[.bool false, .int .i64 0, .int .i64 0, .int .i64 0, .int .i64 0, .int .i64 0] 25 (0, 0))) := ⟨by rw [← hq_]; exact (by (with_reducible repeat first | apply blk_drewN | apply blk_drew | apply blk_alloc); exact BK310.out)⟩; have n1_ : Aside0 (Below w.heap.size w w12) := ⟨by rw [← hq_]; exact (by repeat (first | (with_reducible first | exact HB.out | apply below_alloc | apply pw_below_drewN | apply below_drew1 | refine below_set ?_ GE310.out) | exact HB.out))⟩; clear BK310 HB hq_; have BK310 := n0_; have HB := n1_; clear n0_ n1_))) | (go_at_call 18; (with_reducible refine (epoch_windowS.calls a1 true _ A6.out).mono ?_); rintro e w13 ⟨rfl, hb⟩; replace BK310 := bdZ BK310 hb; replace HB := stA hb; clear hb) | (go_at_call 18; (with_reducible refine (epoch_windowS.calls a2 true _ A8.out).mono ?_); rintro e w14 ⟨rfl, hb⟩; replace BK310 := bdZ BK310 hb; replace HB := stA hb; clear hb) | ((with_reducible refine gate_callee (f := 19) rfl ?_); refine goesL_ (some 31) rfl rfl Tryz.func19 (by kernel_rfl) rfl #[.int .i64 (wrap64 ((ji10) - a1))] rfl (by (try simp only [List.map_toArray, List.map_cons, List.map_nil]); first | done | (simp only [hji10]; rfl) | rfl | (simp only [List.length_drop, List.length_take]; rfl)) ?_; (with_reducible refine (epoch_K.calls (wrap64 ((ji10) - a1)) t314 _ A11.out ?hT_).mono ?_); (case hT_ => exact tensB hL (by repeat (first | (with_reducible first | exact HB.out | apply below_alloc | apply pw_below_drewN | apply below_drew1 | refine below_set ?_ (Aside0.out (by assumption))) | exact HB.out))); rintro e w15 ⟨rfl, hb⟩; refine ⟨_, rfl, ?_⟩; replace BK310 := bdZ BK310 hb; replace HB := stA hb; clear hb; have hcz16_0 := czZ BK310 0 (.bool false); have hcz16_1 := czZ BK310 1 (.int .i64 0); have hcz16_2 := czZ BK310 2 (.int .i64 0); have hcz16_3 := czZ BK310 3 (.int .i64 0); have hcz16_4 := czZ BK310 4 (.int .i64 0); have hcz16_5 := czZ BK310 5 (.int .i64 0); have hfz16_0 := blk_frozen BK310.out 0; have hfz16_1 := blk_frozen BK310.out 1; have hfz16_2 := blk_frozen BK310.out 2; have hfz16_3 := blk_frozen BK310.out 3; have hfz16_4 := blk_frozen BK310.out 4; have hfz16_5 := blk_frozen BK310.out 5))
    refine bodyPost_ret (results_ct rfl _ _ gb310 25 #[.bool true, .int .i64 a0, .int .i64 a1, .int .i64 ji10, .int .i64 t314, .int .i64 a1] (0, 0) _ rfl (by (with_reducible repeat first | apply blk_drewN | apply blk_drew | apply blk_alloc); refine blk_put (cs := #[.bool true, .int .i64 a0, .int .i64 a1, .int .i64 ji10, .int .i64 t314, .int .i64 0]) ?_ 5 _ rfl; (with_reducible repeat first | apply blk_drewN | apply blk_drew | apply blk_alloc); refine blk_put (cs := #[.bool true, .int .i64 a0, .int .i64 a1, .int .i64 ji10, .int .i64 0, .int .i64 0]) ?_ 4 _ rfl; (with_reducible repeat first | apply blk_drewN | apply blk_drew | apply blk_alloc); refine blk_put (cs := #[.bool true, .int .i64 a0, .int .i64 a1, .int .i64 0, .int .i64 0, .int .i64 0]) ?_ 3 _ rfl; (with_reducible repeat first | apply blk_drewN | apply blk_drew | apply blk_alloc); refine blk_put (cs := #[.bool true, .int .i64 a0, .int .i64 0, .int .i64 0, .int .i64 0, .int .i64 0]) ?_ 2 _ rfl; (with_reducible repeat first | apply blk_drewN | apply blk_drew | apply blk_alloc); refine blk_put (cs := #[.bool true, .int .i64 0, .int .i64 0, .int .i64 0, .int .i64 0, .int .i64 0]) ?_ 1 _ rfl; (with_reducible repeat first | apply blk_drewN | apply blk_drew | apply blk_alloc); refine blk_put (cs := #[.bool false, .int .i64 0, .int .i64 0, .int .i64 0, .int .i64 0, .int .i64 0]) ?_ 0 _ rfl; (with_reducible repeat first | apply blk_drewN | apply blk_drew | apply blk_alloc); exact BK310.out) Tryz.underlying25 rfl (by kernel_rfl)) rfl ?_; exact ⟨by first | rfl | (simp [errW_none, errW_some] <;> rfl) | (simp only [← hji10]; first | rfl | (simp [errW_none, errW_some] <;> rfl)) | (simp [*, errW_none, errW_some] <;> rfl), by repeat (first | (with_reducible first | exact HB.out | apply below_alloc | apply pw_below_drewN | apply below_drew1 | refine below_set ?_ GE310.out) | exact HB.out)⟩
   ·replace c9 := Bool.eq_false_iff.mpr c9
    subst c9
    have H1 : (some (false, 0, 0, 0, 0, 0, 201)) = some (r1, r2, r3, r4, r5, r6, r7) := by rw [if_neg (show ¬ (false = true) by decide)] at H; exact H
    clear H; have H := H1; clear H1; simp only [Option.some.injEq, Prod.mk.injEq] at H; obtain ⟨rfl, rfl, rfl, rfl, rfl, rfl, rfl⟩ := H
    go_enter Tryz.func7, Tryz.ntmps7
    go_wp2_with (first | ((with_reducible refine gate_dst (N := 6) rfl ?_); refine box_event ?hg (N := 6) ?hd (cs := #[.bool false, .int .i64 0, .int .i64 0, .int .i64 0, .int .i64 0, .int .i64 0]) (t := 25) ?hr ?_; (case hd => rfl); (case hg => rfl); (case hr => first | (go_simp; done) | (go_simp; rfl)); intro gb310 hg w17 hbox hb; have BK310 := Aside0.mk (hbox); obtain ⟨GW310, nHB⟩ := geA hg hb; have GE310 := GW310; replace HB := nHB; clear nHB; clear hb hbox hg) | ((with_reducible refine gate_callee (f := 17) rfl ?_); refine goesLA_ (some 9) rfl rfl Tryz.func17 rfl #[.int .i64 a0] rfl ?_; (with_reducible refine (epoch_time.calls a0 true _ A4.out).mono ?_); rintro e w' ⟨rfl, ⟨nd, rfl⟩⟩; refine ⟨_, rfl, ?_⟩; (try (rw [drewN_self w17]; generalize hq_ : World.drewN w17 _ = w17; have n0_ : Aside0 (w17.heap[gb310]? = some (.cells #[.bool false, .int .i64 0, .int .i64 0, .int .i64 0, .int .i64 0, .int .i64 0] 25 (0, 0))) := ⟨by rw [← hq_]; exact (by (with_reducible repeat first | apply blk_drewN | apply blk_drew | apply blk_alloc); exact BK310.out)⟩; have n1_ : Aside0 (Below w.heap.size w w17) := ⟨by rw [← hq_]; exact (by repeat (first | (with_reducible first | exact HB.out | apply below_alloc | apply pw_below_drewN | apply below_drew1 | refine below_set ?_ GE310.out) | exact HB.out))⟩; clear BK310 HB hq_; have BK310 := n0_; have HB := n1_; clear n0_ n1_))) | (go_at_call 18; (with_reducible refine (epoch_windowS.calls a1 true _ A6.out).mono ?_); rintro e w18 ⟨rfl, hb⟩; replace BK310 := bdZ BK310 hb; replace HB := stA hb; clear hb) | (go_at_call 18; (with_reducible refine (epoch_windowS.calls a2 false _ A8.out).mono ?_); rintro e w19 ⟨rfl, hb⟩; replace BK310 := bdZ BK310 hb; replace HB := stA hb; clear hb; have hcz20_0 := czZ BK310 0 (.bool false); have hcz20_1 := czZ BK310 1 (.int .i64 0); have hcz20_2 := czZ BK310 2 (.int .i64 0); have hcz20_3 := czZ BK310 3 (.int .i64 0); have hcz20_4 := czZ BK310 4 (.int .i64 0); have hcz20_5 := czZ BK310 5 (.int .i64 0); have hfz20_0 := blk_frozen BK310.out 0; have hfz20_1 := blk_frozen BK310.out 1; have hfz20_2 := blk_frozen BK310.out 2; have hfz20_3 := blk_frozen BK310.out 3; have hfz20_4 := blk_frozen BK310.out 4; have hfz20_5 := blk_frozen BK310.out 5))
    refine bodyPost_ret (results_ct rfl _ _ gb310 25 #[.bool false, .int .i64 0, .int .i64 0, .int .i64 0, .int .i64 0, .int .i64 0] (0, 0) _ rfl (by (with_reducible repeat first | apply blk_drewN | apply blk_drew | apply blk_alloc); refine blk_put (cs := #[.bool false, .int .i64 0, .int .i64 0, .int .i64 0, .int .i64 0, .int .i64 0]) ?_ 5 _ rfl; (with_reducible repeat first | apply blk_drewN | apply blk_drew | apply blk_alloc); refine blk_put (cs := #[.bool false, .int .i64 0, .int .i64 0, .int .i64 0, .int .i64 0, .int .i64 0]) ?_ 4 _ rfl; (with_reducible repeat first | apply blk_drewN | apply blk_drew | apply blk_alloc); refine blk_put (cs := #[.bool false, .int .i64 0, .int .i64 0, .int .i64 0, .int .i64 0, .int .i64 0]) ?_ 3 _ rfl; (with_reducible repeat first | apply blk_drewN | apply blk_drew | apply blk_alloc); refine blk_put (cs := #[.bool false, .int .i64 0, .int .i64 0, .int .i64 0, .int .i64 0, .int .i64 0]) ?_ 2 _ rfl; (with_reducible repeat first | apply blk_drewN | apply blk_drew | apply blk_alloc); refine blk_put (cs := #[.bool false, .int .i64 0, .int .i64 0, .int .i64 0, .int .i64 0, .int .i64 0]) ?_ 1 _ rfl; (with_reducible repeat first | apply blk_drewN | apply blk_drew | apply blk_alloc); refine blk_put (cs := #[.bool false, .int .i64 0, .int .i64 0, .int .i64 0, .int .i64 0, .int .i64 0]) ?_ 0 _ rfl; (with_reducible repeat first | apply blk_drewN | apply blk_drew | apply blk_alloc); exact BK310.out) Tryz.underlying25 rfl (by kernel_rfl)) rfl ?_; exact ⟨by first | rfl | (simp [errW_none, errW_some] <;> rfl) | (simp [*, errW_none, errW_some] <;> rfl), by repeat (first | (with_reducible first | exact HB.out | apply below_alloc | apply pw_below_drewN | apply below_drew1 | refine below_set ?_ GE310.out) | exact HB.out)⟩
  ·replace c7 := Bool.eq_false_iff.mpr c7
   subst c7
   have H1 : (some (false, 0, 0, 0, 0, 0, 201)) = some (r1, r2, r3, r4, r5, r6, r7) := by rw [if_neg (show ¬ (false = true) by decide)] at H; exact H
   clear H; have H := H1; clear H1; simp only [Option.some.injEq, Prod.mk.injEq] at H; obtain ⟨rfl, rfl, rfl, rfl, rfl, rfl, rfl⟩ := H
   go_enter Tryz.func7, Tryz.ntmps7
   go_wp2_with (first | ((with_reducible refine gate_dst (N := 6) rfl ?_); refine box_event ?hg (N := 6) ?hd (cs := #[.bool false, .int .i64 0, .int .i64 0, .int .i64 0, .int .i64 0, .int .i64 0]) (t := 25) ?hr ?_; (case hd => rfl); (case hg => rfl); (case hr => first | (go_simp; done) | (go_simp; rfl)); intro gb310 hg w21 hbox hb; have BK310 := Aside0.mk (hbox); obtain ⟨GW310, nHB⟩ := geA hg hb; have GE310 := GW310; replace HB := nHB; clear nHB; clear hb hbox hg) | ((with_reducible refine gate_callee (f := 17) rfl ?_); refine goesLA_ (some 9) rfl rfl Tryz.func17 rfl #[.int .i64 a0] rfl ?_; (with_reducible refine (epoch_time.calls a0 true _ A4.out).mono ?_); rintro e w' ⟨rfl, ⟨nd, rfl⟩⟩; refine ⟨_, rfl, ?_⟩; (try (rw [drewN_self w21]; generalize hq_ : World.drewN w21 _ = w21; have n0_ : Aside0 (w21.heap[gb310]? = some (.cells #[.bool false, .int .i64 0, .int .i64 0, .int .i64 0, .int .i64 0, .int .i64 0] 25 (0, 0))) := ⟨by rw [← hq_]; exact (by (with_reducible repeat first | apply blk_drewN | apply blk_drew | apply blk_alloc); exact BK310.out)⟩; have n1_ : Aside0 (Below w.heap.size w w21) := ⟨by rw [← hq_]; exact (by repeat (first | (with_reducible first | exact HB.out | apply below_alloc | apply pw_below_drewN | apply below_drew1 | refine below_set ?_ GE310.out) | exact HB.out))⟩; clear BK310 HB hq_; have BK310 := n0_; have HB := n1_; clear n0_ n1_))) | (go_at_call 18; (with_reducible refine (epoch_windowS.calls a1 false _ A6.out).mono ?_); rintro e w22 ⟨rfl, hb⟩; replace BK310 := bdZ BK310 hb; replace HB := stA hb; clear hb; have hcz23_0 := czZ BK310 0 (.bool false); have hcz23_1 := czZ BK310 1 (.int .i64 0); have hcz23_2 := czZ BK310 2 (.int .i64 0); have hcz23_3 := czZ BK310 3 (.int .i64 0); have hcz23_4 := czZ BK310 4 (.int .i64 0); have hcz23_5 := czZ BK310 5 (.int .i64 0); have hfz23_0 := blk_frozen BK310.out 0; have hfz23_1 := blk_frozen BK310.out 1; have hfz23_2 := blk_frozen BK310.out 2; have hfz23_3 := blk_frozen BK310.out 3; have hfz23_4 := blk_frozen BK310.out 4; have hfz23_5 := blk_frozen BK310.out 5))
   refine bodyPost_ret (results_ct rfl _ _ gb310 25 #[.bool false, .int .i64 0, .int .i64 0, .int .i64 0, .int .i64 0, .int .i64 0] (0, 0) _ rfl (by (with_reducible repeat first | apply blk_drewN | apply blk_drew | apply blk_alloc); refine blk_put (cs := #[.bool false, .int .i64 0, .int .i64 0, .int .i64 0, .int .i64 0, .int .i64 0]) ?_ 5 _ rfl; (with_reducible repeat first | apply blk_drewN | apply blk_drew | apply blk_alloc); refine blk_put (cs := #[.bool false, .int .i64 0, .int .i64 0, .int .i64 0, .int .i64 0, .int .i64 0]) ?_ 4 _ rfl; (with_reducible repeat first | apply blk_drewN | apply blk_drew | apply blk_alloc); refine blk_put (cs := #[.bool false, .int .i64 0, .int .i64 0, .int .i64 0, .int .i64 0, .int .i64 0]) ?_ 3 _ rfl; (with_reducible repeat first | apply blk_drewN | apply blk_drew | apply blk_alloc); refine blk_put (cs := #[.bool false, .int .i64 0, .int .i64 0, .int .i64 0, .int .i64 0, .int .i64 0]) ?_ 2 _ rfl; (with_reducible repeat first | apply blk_drewN | apply blk_drew | apply blk_alloc); refine blk_put (cs := #[.bool false, .int .i64 0, .int .i64 0, .int .i64 0, .int .i64 0, .int .i64 0]) ?_ 1 _ rfl; (with_reducible repeat first | apply blk_drewN | apply blk_drew | apply blk_alloc); refine blk_put (cs := #[.bool false, .int .i64 0, .int .i64 0, .int .i64 0, .int .i64 0, .int .i64 0]) ?_ 0 _ rfl; (with_reducible repeat first | apply blk_drewN | apply blk_drew | apply blk_alloc); exact BK310.out) Tryz.underlying25 rfl (by kernel_rfl)) rfl ?_; exact ⟨by first | rfl | (simp [errW_none, errW_some] <;> rfl) | (simp [*, errW_none, errW_some] <;> rfl), by repeat (first | (with_reducible first | exact HB.out | apply below_alloc | apply pw_below_drewN | apply below_drew1 | refine below_set ?_ GE310.out) | exact HB.out)⟩
 ·replace c5 := Bool.eq_false_iff.mpr c5
  subst c5
  have H1 : (some (false, 0, 0, 0, 0, 0, 201)) = some (r1, r2, r3, r4, r5, r6, r7) := by rw [if_neg (show ¬ (false = true) by decide)] at H; exact H
  clear H; have H := H1; clear H1; simp only [Option.some.injEq, Prod.mk.injEq] at H; obtain ⟨rfl, rfl, rfl, rfl, rfl, rfl, rfl⟩ := H
  go_enter Tryz.func7, Tryz.ntmps7
  go_wp2_with (first | ((with_reducible refine gate_dst (N := 6) rfl ?_); refine box_event ?hg (N := 6) ?hd (cs := #[.bool false, .int .i64 0, .int .i64 0, .int .i64 0, .int .i64 0, .int .i64 0]) (t := 25) ?hr ?_; (case hd => rfl); (case hg => rfl); (case hr => first | (go_simp; done) | (go_simp; rfl)); intro gb310 hg w24 hbox hb; have BK310 := Aside0.mk (hbox); obtain ⟨GW310, nHB⟩ := geA hg hb; have GE310 := GW310; replace HB := nHB; clear nHB; clear hb hbox hg) | ((with_reducible refine gate_callee (f := 17) rfl ?_); refine goesLA_ (some 9) rfl rfl Tryz.func17 rfl #[.int .i64 a0] rfl ?_; (with_reducible refine (epoch_time.calls a0 false _ A4.out).mono ?_); rintro e w' ⟨rfl, ⟨nd, rfl⟩⟩; refine ⟨_, rfl, ?_⟩; (try (rw [drewN_self w24]; generalize hq_ : World.drewN w24 _ = w24; have n0_ : Aside0 (w24.heap[gb310]? = some (.cells #[.bool false, .int .i64 0, .int .i64 0, .int .i64 0, .int .i64 0, .int .i64 0] 25 (0, 0))) := ⟨by rw [← hq_]; exact (by (with_reducible repeat first | apply blk_drewN | apply blk_drew | apply blk_alloc); exact BK310.out)⟩; have n1_ : Aside0 (Below w.heap.size w w24) := ⟨by rw [← hq_]; exact (by repeat (first | (with_reducible first | exact HB.out | apply below_alloc | apply pw_below_drewN | apply below_drew1 | refine below_set ?_ GE310.out) | exact HB.out))⟩; clear BK310 HB hq_; have BK310 := n0_; have HB := n1_; clear n0_ n1_)); have hcz25_0 := czZ BK310 0 (.bool false); have hcz25_1 := czZ BK310 1 (.int .i64 0); have hcz25_2 := czZ BK310 2 (.int .i64 0); have hcz25_3 := czZ BK310 3 (.int .i64 0); have hcz25_4 := czZ BK310 4 (.int .i64 0); have hcz25_5 := czZ BK310 5 (.int .i64 0); have hfz25_0 := blk_frozen BK310.out 0; have hfz25_1 := blk_frozen BK310.out 1; have hfz25_2 := blk_frozen BK310.out 2; have hfz25_3 := blk_frozen BK310.out 3; have hfz25_4 := blk_frozen BK310.out 4; have hfz25_5 := blk_frozen BK310.out 5))
  refine bodyPost_ret (results_ct rfl _ _ gb310 25 #[.bool false, .int .i64 0, .int .i64 0, .int .i64 0, .int .i64 0, .int .i64 0] (0, 0) _ rfl (by (with_reducible repeat first | apply blk_drewN | apply blk_drew | apply blk_alloc); refine blk_put (cs := #[.bool false, .int .i64 0, .int .i64 0, .int .i64 0, .int .i64 0, .int .i64 0]) ?_ 5 _ rfl; (with_reducible repeat first | apply blk_drewN | apply blk_drew | apply blk_alloc); refine blk_put (cs := #[.bool false, .int .i64 0, .int .i64 0, .int .i64 0, .int .i64 0, .int .i64 0]) ?_ 4 _ rfl; (with_reducible repeat first | apply blk_drewN | apply blk_drew | apply blk_alloc); refine blk_put (cs := #[.bool false, .int .i64 0, .int .i64 0, .int .i64 0, .int .i64 0, .int .i64 0]) ?_ 3 _ rfl; (with_reducible repeat first | apply blk_drewN | apply blk_drew | apply blk_alloc); refine blk_put (cs := #[.bool false, .int .i64 0, .int .i64 0, .int .i64 0, .int .i64 0, .int .i64 0]) ?_ 2 _ rfl; (with_reducible repeat first | apply blk_drewN | apply blk_drew | apply blk_alloc); refine blk_put (cs := #[.bool false, .int .i64 0, .int .i64 0, .int .i64 0, .int .i64 0, .int .i64 0]) ?_ 1 _ rfl; (with_reducible repeat first | apply blk_drewN | apply blk_drew | apply blk_alloc); refine blk_put (cs := #[.bool false, .int .i64 0, .int .i64 0, .int .i64 0, .int .i64 0, .int .i64 0]) ?_ 0 _ rfl; (with_reducible repeat first | apply blk_drewN | apply blk_drew | apply blk_alloc); exact BK310.out) Tryz.underlying25 rfl (by kernel_rfl)) rfl ?_; exact ⟨by first | rfl | (simp [errW_none, errW_some] <;> rfl) | (simp [*, errW_none, errW_some] <;> rfl), by repeat (first | (with_reducible first | exact HB.out | apply below_alloc | apply pw_below_drewN | apply below_drew1 | refine below_set ?_ GE310.out) | exact HB.out)⟩

/-! ### epoch_BeginS: pure, behind function 7 -/
section
open Go.Proofs.YtfahbgkoldoflaaGreatDoor.Sp
noncomputable def epoch_BeginS.f (s : Int) (f : Int) (m : Int) : Option (Bool × Int × Int × Int × Int × Int × Int) := need ((I s) ∧ (I f) ∧ (I m)) (some (beginQ s f m))
theorem epoch_BeginS.eq {s : Int} {f : Int} {m : Int} (h1 : I s) (h2 : I f) (h3 : I m) : epoch_BeginS.f s f m = some (beginQ s f m) := need_pos ⟨h1, h2, h3⟩
theorem epoch_Begin.main {s : Int} {f : Int} {m : Int} (h1 : I s) (h2 : I f) (h3 : I m) : epoch_Begin.f s f m = some (beginQ s f m) := by
 unfold epoch_Begin.f epoch_time.f beginQ
 rw [epoch_windowS.eq, epoch_windowS.eq]
 have e : mx m f = max2 m f := rfl
 rw [e]
 simp only [Option.bind_some]
 by_cases h : 0 ≤ s ∧ s ≤ 1099511627776 ∧ 0 ≤ f ∧ f ≤ 68719476736 ∧ 0 ≤ m ∧ m ≤ 68719476736
 ·have b : f ≤ max2 m f ∧ max2 m f ≤ 68719476736 := by unfold max2; split <;> omega
  have wf : winOk f = true := by unfold winOk; exact decide_eq_true (by omega)
  have wm : winOk m = true := by unfold winOk; exact decide_eq_true (by omega)
  rw [if_pos h, if_pos (show s ≥ 0 from h.1), decide_eq_true h.2.1, wf, wm, w64 (x := max2 m f - f) (by omega), epoch_K.eq (by omega)]
  rfl
 ·rw [if_neg h]
  by_cases c1 : s ≥ 0
  ·rw [if_pos c1]
   by_cases c2 : s ≤ 1099511627776
   ·rw [decide_eq_true c2]
    cases wf : winOk f
    ·rfl
    ·cases wm : winOk m
     ·rfl
     ·unfold winOk at wf wm
      have x := of_decide_eq_true wf; have y := of_decide_eq_true wm; exact absurd ⟨c1, c2, x.1, x.2, y.1, y.2⟩ h
   ·rw [decide_eq_false c2]; rfl
  ·rw [if_neg c1]; rfl
end
theorem epoch_BeginS.calls (a0 : Int) (a1 : Int) (a2 : Int) (r1 : Bool) (r2 : Int) (r3 : Int) (r4 : Int) (r5 : Int) (r6 : Int) (r7 : Int) (w : World) (h : epoch_BeginS.f a0 a1 a2 = some (r1, r2, r3, r4, r5, r6, r7)) (hL : Tens w) :
  Calls Tryz.prog 7 #[.int .i64 a0, .int .i64 a1, .int .i64 a2] w fun e w' => e = .returned (.tuple #[.agg #[.bool r1, .int .i64 r2, .int .i64 r3, .int .i64 r4, .int .i64 r5, .int .i64 r6], .int .i64 r7]) ∧ Below w.heap.size w w' := by
 obtain ⟨hc, h⟩ := Sp.need_some h; obtain ⟨h1, h2, h3⟩ := hc; exact epoch_Begin.calls a0 a1 a2 r1 r2 r3 r4 r5 r6 r7 w (by rw [epoch_Begin.main h1 h2 h3]; exact h) hL

/-! ### epoch_Check: function 53 -/
noncomputable def epoch_Check.f (a0_0 : Bool) (a0_1 : Int) (a0_2 : Int) (a0_3 : Int) (a0_4 : Int) (a0_5 : Int) : Option (Bool) := if a0_0 = true then ((epoch_BeginS.f a0_1 a0_2 a0_3).bind fun bt316 => (if bt316.2.2.2.2.2.2 = 0 then ((epoch_windowS.f a0_5).bind fun t324 => (if t324 = true then (some (a0_0 == bt316.1 && (a0_1 == bt316.2.1 && (a0_2 == bt316.2.2.1 && (a0_3 == bt316.2.2.2.1 && (a0_4 == bt316.2.2.2.2.1)))))) else (some false))) else (some false))) else (some (!a0_0 && (a0_1 == 0 && (a0_2 == 0 && (a0_3 == 0 && (a0_4 == 0 && (a0_5 == 0)))))))
set_option maxHeartbeats 8000000 in
set_option maxRecDepth 100000 in
theorem epoch_Check.calls (a0_0 : Bool) (a0_1 : Int) (a0_2 : Int) (a0_3 : Int) (a0_4 : Int) (a0_5 : Int) (r : Bool) (w : World) (h : epoch_Check.f a0_0 a0_1 a0_2 a0_3 a0_4 a0_5 = some r) (hL : Tens w) :
  Calls Tryz.prog 53 #[.agg #[.bool a0_0, .int .i64 a0_1, .int .i64 a0_2, .int .i64 a0_3, .int .i64 a0_4, .int .i64 a0_5]] w fun e w' => e = .returned (.bool r) ∧ Below w.heap.size w w' := by
 have hu25 := Tryz.underlying25; have HB := Aside0.mk (Below.refl w.heap.size w); have H : (if a0_0 = true then ((epoch_BeginS.f a0_1 a0_2 a0_3).bind fun bt316 => (if bt316.2.2.2.2.2.2 = 0 then ((epoch_windowS.f a0_5).bind fun t324 => (if t324 = true then (some (a0_0 == bt316.1 && (a0_1 == bt316.2.1 && (a0_2 == bt316.2.2.1 && (a0_3 == bt316.2.2.2.1 && (a0_4 == bt316.2.2.2.2.1)))))) else (some false))) else (some false))) else (some (!a0_0 && (a0_1 == 0 && (a0_2 == 0 && (a0_3 == 0 && (a0_4 == 0 && (a0_5 == 0)))))))) = some r := h; clear h
 by_cases c2 : a0_0 = true
 ·subst c2
  have H1 : ((epoch_BeginS.f a0_1 a0_2 a0_3).bind fun bt316 => (if bt316.2.2.2.2.2.2 = 0 then ((epoch_windowS.f a0_5).bind fun t324 => (if t324 = true then (some (true == bt316.1 && (a0_1 == bt316.2.1 && (a0_2 == bt316.2.2.1 && (a0_3 == bt316.2.2.2.1 && (a0_4 == bt316.2.2.2.2.1)))))) else (some false))) else (some false))) = some r := by rw [if_pos rfl] at H; exact H
  clear H; have H := H1; clear H1; replace H := Option.bind_eq_some_iff.mp H; obtain ⟨⟨t316, t317, t318, t319, t320, t321, t322⟩, A30, H⟩ := H; (try dsimp only at H); have A3 := Aside0.mk A30; clear A30
  by_cases c4 : t322 = 0
  ·rw [if_pos c4] at H
   have c4b0 : (t322 == 0) = true := beq_iff_eq.mpr c4; have c4b1 : (t322 != 0) = false := bne_eq_false_iff_eq.mpr c4; clear c4; replace H := Option.bind_eq_some_iff.mp H; obtain ⟨t324, A50, H⟩ := H; replace H : (if t324 = true then (some (true == t316 && (a0_1 == t317 && (a0_2 == t318 && (a0_3 == t319 && (a0_4 == t320)))))) else (some false)) = some r := H; have A5 := Aside0.mk A50; clear A50
   by_cases c6 : t324 = true
   ·subst c6
    have H1 : (some (true == t316 && (a0_1 == t317 && (a0_2 == t318 && (a0_3 == t319 && (a0_4 == t320)))))) = some r := by rw [if_pos rfl] at H; exact H
    clear H; have H := H1; clear H1; obtain rfl := Option.some.inj H
    go_enter Tryz.func53, Tryz.ntmps53
    go_wp2_with (first | ((with_reducible refine gate_dst (N := 1) rfl ?_); refine box_event ?hg (N := 1) ?hd (cs := #[.bool true, .int .i64 a0_1, .int .i64 a0_2, .int .i64 a0_3, .int .i64 a0_4, .int .i64 a0_5]) (t := 25) ?hr ?_; (case hd => rfl); (case hg => rfl); (case hr => first | (go_simp; done) | (go_simp; rfl)); intro gb315 hg w7 hbox hb; have BK315 := Aside0.mk (hbox); obtain ⟨GW315, nHB⟩ := geA hg hb; have GE315 := GW315; replace HB := nHB; clear nHB; clear hb hbox hg; have hcz8_0 := czZ BK315 0 (.bool true); have hcz8_1 := czZ BK315 1 (.int .i64 a0_1); have hcz8_2 := czZ BK315 2 (.int .i64 a0_2); have hcz8_3 := czZ BK315 3 (.int .i64 a0_3); have hcz8_4 := czZ BK315 4 (.int .i64 a0_4); have hcz8_5 := czZ BK315 5 (.int .i64 a0_5); have hfz8_0 := blk_frozen BK315.out 0; have hfz8_1 := blk_frozen BK315.out 1; have hfz8_2 := blk_frozen BK315.out 2; have hfz8_3 := blk_frozen BK315.out 3; have hfz8_4 := blk_frozen BK315.out 4; have hfz8_5 := blk_frozen BK315.out 5) | ((with_reducible refine gate_callee (f := 7) rfl ?_); refine goesLA_ (some 18) rfl rfl Tryz.func7 rfl #[.int .i64 a0_1, .int .i64 a0_2, .int .i64 a0_3] rfl ?_; (with_reducible refine (epoch_BeginS.calls a0_1 a0_2 a0_3 t316 t317 t318 t319 t320 t321 t322 _ A3.out ?hT_).mono ?_); (case hT_ => exact tensB hL (by repeat (first | (with_reducible first | exact HB.out | apply below_alloc | apply pw_below_drewN | apply below_drew1 | refine below_set ?_ (Aside0.out (by assumption))) | exact HB.out))); rintro e w9 ⟨rfl, hb⟩; refine ⟨_, rfl, ?_⟩; replace BK315 := bdZ BK315 hb; replace HB := stA hb; clear hb) | ((with_reducible refine gate_dst (N := 3) rfl ?_); refine box_event ?hg (N := 3) ?hd (cs := #[.bool false, .int .i64 0, .int .i64 0, .int .i64 0, .int .i64 0, .int .i64 0]) (t := 25) ?hr ?_; (case hd => rfl); (case hg => rfl); (case hr => first | (go_simp; done) | (go_simp; rfl)); intro gb323 hg w10 hbox hb; have BK323 := Aside0.mk (hbox); obtain ⟨GW323, nHB⟩ := geA hg hb; have GE323 := GW323; obtain ⟨NB315_323, NB323_315, nBK⟩ := nbA BK315 hg hb; replace BK315 := nBK; clear nBK; replace HB := nHB; clear nHB; clear hb hbox hg; have hnb11 := NB323_315.out; have hnc11 := NB315_323.out; have hcz12_0 := czZ BK323 0 (.bool false); have hcz12_1 := czZ BK323 1 (.int .i64 0); have hcz12_2 := czZ BK323 2 (.int .i64 0); have hcz12_3 := czZ BK323 3 (.int .i64 0); have hcz12_4 := czZ BK323 4 (.int .i64 0); have hcz12_5 := czZ BK323 5 (.int .i64 0); have hfz12_0 := blk_frozen BK323.out 0; have hfz12_1 := blk_frozen BK323.out 1; have hfz12_2 := blk_frozen BK323.out 2; have hfz12_3 := blk_frozen BK323.out 3; have hfz12_4 := blk_frozen BK323.out 4; have hfz12_5 := blk_frozen BK323.out 5; have hcz13_0 := czZ BK315 0 (.bool true); have hcz13_1 := czZ BK315 1 (.int .i64 a0_1); have hcz13_2 := czZ BK315 2 (.int .i64 a0_2); have hcz13_3 := czZ BK315 3 (.int .i64 a0_3); have hcz13_4 := czZ BK315 4 (.int .i64 a0_4); have hcz13_5 := czZ BK315 5 (.int .i64 a0_5); have hfz13_0 := blk_frozen BK315.out 0; have hfz13_1 := blk_frozen BK315.out 1; have hfz13_2 := blk_frozen BK315.out 2; have hfz13_3 := blk_frozen BK315.out 3; have hfz13_4 := blk_frozen BK315.out 4; have hfz13_5 := blk_frozen BK315.out 5) | (go_at_call 18; (with_reducible refine (epoch_windowS.calls a0_5 true _ A5.out).mono ?_); rintro e w14 ⟨rfl, hb⟩; replace BK315 := bfZ BK315 (fun h_ => by (with_reducible repeat first | apply blk_drewN | apply blk_drew | apply blk_alloc | refine farZ ?_ NB315_323 _); exact h_) hb; replace BK323 := Aside0.mk (blk_below (g := gb323) (o := .cells #[.bool t316, .int .i64 t317, .int .i64 t318, .int .i64 t319, .int .i64 t320, .int .i64 a0_5] 25 (0, 0)) (by (with_reducible repeat first | apply blk_drewN | apply blk_drew | apply blk_alloc); refine blk_put (cs := #[.bool t316, .int .i64 t317, .int .i64 t318, .int .i64 t319, .int .i64 t320, .int .i64 t321]) ?_ 5 _ rfl; (with_reducible repeat first | apply blk_drewN | apply blk_drew | apply blk_alloc); refine blk_put (cs := #[.bool t316, .int .i64 t317, .int .i64 t318, .int .i64 t319, .int .i64 t320, .int .i64 0]) ?_ 5 _ rfl; (with_reducible repeat first | apply blk_drewN | apply blk_drew | apply blk_alloc); refine blk_put (cs := #[.bool t316, .int .i64 t317, .int .i64 t318, .int .i64 t319, .int .i64 0, .int .i64 0]) ?_ 4 _ rfl; (with_reducible repeat first | apply blk_drewN | apply blk_drew | apply blk_alloc); refine blk_put (cs := #[.bool t316, .int .i64 t317, .int .i64 t318, .int .i64 0, .int .i64 0, .int .i64 0]) ?_ 3 _ rfl; (with_reducible repeat first | apply blk_drewN | apply blk_drew | apply blk_alloc); refine blk_put (cs := #[.bool t316, .int .i64 t317, .int .i64 0, .int .i64 0, .int .i64 0, .int .i64 0]) ?_ 2 _ rfl; (with_reducible repeat first | apply blk_drewN | apply blk_drew | apply blk_alloc); refine blk_put (cs := #[.bool t316, .int .i64 0, .int .i64 0, .int .i64 0, .int .i64 0, .int .i64 0]) ?_ 1 _ rfl; (with_reducible repeat first | apply blk_drewN | apply blk_drew | apply blk_alloc); refine blk_put (cs := #[.bool false, .int .i64 0, .int .i64 0, .int .i64 0, .int .i64 0, .int .i64 0]) ?_ 0 _ rfl; (with_reducible repeat first | apply blk_drewN | apply blk_drew | apply blk_alloc); exact BK323.out) hb); replace HB := stA hb; clear hb; have hcz15_0 := czZ BK315 0 (.bool true); have hcz15_1 := czZ BK315 1 (.int .i64 a0_1); have hcz15_2 := czZ BK315 2 (.int .i64 a0_2); have hcz15_3 := czZ BK315 3 (.int .i64 a0_3); have hcz15_4 := czZ BK315 4 (.int .i64 a0_4); have hcz15_5 := czZ BK315 5 (.int .i64 a0_5); have hfz15_0 := blk_frozen BK315.out 0; have hfz15_1 := blk_frozen BK315.out 1; have hfz15_2 := blk_frozen BK315.out 2; have hfz15_3 := blk_frozen BK315.out 3; have hfz15_4 := blk_frozen BK315.out 4; have hfz15_5 := blk_frozen BK315.out 5; have hcz16_0 := czZ BK323 0 (.bool t316); have hcz16_1 := czZ BK323 1 (.int .i64 t317); have hcz16_2 := czZ BK323 2 (.int .i64 t318); have hcz16_3 := czZ BK323 3 (.int .i64 t319); have hcz16_4 := czZ BK323 4 (.int .i64 t320); have hcz16_5 := czZ BK323 5 (.int .i64 a0_5); have hfz16_0 := blk_frozen BK323.out 0; have hfz16_1 := blk_frozen BK323.out 1; have hfz16_2 := blk_frozen BK323.out 2; have hfz16_3 := blk_frozen BK323.out 3; have hfz16_4 := blk_frozen BK323.out 4; have hfz16_5 := blk_frozen BK323.out 5))
    go_ret
    exact ⟨by first | rfl | (simp [errW_none, errW_some] <;> rfl) | (simp [*, errW_none, errW_some] <;> rfl), by repeat (first | (with_reducible first | exact HB.out | apply below_alloc | apply pw_below_drewN | apply below_drew1 | refine below_set ?_ (Aside0.out (by assumption))) | exact HB.out)⟩
   ·replace c6 := Bool.eq_false_iff.mpr c6
    subst c6
    have H1 : (some false) = some r := by rw [if_neg (show ¬ (false = true) by decide)] at H; exact H
    clear H; have H := H1; clear H1; obtain rfl := Option.some.inj H
    go_enter Tryz.func53, Tryz.ntmps53
    go_wp2_with (first | ((with_reducible refine gate_dst (N := 1) rfl ?_); refine box_event ?hg (N := 1) ?hd (cs := #[.bool true, .int .i64 a0_1, .int .i64 a0_2, .int .i64 a0_3, .int .i64 a0_4, .int .i64 a0_5]) (t := 25) ?hr ?_; (case hd => rfl); (case hg => rfl); (case hr => first | (go_simp; done) | (go_simp; rfl)); intro gb315 hg w17 hbox hb; have BK315 := Aside0.mk (hbox); obtain ⟨GW315, nHB⟩ := geA hg hb; have GE315 := GW315; replace HB := nHB; clear nHB; clear hb hbox hg; have hcz18_0 := czZ BK315 0 (.bool true); have hcz18_1 := czZ BK315 1 (.int .i64 a0_1); have hcz18_2 := czZ BK315 2 (.int .i64 a0_2); have hcz18_3 := czZ BK315 3 (.int .i64 a0_3); have hcz18_4 := czZ BK315 4 (.int .i64 a0_4); have hcz18_5 := czZ BK315 5 (.int .i64 a0_5); have hfz18_0 := blk_frozen BK315.out 0; have hfz18_1 := blk_frozen BK315.out 1; have hfz18_2 := blk_frozen BK315.out 2; have hfz18_3 := blk_frozen BK315.out 3; have hfz18_4 := blk_frozen BK315.out 4; have hfz18_5 := blk_frozen BK315.out 5) | ((with_reducible refine gate_callee (f := 7) rfl ?_); refine goesLA_ (some 18) rfl rfl Tryz.func7 rfl #[.int .i64 a0_1, .int .i64 a0_2, .int .i64 a0_3] rfl ?_; (with_reducible refine (epoch_BeginS.calls a0_1 a0_2 a0_3 t316 t317 t318 t319 t320 t321 t322 _ A3.out ?hT_).mono ?_); (case hT_ => exact tensB hL (by repeat (first | (with_reducible first | exact HB.out | apply below_alloc | apply pw_below_drewN | apply below_drew1 | refine below_set ?_ (Aside0.out (by assumption))) | exact HB.out))); rintro e w19 ⟨rfl, hb⟩; refine ⟨_, rfl, ?_⟩; replace BK315 := bdZ BK315 hb; replace HB := stA hb; clear hb) | ((with_reducible refine gate_dst (N := 3) rfl ?_); refine box_event ?hg (N := 3) ?hd (cs := #[.bool false, .int .i64 0, .int .i64 0, .int .i64 0, .int .i64 0, .int .i64 0]) (t := 25) ?hr ?_; (case hd => rfl); (case hg => rfl); (case hr => first | (go_simp; done) | (go_simp; rfl)); intro gb323 hg w20 hbox hb; have BK323 := Aside0.mk (hbox); obtain ⟨GW323, nHB⟩ := geA hg hb; have GE323 := GW323; obtain ⟨NB315_323, NB323_315, nBK⟩ := nbA BK315 hg hb; replace BK315 := nBK; clear nBK; replace HB := nHB; clear nHB; clear hb hbox hg; have hnb21 := NB323_315.out; have hnc21 := NB315_323.out; have hcz22_0 := czZ BK323 0 (.bool false); have hcz22_1 := czZ BK323 1 (.int .i64 0); have hcz22_2 := czZ BK323 2 (.int .i64 0); have hcz22_3 := czZ BK323 3 (.int .i64 0); have hcz22_4 := czZ BK323 4 (.int .i64 0); have hcz22_5 := czZ BK323 5 (.int .i64 0); have hfz22_0 := blk_frozen BK323.out 0; have hfz22_1 := blk_frozen BK323.out 1; have hfz22_2 := blk_frozen BK323.out 2; have hfz22_3 := blk_frozen BK323.out 3; have hfz22_4 := blk_frozen BK323.out 4; have hfz22_5 := blk_frozen BK323.out 5; have hcz23_0 := czZ BK315 0 (.bool true); have hcz23_1 := czZ BK315 1 (.int .i64 a0_1); have hcz23_2 := czZ BK315 2 (.int .i64 a0_2); have hcz23_3 := czZ BK315 3 (.int .i64 a0_3); have hcz23_4 := czZ BK315 4 (.int .i64 a0_4); have hcz23_5 := czZ BK315 5 (.int .i64 a0_5); have hfz23_0 := blk_frozen BK315.out 0; have hfz23_1 := blk_frozen BK315.out 1; have hfz23_2 := blk_frozen BK315.out 2; have hfz23_3 := blk_frozen BK315.out 3; have hfz23_4 := blk_frozen BK315.out 4; have hfz23_5 := blk_frozen BK315.out 5) | (go_at_call 18; (with_reducible refine (epoch_windowS.calls a0_5 false _ A5.out).mono ?_); rintro e w24 ⟨rfl, hb⟩; replace BK315 := bfZ BK315 (fun h_ => by (with_reducible repeat first | apply blk_drewN | apply blk_drew | apply blk_alloc | refine farZ ?_ NB315_323 _); exact h_) hb; replace BK323 := Aside0.mk (blk_below (g := gb323) (o := .cells #[.bool t316, .int .i64 t317, .int .i64 t318, .int .i64 t319, .int .i64 t320, .int .i64 a0_5] 25 (0, 0)) (by (with_reducible repeat first | apply blk_drewN | apply blk_drew | apply blk_alloc); refine blk_put (cs := #[.bool t316, .int .i64 t317, .int .i64 t318, .int .i64 t319, .int .i64 t320, .int .i64 t321]) ?_ 5 _ rfl; (with_reducible repeat first | apply blk_drewN | apply blk_drew | apply blk_alloc); refine blk_put (cs := #[.bool t316, .int .i64 t317, .int .i64 t318, .int .i64 t319, .int .i64 t320, .int .i64 0]) ?_ 5 _ rfl; (with_reducible repeat first | apply blk_drewN | apply blk_drew | apply blk_alloc); refine blk_put (cs := #[.bool t316, .int .i64 t317, .int .i64 t318, .int .i64 t319, .int .i64 0, .int .i64 0]) ?_ 4 _ rfl; (with_reducible repeat first | apply blk_drewN | apply blk_drew | apply blk_alloc); refine blk_put (cs := #[.bool t316, .int .i64 t317, .int .i64 t318, .int .i64 0, .int .i64 0, .int .i64 0]) ?_ 3 _ rfl; (with_reducible repeat first | apply blk_drewN | apply blk_drew | apply blk_alloc); refine blk_put (cs := #[.bool t316, .int .i64 t317, .int .i64 0, .int .i64 0, .int .i64 0, .int .i64 0]) ?_ 2 _ rfl; (with_reducible repeat first | apply blk_drewN | apply blk_drew | apply blk_alloc); refine blk_put (cs := #[.bool t316, .int .i64 0, .int .i64 0, .int .i64 0, .int .i64 0, .int .i64 0]) ?_ 1 _ rfl; (with_reducible repeat first | apply blk_drewN | apply blk_drew | apply blk_alloc); refine blk_put (cs := #[.bool false, .int .i64 0, .int .i64 0, .int .i64 0, .int .i64 0, .int .i64 0]) ?_ 0 _ rfl; (with_reducible repeat first | apply blk_drewN | apply blk_drew | apply blk_alloc); exact BK323.out) hb); replace HB := stA hb; clear hb))
    go_ret
    exact ⟨by first | rfl | (simp [errW_none, errW_some] <;> rfl) | (simp [*, errW_none, errW_some] <;> rfl), by repeat (first | (with_reducible first | exact HB.out | apply below_alloc | apply pw_below_drewN | apply below_drew1 | refine below_set ?_ (Aside0.out (by assumption))) | exact HB.out)⟩
  ·rw [if_neg c4] at H
   have c4b0 : (t322 == 0) = false := beq_eq_false_iff_ne.mpr c4; have c4b1 : (t322 != 0) = true := bne_iff_ne.mpr c4; obtain rfl := Option.some.inj H
   go_enter Tryz.func53, Tryz.ntmps53
   go_wp2_with (first | ((with_reducible refine gate_dst (N := 1) rfl ?_); refine box_event ?hg (N := 1) ?hd (cs := #[.bool true, .int .i64 a0_1, .int .i64 a0_2, .int .i64 a0_3, .int .i64 a0_4, .int .i64 a0_5]) (t := 25) ?hr ?_; (case hd => rfl); (case hg => rfl); (case hr => first | (go_simp; done) | (go_simp; rfl)); intro gb315 hg w25 hbox hb; have BK315 := Aside0.mk (hbox); obtain ⟨GW315, nHB⟩ := geA hg hb; have GE315 := GW315; replace HB := nHB; clear nHB; clear hb hbox hg; have hcz26_0 := czZ BK315 0 (.bool true); have hcz26_1 := czZ BK315 1 (.int .i64 a0_1); have hcz26_2 := czZ BK315 2 (.int .i64 a0_2); have hcz26_3 := czZ BK315 3 (.int .i64 a0_3); have hcz26_4 := czZ BK315 4 (.int .i64 a0_4); have hcz26_5 := czZ BK315 5 (.int .i64 a0_5); have hfz26_0 := blk_frozen BK315.out 0; have hfz26_1 := blk_frozen BK315.out 1; have hfz26_2 := blk_frozen BK315.out 2; have hfz26_3 := blk_frozen BK315.out 3; have hfz26_4 := blk_frozen BK315.out 4; have hfz26_5 := blk_frozen BK315.out 5) | ((with_reducible refine gate_callee (f := 7) rfl ?_); refine goesLA_ (some 18) rfl rfl Tryz.func7 rfl #[.int .i64 a0_1, .int .i64 a0_2, .int .i64 a0_3] rfl ?_; (with_reducible refine (epoch_BeginS.calls a0_1 a0_2 a0_3 t316 t317 t318 t319 t320 t321 t322 _ A3.out ?hT_).mono ?_); (case hT_ => exact tensB hL (by repeat (first | (with_reducible first | exact HB.out | apply below_alloc | apply pw_below_drewN | apply below_drew1 | refine below_set ?_ (Aside0.out (by assumption))) | exact HB.out))); rintro e w27 ⟨rfl, hb⟩; refine ⟨_, rfl, ?_⟩; replace BK315 := bdZ BK315 hb; replace HB := stA hb; clear hb) | ((with_reducible refine gate_dst (N := 3) rfl ?_); refine box_event ?hg (N := 3) ?hd (cs := #[.bool false, .int .i64 0, .int .i64 0, .int .i64 0, .int .i64 0, .int .i64 0]) (t := 25) ?hr ?_; (case hd => rfl); (case hg => rfl); (case hr => first | (go_simp; done) | (go_simp; rfl)); intro gb323 hg w28 hbox hb; have BK323 := Aside0.mk (hbox); obtain ⟨GW323, nHB⟩ := geA hg hb; have GE323 := GW323; obtain ⟨NB315_323, NB323_315, nBK⟩ := nbA BK315 hg hb; replace BK315 := nBK; clear nBK; replace HB := nHB; clear nHB; clear hb hbox hg; have hnb29 := NB323_315.out; have hnc29 := NB315_323.out; have hcz30_0 := czZ BK323 0 (.bool false); have hcz30_1 := czZ BK323 1 (.int .i64 0); have hcz30_2 := czZ BK323 2 (.int .i64 0); have hcz30_3 := czZ BK323 3 (.int .i64 0); have hcz30_4 := czZ BK323 4 (.int .i64 0); have hcz30_5 := czZ BK323 5 (.int .i64 0); have hfz30_0 := blk_frozen BK323.out 0; have hfz30_1 := blk_frozen BK323.out 1; have hfz30_2 := blk_frozen BK323.out 2; have hfz30_3 := blk_frozen BK323.out 3; have hfz30_4 := blk_frozen BK323.out 4; have hfz30_5 := blk_frozen BK323.out 5; have hcz31_0 := czZ BK315 0 (.bool true); have hcz31_1 := czZ BK315 1 (.int .i64 a0_1); have hcz31_2 := czZ BK315 2 (.int .i64 a0_2); have hcz31_3 := czZ BK315 3 (.int .i64 a0_3); have hcz31_4 := czZ BK315 4 (.int .i64 a0_4); have hcz31_5 := czZ BK315 5 (.int .i64 a0_5); have hfz31_0 := blk_frozen BK315.out 0; have hfz31_1 := blk_frozen BK315.out 1; have hfz31_2 := blk_frozen BK315.out 2; have hfz31_3 := blk_frozen BK315.out 3; have hfz31_4 := blk_frozen BK315.out 4; have hfz31_5 := blk_frozen BK315.out 5))
   go_ret
   exact ⟨by first | rfl | (simp [errW_none, errW_some] <;> rfl) | (simp [*, errW_none, errW_some] <;> rfl), by repeat (first | (with_reducible first | exact HB.out | apply below_alloc | apply pw_below_drewN | apply below_drew1 | refine below_set ?_ (Aside0.out (by assumption))) | exact HB.out)⟩
 ·replace c2 := Bool.eq_false_iff.mpr c2
  subst c2
  have H1 : (some (!false && (a0_1 == 0 && (a0_2 == 0 && (a0_3 == 0 && (a0_4 == 0 && (a0_5 == 0))))))) = some r := by rw [if_neg (show ¬ (false = true) by decide)] at H; exact H
  clear H; have H := H1; clear H1; obtain rfl := Option.some.inj H
  go_enter Tryz.func53, Tryz.ntmps53
  go_wp2_with (first | ((with_reducible refine gate_dst (N := 1) rfl ?_); refine box_event ?hg (N := 1) ?hd (cs := #[.bool false, .int .i64 a0_1, .int .i64 a0_2, .int .i64 a0_3, .int .i64 a0_4, .int .i64 a0_5]) (t := 25) ?hr ?_; (case hd => rfl); (case hg => rfl); (case hr => first | (go_simp; done) | (go_simp; rfl)); intro gb315 hg w32 hbox hb; have BK315 := Aside0.mk (hbox); obtain ⟨GW315, nHB⟩ := geA hg hb; have GE315 := GW315; replace HB := nHB; clear nHB; clear hb hbox hg; have hcz33_0 := czZ BK315 0 (.bool false); have hcz33_1 := czZ BK315 1 (.int .i64 a0_1); have hcz33_2 := czZ BK315 2 (.int .i64 a0_2); have hcz33_3 := czZ BK315 3 (.int .i64 a0_3); have hcz33_4 := czZ BK315 4 (.int .i64 a0_4); have hcz33_5 := czZ BK315 5 (.int .i64 a0_5); have hfz33_0 := blk_frozen BK315.out 0; have hfz33_1 := blk_frozen BK315.out 1; have hfz33_2 := blk_frozen BK315.out 2; have hfz33_3 := blk_frozen BK315.out 3; have hfz33_4 := blk_frozen BK315.out 4; have hfz33_5 := blk_frozen BK315.out 5))
  go_ret
  exact ⟨by first | rfl | (simp [errW_none, errW_some] <;> rfl) | (simp [*, errW_none, errW_some] <;> rfl), by repeat (first | (with_reducible first | exact HB.out | apply below_alloc | apply pw_below_drewN | apply below_drew1 | refine below_set ?_ GE315.out) | exact HB.out)⟩

/-! ### epoch_CheckS: pure, behind function 53 -/
section
open Go.Proofs.YtfahbgkoldoflaaGreatDoor.Sp
noncomputable def epoch_CheckS.f (on : Bool) (s : Int) (f : Int) (m : Int) (k : Int) (e : Int) : Option (Bool) := need ((I s) ∧ (I f) ∧ (I m)) (some (eOk on s f m k e))
theorem epoch_CheckS.eq {on : Bool} {s : Int} {f : Int} {m : Int} {k : Int} {e : Int} (h1 : I s) (h2 : I f) (h3 : I m) : epoch_CheckS.f on s f m k e = some (eOk on s f m k e) := need_pos ⟨h1, h2, h3⟩
theorem epoch_Check.main {on : Bool} {s : Int} {f : Int} {m : Int} {k : Int} {e : Int} (h1 : I s) (h2 : I f) (h3 : I m) : epoch_Check.f on s f m k e = some (eOk on s f m k e) := by
 unfold epoch_Check.f
 cases on
 ·rw [if_neg (by simp)]
  congr 1
  refine eOk_of (fun x => by cases x) (fun _ => ?_)
  simp
 ·rw [if_pos rfl, epoch_BeginS.eq h1 h2 h3, epoch_windowS.eq]
  simp only [Option.bind_some]
  unfold beginQ winOk
  by_cases c : 0 ≤ s ∧ s ≤ 1099511627776 ∧ 0 ≤ f ∧ f ≤ 68719476736 ∧ 0 ≤ m ∧ m ≤ 68719476736
  ·rw [if_pos c]
   simp only [if_true]
   by_cases c1 : 0 ≤ e ∧ e ≤ 68719476736
   ·rw [if_pos (decide_eq_true c1)]
    congr 1
    refine eOk_of (fun _ => ?_) (fun x => by cases x)
    unfold eOn
    by_cases c3 : f ≤ m
    ·have q : max2 m f = m := by unfold max2; rw [if_neg (by omega)]
     rw [q]; simp; omega
    ·have q : max2 m f = f := by unfold max2; rw [if_pos (by omega)]
     rw [q]; simp; omega
   ·rw [if_neg (show ¬ decide (0 ≤ e ∧ e ≤ 68719476736) = true by rw [decide_eq_true_iff]; exact c1)]
    congr 1
    refine eOk_of (fun _ => ?_) (fun x => by cases x)
    unfold eOn
    simp; omega
  ·rw [if_neg c]
   simp only
   rw [if_neg (by omega)]
   congr 1
   refine eOk_of (fun _ => ?_) (fun x => by cases x)
   unfold eOn
   simp; omega
end
theorem epoch_CheckS.calls (a0_0 : Bool) (a0_1 : Int) (a0_2 : Int) (a0_3 : Int) (a0_4 : Int) (a0_5 : Int) (r : Bool) (w : World) (h : epoch_CheckS.f a0_0 a0_1 a0_2 a0_3 a0_4 a0_5 = some r) (hL : Tens w) :
  Calls Tryz.prog 53 #[.agg #[.bool a0_0, .int .i64 a0_1, .int .i64 a0_2, .int .i64 a0_3, .int .i64 a0_4, .int .i64 a0_5]] w fun e w' => e = .returned (.bool r) ∧ Below w.heap.size w w' := by
 obtain ⟨hc, h⟩ := Sp.need_some h; obtain ⟨h1, h2, h3⟩ := hc; exact epoch_Check.calls a0_0 a0_1 a0_2 a0_3 a0_4 a0_5 r w (by rw [epoch_Check.main h1 h2 h3]; exact h) hL

/-! ### engine_between: function 64 -/
noncomputable def engine_between.f (a0 : Int) (a1 : Int) (a2 : Int) : Option (Bool) := if a0 ≥ a1 then (some (decide (a0 ≤ a2))) else (some false)
set_option maxHeartbeats 8000000 in
set_option maxRecDepth 100000 in
theorem engine_between.calls (a0 : Int) (a1 : Int) (a2 : Int) (r : Bool) (w : World) (h : engine_between.f a0 a1 a2 = some r) :
  Calls Tryz.prog 64 #[.int .i64 a0, .int .i64 a1, .int .i64 a2] w fun e w' => e = .returned (.bool r) ∧ Drawn0 w w' := by
 have H : (if a0 ≥ a1 then (some (decide (a0 ≤ a2))) else (some false)) = some r := h; clear h
 by_cases c4 : a0 ≥ a1
 ·rw [if_pos c4] at H
  have c4b0 : decide (a1 ≤ a0) = true := decide_eq_true c4; clear c4; obtain rfl := Option.some.inj H
  go_enter Tryz.func64, Tryz.ntmps64
  go_wp2
  go_ret
  exact ⟨by first | rfl | (simp; done) | (simp [*]; done), by repeat (first | exact Drawn0.refl _ | apply Drawn0.step)⟩
 ·rw [if_neg c4] at H
  have c4b0 : decide (a1 ≤ a0) = false := decide_eq_false c4; clear c4; obtain rfl := Option.some.inj H
  go_enter Tryz.func64, Tryz.ntmps64
  go_wp2
  go_ret
  exact ⟨by first | rfl | (simp; done) | (simp [*]; done), by repeat (first | exact Drawn0.refl _ | apply Drawn0.step)⟩

/-! ### flight_Check: function 65 -/
noncomputable def flight_Check.f (a0_0 : Int) (a0_1 : Int) (a0_2 : Int) : Option (Bool) := if a0_0 ≥ 0 then (if a0_1 ≥ 0 then (if a0_2 ≥ 0 then (if a0_1 ≤ a0_0 then (some (decide (a0_2 ≤ (wrap64 (a0_0 - a0_1))))) else (some false)) else (some false)) else (some false)) else (some false)
set_option maxHeartbeats 8000000 in
set_option maxRecDepth 100000 in
theorem flight_Check.calls (a0_0 : Int) (a0_1 : Int) (a0_2 : Int) (r : Bool) (w : World) (h : flight_Check.f a0_0 a0_1 a0_2 = some r) :
  Calls Tryz.prog 65 #[.agg #[.int .i64 a0_0, .int .i64 a0_1, .int .i64 a0_2]] w fun e w' => e = .returned (.bool r) ∧ Below w.heap.size w w' := by
 have hu37 := Tryz.underlying37; have HB := Aside0.mk (Below.refl w.heap.size w); have H : (if a0_0 ≥ 0 then (if a0_1 ≥ 0 then (if a0_2 ≥ 0 then (if a0_1 ≤ a0_0 then (some (decide (a0_2 ≤ (wrap64 (a0_0 - a0_1))))) else (some false)) else (some false)) else (some false)) else (some false)) = some r := h; clear h
 by_cases c2 : a0_0 ≥ 0
 ·rw [if_pos c2] at H
  have c2b0 : decide (0 ≤ a0_0) = true := decide_eq_true c2; clear c2
  by_cases c3 : a0_1 ≥ 0
  ·rw [if_pos c3] at H
   have c3b0 : decide (0 ≤ a0_1) = true := decide_eq_true c3; clear c3
   by_cases c4 : a0_2 ≥ 0
   ·rw [if_pos c4] at H
    have c4b0 : decide (0 ≤ a0_2) = true := decide_eq_true c4; clear c4
    by_cases c5 : a0_1 ≤ a0_0
    ·rw [if_pos c5] at H
     have c5b0 : decide (a0_1 ≤ a0_0) = true := decide_eq_true c5; clear c5; obtain rfl := Option.some.inj H
     go_enter Tryz.func65, Tryz.ntmps65
     go_wp2_with (first | ((with_reducible refine gate_dst (N := 1) rfl ?_); refine box_event ?hg (N := 1) ?hd (cs := #[.int .i64 a0_0, .int .i64 a0_1, .int .i64 a0_2]) (t := 37) ?hr ?_; (case hd => rfl); (case hg => rfl); (case hr => first | (go_simp; done) | (go_simp; rfl)); intro gb325 hg w6 hbox hb; have BK325 := Aside0.mk (hbox); obtain ⟨GW325, nHB⟩ := geA hg hb; have GE325 := GW325; replace HB := nHB; clear nHB; clear hb hbox hg; have hcz7_0 := czZ BK325 0 (.int .i64 a0_0); have hcz7_1 := czZ BK325 1 (.int .i64 a0_1); have hcz7_2 := czZ BK325 2 (.int .i64 a0_2); have hfz7_0 := blk_frozen BK325.out 0; have hfz7_1 := blk_frozen BK325.out 1; have hfz7_2 := blk_frozen BK325.out 2))
     go_ret
     exact ⟨by first | rfl | (simp [errW_none, errW_some] <;> rfl) | (simp [*, errW_none, errW_some] <;> rfl), by repeat (first | (with_reducible first | exact HB.out | apply below_alloc | apply pw_below_drewN | apply below_drew1 | refine below_set ?_ GE325.out) | exact HB.out)⟩
    ·rw [if_neg c5] at H
     have c5b0 : decide (a0_1 ≤ a0_0) = false := decide_eq_false c5; clear c5; obtain rfl := Option.some.inj H
     go_enter Tryz.func65, Tryz.ntmps65
     go_wp2_with (first | ((with_reducible refine gate_dst (N := 1) rfl ?_); refine box_event ?hg (N := 1) ?hd (cs := #[.int .i64 a0_0, .int .i64 a0_1, .int .i64 a0_2]) (t := 37) ?hr ?_; (case hd => rfl); (case hg => rfl); (case hr => first | (go_simp; done) | (go_simp; rfl)); intro gb325 hg w8 hbox hb; have BK325 := Aside0.mk (hbox); obtain ⟨GW325, nHB⟩ := geA hg hb; have GE325 := GW325; replace HB := nHB; clear nHB; clear hb hbox hg; have hcz9_0 := czZ BK325 0 (.int .i64 a0_0); have hcz9_1 := czZ BK325 1 (.int .i64 a0_1); have hcz9_2 := czZ BK325 2 (.int .i64 a0_2); have hfz9_0 := blk_frozen BK325.out 0; have hfz9_1 := blk_frozen BK325.out 1; have hfz9_2 := blk_frozen BK325.out 2))
     go_ret
     exact ⟨by first | rfl | (simp [errW_none, errW_some] <;> rfl) | (simp [*, errW_none, errW_some] <;> rfl), by repeat (first | (with_reducible first | exact HB.out | apply below_alloc | apply pw_below_drewN | apply below_drew1 | refine below_set ?_ GE325.out) | exact HB.out)⟩
   ·rw [if_neg c4] at H
    have c4b0 : decide (0 ≤ a0_2) = false := decide_eq_false c4; clear c4; obtain rfl := Option.some.inj H
    go_enter Tryz.func65, Tryz.ntmps65
    go_wp2_with (first | ((with_reducible refine gate_dst (N := 1) rfl ?_); refine box_event ?hg (N := 1) ?hd (cs := #[.int .i64 a0_0, .int .i64 a0_1, .int .i64 a0_2]) (t := 37) ?hr ?_; (case hd => rfl); (case hg => rfl); (case hr => first | (go_simp; done) | (go_simp; rfl)); intro gb325 hg w10 hbox hb; have BK325 := Aside0.mk (hbox); obtain ⟨GW325, nHB⟩ := geA hg hb; have GE325 := GW325; replace HB := nHB; clear nHB; clear hb hbox hg; have hcz11_0 := czZ BK325 0 (.int .i64 a0_0); have hcz11_1 := czZ BK325 1 (.int .i64 a0_1); have hcz11_2 := czZ BK325 2 (.int .i64 a0_2); have hfz11_0 := blk_frozen BK325.out 0; have hfz11_1 := blk_frozen BK325.out 1; have hfz11_2 := blk_frozen BK325.out 2))
    go_ret
    exact ⟨by first | rfl | (simp [errW_none, errW_some] <;> rfl) | (simp [*, errW_none, errW_some] <;> rfl), by repeat (first | (with_reducible first | exact HB.out | apply below_alloc | apply pw_below_drewN | apply below_drew1 | refine below_set ?_ GE325.out) | exact HB.out)⟩
  ·rw [if_neg c3] at H
   have c3b0 : decide (0 ≤ a0_1) = false := decide_eq_false c3; clear c3; obtain rfl := Option.some.inj H
   go_enter Tryz.func65, Tryz.ntmps65
   go_wp2_with (first | ((with_reducible refine gate_dst (N := 1) rfl ?_); refine box_event ?hg (N := 1) ?hd (cs := #[.int .i64 a0_0, .int .i64 a0_1, .int .i64 a0_2]) (t := 37) ?hr ?_; (case hd => rfl); (case hg => rfl); (case hr => first | (go_simp; done) | (go_simp; rfl)); intro gb325 hg w12 hbox hb; have BK325 := Aside0.mk (hbox); obtain ⟨GW325, nHB⟩ := geA hg hb; have GE325 := GW325; replace HB := nHB; clear nHB; clear hb hbox hg; have hcz13_0 := czZ BK325 0 (.int .i64 a0_0); have hcz13_1 := czZ BK325 1 (.int .i64 a0_1); have hcz13_2 := czZ BK325 2 (.int .i64 a0_2); have hfz13_0 := blk_frozen BK325.out 0; have hfz13_1 := blk_frozen BK325.out 1; have hfz13_2 := blk_frozen BK325.out 2))
   go_ret
   exact ⟨by first | rfl | (simp [errW_none, errW_some] <;> rfl) | (simp [*, errW_none, errW_some] <;> rfl), by repeat (first | (with_reducible first | exact HB.out | apply below_alloc | apply pw_below_drewN | apply below_drew1 | refine below_set ?_ GE325.out) | exact HB.out)⟩
 ·rw [if_neg c2] at H
  have c2b0 : decide (0 ≤ a0_0) = false := decide_eq_false c2; clear c2; obtain rfl := Option.some.inj H
  go_enter Tryz.func65, Tryz.ntmps65
  go_wp2_with (first | ((with_reducible refine gate_dst (N := 1) rfl ?_); refine box_event ?hg (N := 1) ?hd (cs := #[.int .i64 a0_0, .int .i64 a0_1, .int .i64 a0_2]) (t := 37) ?hr ?_; (case hd => rfl); (case hg => rfl); (case hr => first | (go_simp; done) | (go_simp; rfl)); intro gb325 hg w14 hbox hb; have BK325 := Aside0.mk (hbox); obtain ⟨GW325, nHB⟩ := geA hg hb; have GE325 := GW325; replace HB := nHB; clear nHB; clear hb hbox hg; have hcz15_0 := czZ BK325 0 (.int .i64 a0_0); have hcz15_1 := czZ BK325 1 (.int .i64 a0_1); have hcz15_2 := czZ BK325 2 (.int .i64 a0_2); have hfz15_0 := blk_frozen BK325.out 0; have hfz15_1 := blk_frozen BK325.out 1; have hfz15_2 := blk_frozen BK325.out 2))
  go_ret
  exact ⟨by first | rfl | (simp [errW_none, errW_some] <;> rfl) | (simp [*, errW_none, errW_some] <;> rfl), by repeat (first | (with_reducible first | exact HB.out | apply below_alloc | apply pw_below_drewN | apply below_drew1 | refine below_set ?_ GE325.out) | exact HB.out)⟩

end Go.Proofs.YtfahbgkoldoflaaGreatDoor.Px
