/- Printed by a program of this session (wip/tool/px.py), over the kit's print: for each Go function a Lean function, and the proof that the machine's call answers as that function says. Conditions: none beside what the theorems state. -/
import Derived.Test.YtlcobnngpcabpaaPx0
import Derived.Test.YtlcobnngpcabpaaSpec
namespace Go.Proofs.Ytlcobnngpcabpaa.Px
open Go.RowKit Go.Proofs.YtlcobnngpcabpaaW.PrintWords Go.Proofs.YtlcobnngpcabpaaW.PrintLast Go.Proofs.YtlcobnngpcabpaaW.PrintMore
attribute [local go_sem] max2_int min2_int max_two min_two max_three min_three max_four min_four   -- for this text's walks alone
set_option linter.unusedVariables false
set_option linter.unusedSimpArgs false

/-! ### sawtoothref02_size: function 34 -/
noncomputable def sawtoothref02_size.f (a0 : Int) : Option (Int) := if a0 < 0 then (some (IntKind.u64.wrap ((IntKind.u64.wrap (wrap64 (-(wrap64 (a0 + 1))))) + 1))) else (some (IntKind.u64.wrap (a0)))
set_option maxHeartbeats 8000000 in
set_option maxRecDepth 100000 in
theorem sawtoothref02_size.calls (a0 : Int) (r : Int) (w : World) (h : sawtoothref02_size.f a0 = some r) :
  Calls Try.prog 34 #[.int .i64 a0] w fun e w' => e = .returned (.int .u64 r) ∧ Drawn0 w w' := by
 have H : (if a0 < 0 then (some (IntKind.u64.wrap ((IntKind.u64.wrap (wrap64 (-(wrap64 (a0 + 1))))) + 1))) else (some (IntKind.u64.wrap (a0)))) = some r := h; clear h
 by_cases c2 : a0 < 0
 ·rw [if_pos c2] at H
  have c2b0 : decide (a0 < 0) = true := decide_eq_true c2; clear c2; obtain rfl := Option.some.inj H
  go_enter Try.func34, Try.ntmps34
  go_wp2
  go_ret
  exact ⟨by first | rfl | (simp; done) | (simp [*]; done), by repeat (first | exact Drawn0.refl _ | apply Drawn0.step)⟩
 ·rw [if_neg c2] at H
  have c2b0 : decide (a0 < 0) = false := decide_eq_false c2; clear c2; obtain rfl := Option.some.inj H
  go_enter Try.func34, Try.ntmps34
  go_wp2
  go_ret
  exact ⟨by first | rfl | (simp; done) | (simp [*]; done), by repeat (first | exact Drawn0.refl _ | apply Drawn0.step)⟩

/-! ### sawtoothref02_Of: function 12 -/
noncomputable def sawtoothref02_Of.f (a0 : Int) : Option (Bool × Int × Int) := (sawtoothref02_size.f a0).bind fun t361 => (some (decide (a0 < 0), 0, t361))
set_option maxHeartbeats 8000000 in
set_option maxRecDepth 100000 in
theorem sawtoothref02_Of.calls (a0 : Int) (r1 : Bool) (r2 : Int) (r3 : Int) (w : World) (h : sawtoothref02_Of.f a0 = some (r1, r2, r3)) :
  Calls Try.prog 12 #[.int .i64 a0] w fun e w' => e = .returned (.agg #[.bool r1, .int .u64 r2, .int .u64 r3]) ∧ Below w.heap.size w w' := by
 have hu24 := Try.underlying24; have HB := Aside0.mk (Below.refl w.heap.size w); have H : ((sawtoothref02_size.f a0).bind fun t361 => (some (decide (a0 < 0), 0, t361))) = some (r1, r2, r3) := h; clear h; replace H := Option.bind_eq_some_iff.mp H; obtain ⟨t361, A20, H⟩ := H; replace H : (some (decide (a0 < 0), 0, t361)) = some (r1, r2, r3) := H; have A2 := Aside0.mk A20; clear A20; simp only [Option.some.injEq, Prod.mk.injEq] at H; obtain ⟨rfl, rfl, rfl⟩ := H
 go_enter Try.func12, Try.ntmps12
 go_wp2_with (first | ((with_reducible refine gate_dst (N := 2) rfl ?_); refine box_event ?hg (N := 2) ?hd (cs := #[.bool false, .int .u64 0, .int .u64 0]) (t := 24) ?hr ?_; (case hd => rfl); (case hg => rfl); (case hr => first | (go_simp; done) | (go_simp; rfl)); intro gb360 hg w3 hbox hb; have BK360 := Aside0.mk (hbox); obtain ⟨GW360, nHB⟩ := geA hg hb; have GE360 := GW360; replace HB := nHB; clear nHB; clear hb hbox hg) | ((with_reducible refine gate_callee (f := 34) rfl ?_); refine goesLA_ (some 6) rfl rfl Try.func34 rfl #[.int .i64 a0] rfl ?_; (with_reducible refine (sawtoothref02_size.calls a0 t361 _ A2.out).mono ?_); rintro e w' ⟨rfl, ⟨nd, rfl⟩⟩; refine ⟨_, rfl, ?_⟩; (try (rw [drewN_self w3]; generalize hq_ : World.drewN w3 _ = w3; have n0_ : Aside0 (w3.heap[gb360]? = some (.cells #[.bool false, .int .u64 0, .int .u64 0] 24 (0, 0))) := ⟨by rw [← hq_]; exact (by (with_reducible repeat first | apply blk_drewN | apply blk_drew | apply blk_alloc); exact BK360.out)⟩; have n1_ : Aside0 (Below w.heap.size w w3) := ⟨by rw [← hq_]; exact (by repeat (first | (with_reducible first | exact HB.out | apply below_alloc | apply pw_below_drewN | apply below_drew1 | refine below_set ?_ GE360.out) | exact HB.out))⟩; clear BK360 HB hq_; have BK360 := n0_; have HB := n1_; clear n0_ n1_)); have hcz4_0 := czZ BK360 0 (.bool false); have hcz4_1 := czZ BK360 1 (.int .u64 0); have hcz4_2 := czZ BK360 2 (.int .u64 0); have hfz4_0 := blk_frozen BK360.out 0; have hfz4_1 := blk_frozen BK360.out 1; have hfz4_2 := blk_frozen BK360.out 2))
 refine bodyPost_ret (results_cell_row rfl _ _ gb360 24 #[.bool (decide (a0 < 0)), .int .u64 0, .int .u64 t361] (0, 0) _ rfl (by (with_reducible repeat first | apply blk_drewN | apply blk_drew | apply blk_alloc); refine blk_put (cs := #[.bool (decide (a0 < 0)), .int .u64 0, .int .u64 0]) ?_ 2 _ rfl; (with_reducible repeat first | apply blk_drewN | apply blk_drew | apply blk_alloc); refine blk_put (cs := #[.bool (decide (a0 < 0)), .int .u64 0, .int .u64 0]) ?_ 1 _ rfl; (with_reducible repeat first | apply blk_drewN | apply blk_drew | apply blk_alloc); refine blk_put (cs := #[.bool false, .int .u64 0, .int .u64 0]) ?_ 0 _ rfl; (with_reducible repeat first | apply blk_drewN | apply blk_drew | apply blk_alloc); exact BK360.out) Try.underlying24 rfl (by kernel_rfl)) rfl ?_; exact ⟨by first | rfl | (simp [errW_none, errW_some] <;> rfl) | (simp [*, errW_none, errW_some] <;> rfl), by repeat (first | (with_reducible first | exact HB.out | apply below_alloc | apply pw_below_drewN | apply below_drew1 | refine below_set ?_ GE360.out) | exact HB.out)⟩

/-! ### sawtoothref02_OfS: a number: pure, behind function 12 -/
noncomputable def sawtoothref02_OfS.f (a : Int) : Option (Bool × Int × Int) := Go.Proofs.Ytlcobnngpcabpaa.Sp.ofF a
section Ref02Of
open Go.Proofs.Ytlcobnngpcabpaa.Sp
theorem sawtoothref02_size.eq {a : Int} (h : I a) : sawtoothref02_size.f a = some (a.natAbs : Int) := by
 unfold sawtoothref02_size.f
 have e1 : wrap64 (a + 1) = wrap64 (a + 1) := rfl
 by_cases ha : a < 0
 ·rw [if_pos ha, w64 (x := a + 1) (by omega), w64 (x := -(a + 1)) (by omega), u64w, u64w]; congr 1; omega
 ·rw [if_neg ha, u64w]; congr 1; omega
theorem sawtoothref02_Of.main {a : Int} (h : I a) : sawtoothref02_Of.f a = some (encN a, encH a, encL a) := by
 unfold sawtoothref02_Of.f
 rw [sawtoothref02_size.eq h]
 simp only [Option.bind_some]
 have e2 : encH a = 0 := by unfold encH; omega
 have e3 : encL a = (a.natAbs : Int) := by unfold encL; omega
 rw [e2, e3]; rfl
end Ref02Of
theorem sawtoothref02_OfS.calls (a0 : Int) (r1 : Bool) (r2 r3 : Int) (w : World) (h : sawtoothref02_OfS.f a0 = some (r1, r2, r3)) :
  Calls Try.prog 12 #[.int .i64 a0] w fun e w' => e = .returned (.agg #[.bool r1, .int .u64 r2, .int .u64 r3]) ∧ Below w.heap.size w w' := by
 obtain ⟨hc, h⟩ := Go.Proofs.Ytlcobnngpcabpaa.Sp.need_some h; exact sawtoothref02_Of.calls a0 r1 r2 r3 w (by rw [sawtoothref02_Of.main hc]; exact h)

end Go.Proofs.Ytlcobnngpcabpaa.Px
