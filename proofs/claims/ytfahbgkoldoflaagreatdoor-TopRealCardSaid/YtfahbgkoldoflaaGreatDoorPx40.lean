/- Printed by px.py, over the kit's print. Conditions: none beside the theorems' own. -/
import Derived.Test.YtfahbgkoldoflaaGreatDoorPx0
namespace Go.Proofs.YtfahbgkoldoflaaGreatDoor.Px
open Go.RowKit Go.Proofs.YtfahbgkoldoflaaGreatDoorW.PrintWords Go.Proofs.YtfahbgkoldoflaaGreatDoorW.PrintLast Go.Proofs.YtfahbgkoldoflaaGreatDoorW.PrintMore
attribute [local go_sem] max2_int min2_int max_two min_two max_three min_three max_four min_four
set_option linter.unusedVariables false
set_option linter.unusedSimpArgs false

/-! ### rtt_first: function 155 -/
noncomputable def rtt_first.f (a0 : Int) : Option (Bool × Int × Int) := some (true, wrap64 (a0 * 8), wrap64 (Int.tdiv (wrap64 (a0 * 4)) 2))
set_option maxHeartbeats 8000000 in
set_option maxRecDepth 100000 in
theorem rtt_first.calls (a0 : Int) (r1 : Bool) (r2 : Int) (r3 : Int) (w : World) (h : rtt_first.f a0 = some (r1, r2, r3)) :
  Calls Tryz.prog 155 #[.int .i64 a0] w fun e w' => e = .returned (.agg #[.bool r1, .int .i64 r2, .int .i64 r3]) ∧ Below w.heap.size w w' := by
 have hu203 := Tryz.underlying203; have hu39 := Tryz.underlying39; have HB := Aside0.mk (Below.refl w.heap.size w); have H : (some (true, wrap64 (a0 * 8), wrap64 (Int.tdiv (wrap64 (a0 * 4)) 2))) = some (r1, r2, r3) := h; clear h; simp only [Option.some.injEq, Prod.mk.injEq] at H; obtain ⟨rfl, rfl, rfl⟩ := H
 go_enter Tryz.func155, Tryz.ntmps155
 go_wp2_with (first | ((with_reducible refine gate_dst (N := 2) rfl ?_); refine box_event ?hg (N := 2) ?hd (cs := #[.bool false, .int .i64 0, .int .i64 0]) (t := 203) ?hr ?_; (case hd => rfl); (case hg => rfl); (case hr => first | (go_simp; done) | (go_simp; rfl)); intro gb391 hg w2 hbox hb; have BK391 := Aside0.mk (hbox); obtain ⟨GW391, nHB⟩ := geA hg hb; have GE391 := GW391; replace HB := nHB; clear nHB; clear hb hbox hg; have hcz3_0 := czZ BK391 0 (.bool false); have hcz3_1 := czZ BK391 1 (.int .i64 0); have hcz3_2 := czZ BK391 2 (.int .i64 0); have hfz3_0 := blk_frozen BK391.out 0; have hfz3_1 := blk_frozen BK391.out 1; have hfz3_2 := blk_frozen BK391.out 2))
 refine bodyPost_ret (results_cell_row rfl _ _ gb391 203 #[.bool true, .int .i64 (wrap64 (a0 * 8)), .int .i64 (wrap64 (Int.tdiv (wrap64 (a0 * 4)) 2))] (0, 0) _ rfl (by (with_reducible repeat first | apply blk_drewN | apply blk_drew | apply blk_alloc); refine blk_put (cs := #[.bool true, .int .i64 (wrap64 (a0 * 8)), .int .i64 0]) ?_ 2 _ rfl; (with_reducible repeat first | apply blk_drewN | apply blk_drew | apply blk_alloc); refine blk_put (cs := #[.bool true, .int .i64 0, .int .i64 0]) ?_ 1 _ rfl; (with_reducible repeat first | apply blk_drewN | apply blk_drew | apply blk_alloc); refine blk_put (cs := #[.bool false, .int .i64 0, .int .i64 0]) ?_ 0 _ rfl; (with_reducible repeat first | apply blk_drewN | apply blk_drew | apply blk_alloc); exact BK391.out) Tryz.underlying203 rfl (by kernel_rfl)) rfl ?_; exact ⟨by first | rfl | (simp [errW_none, errW_some] <;> rfl) | (simp [*, errW_none, errW_some] <;> rfl), by repeat (first | (with_reducible first | exact HB.out | apply below_alloc | apply pw_below_drewN | apply below_drew1 | refine below_set ?_ GE391.out) | exact HB.out)⟩

end Go.Proofs.YtfahbgkoldoflaaGreatDoor.Px
