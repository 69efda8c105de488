/- By hand. Conditions: none beside the theorems' own. -/
import Derived.Test.YtfahbgkoldoflaaGreatDoorPx0
import Derived.Test.YtfahbgkoldoflaaGreatDoorPx26
namespace Go.Proofs.YtfahbgkoldoflaaGreatDoor.Px
open Go.RowKit Go.Proofs.YtfahbgkoldoflaaGreatDoorW.PrintWords Go.Proofs.YtfahbgkoldoflaaGreatDoorW.PrintLast Go.Proofs.YtfahbgkoldoflaaGreatDoorW.PrintMore
attribute [local go_sem] max2_int min2_int max_two min_two max_three min_three max_four min_four   -- for this text's walks alone
set_option linter.unusedVariables false
set_option linter.unusedSimpArgs false

/-! ### top_round: function 85 -/
/-! top: by hand -/
theorem results_round {fn : Func} {p q r : Tmp} {tmps : Array Value} {W : World} {g : Nat} {x y o b : Value} (hf : fn.results = #[.cell p 42, .tmp q, .tmp r]) (h6 : tmps.getD p undef = .pointer (some ⟨g, 0, none⟩)) (h7 : tmps.getD q undef = o) (h8 : tmps.getD r undef = b) (c0 : W.cell? ⟨g, 0, none⟩ = some x) (c1 : W.cell? ⟨g, 1, none⟩ = some y) : (results fn tmps).run Tryz.prog W = .ok (.tuple #[.agg #[x, y], o, b]) W := by
  have h6' : tmps[p]?.getD undef = .pointer (some ⟨g, 0, none⟩) := by simpa using h6
  have h7' : tmps[q]?.getD undef = o := by simpa using h7
  have h8' : tmps[r]?.getD undef = b := by simpa using h8
  have hu := Tryz.underlying42
  simp [results, hf, h6', h7', h8', asAddr]
  go_simp
set_option maxRecDepth 100000 in
set_option maxHeartbeats 2000000 in
theorem round_Ack_over (id en told sent : Int) (h1 : 0 ≤ id) (h2 : 0 ≤ en) (h3 : 0 ≤ told) (h4 : told ≤ sent) (h5 : ¬ told < en) (h6 : id ≠ 9223372036854775807) (w : World) :
    Calls Tryz.prog 85 #[.agg #[.int .i64 id, .int .i64 en], .int .i64 told, .int .i64 sent] w fun e w' => e = .returned (.tuple #[.agg #[.int .i64 (wrap64 (id + 1)), .int .i64 sent], .bool true, .int .i64 0]) ∧ Below w.heap.size w w' := by
  have HB := Aside0.mk (Below.refl w.heap.size w)
  have hmf : ∀ (fn : Fn) (first cap : Array Value) (w : World), (Instr.makeFunc fn first cap).run Tryz.prog w = .ok (.func fn first cap) w := fun _ _ _ _ => rfl
  have HC : Aside0 (round_Check.f id en = some true) := ⟨by unfold round_Check.f; rw [if_pos h1]; exact congrArg some (decide_eq_true h2)⟩
  have d1 : decide (told < 0) = false := decide_eq_false (by omega)
  have d2 : decide (sent < told) = false := decide_eq_false (by omega)
  have d3 := decide_eq_false h5
  have d4 : (id == 9223372036854775807) = false := beq_eq_false_iff_ne.mpr h6
  clear h5 h6
  clear h1 h2 h3 h4
  go_enter Tryz.func85, Tryz.ntmps85
  go_wp2_with (first
    | ((with_reducible refine gate_dst (N := 3) rfl ?_); refine box_event ?hg (N := 3) ?hd (cs := #[.int .i64 id, .int .i64 en]) (t := 42) ?hr ?_; (case hd => rfl); (case hg => rfl); (case hr => first | (go_simp; done) | (go_simp; rfl)); intro b3 hg wb hbox hb; have B3 := Aside0.mk hbox; obtain ⟨G3, nHB⟩ := geA hg hb; replace HB := nHB; clear nHB hg hb hbox)
    | ((with_reducible refine gate_dst (N := 6) rfl ?_); refine box_event ?hg (N := 6) ?hd (cs := #[.int .i64 0, .int .i64 0]) (t := 42) ?hr ?_; (case hd => rfl); (case hg => rfl); (case hr => first | (go_simp; done) | (go_simp; rfl)); intro b6 hg wb hbox hb; have B6 := Aside0.mk hbox; obtain ⟨G6, nHB⟩ := geA hg hb; obtain ⟨N1, N2, nB3⟩ := nbA B3 hg hb; replace B3 := nB3; replace HB := nHB; clear nB3 nHB hg hb hbox; have n1 := N1.out; have n2 := N2.out; have z0 := czZ B3 0 (.int .i64 id); have z1 := czZ B3 1 (.int .i64 en); have y0 := czZ B6 0 (.int .i64 0); have y1 := czZ B6 1 (.int .i64 0); have f0 := blk_frozen B6.out 0; have f1 := blk_frozen B6.out 1)
    | (go_at_call 69; (with_reducible refine (round_Check.calls id en true _ HC.out).mono ?_); rintro e w9 ⟨rfl, hb9⟩; clear z0 z1 y0 y1 f0 f1; replace B3 := bbZ B3 hb9; replace B6 := bbZ B6 hb9; replace HB := Aside0.mk (below_step HB.out hb9); clear hb9; have z0 := czZ B3 0 (.int .i64 id); have z1 := czZ B3 1 (.int .i64 en); have y0 := czZ B6 0 (.int .i64 0); have y1 := czZ B6 1 (.int .i64 0); have f0 := blk_frozen B6.out 0; have f1 := blk_frozen B6.out 1)
    | (go_at_call 138; (with_reducible refine (round_stay b3 id en _ _ B3.out).mono ?_); rintro e w9 ⟨rfl, hb9⟩; clear z0 z1 y0 y1 f0 f1; replace B3 := bbZ B3 hb9; replace B6 := bbZ B6 hb9; replace HB := Aside0.mk (below_step HB.out hb9); clear hb9; have z0 := czZ B3 0 (.int .i64 id); have z1 := czZ B3 1 (.int .i64 en); have y0 := czZ B6 0 (.int .i64 0); have y1 := czZ B6 1 (.int .i64 0); have f0 := blk_frozen B6.out 0; have f1 := blk_frozen B6.out 1)
    | fail)
  refine bodyPost_ret (results_round (g := b6) (x := .int .i64 (wrap64 (id + 1))) (y := .int .i64 sent) rfl rfl rfl rfl ?_ ?_) rfl ⟨rfl, (by first | exact (HB.out.setCell (p := ⟨b6, 0, none⟩) G6.out _).setCell (p := ⟨b6, 1, none⟩) G6.out _ | (repeat (first | exact HB.out | apply pw_below_drewN | apply below_drew1 | refine below_set ?_ G6.out | exact (below_alloc HB.out _) | apply below_alloc)))⟩
  all_goals go_simp

end Go.Proofs.YtfahbgkoldoflaaGreatDoor.Px
