/- By hand. Conditions: none beside the theorems' own. -/
import Derived.Test.YtfahbgkoldoflaaGreatDoorSpec
import Derived.Test.YtfahbgkoldoflaaGreatDoorPx0
import Derived.Test.YtfahbgkoldoflaaGreatDoorPx26
import Derived.Test.YtfahbgkoldoflaaGreatDoorPx27
namespace Go.Proofs.YtfahbgkoldoflaaGreatDoor.Px
open Go.RowKit Go.Proofs.YtfahbgkoldoflaaGreatDoorW.PrintWords Go.Proofs.YtfahbgkoldoflaaGreatDoorW.PrintLast Go.Proofs.YtfahbgkoldoflaaGreatDoorW.PrintMore
attribute [local go_sem] max2_int min2_int max_two min_two max_three min_three max_four min_four   -- for this text's walks alone
set_option linter.unusedVariables false
set_option linter.unusedSimpArgs false

/-! ### top_hysample: function 137 -/
/-! top: by hand -/
theorem results_row_tmp {fn : Func} {p q : Tmp} {ty : TypeId} {tmps : Array Value} {W : World} {o : Value} (hf : fn.results = #[.cell p ty, .tmp q]) (g : Nat) (t : TypeId) (cs : Array Value) (fs : Array Field) (h6 : tmps.getD p undef = .pointer (some ⟨g, 0, none⟩)) (h7 : tmps.getD q undef = o) (hg : W.heap[g]? = some (.cells cs t (0, 0)))
    (hu : Tryz.prog.underlying ty = some (.struct fs)) (hi : (Tryz.prog.info? ty).map (·.size) = some cs.size) : (results fn tmps).run Tryz.prog W = .ok (.tuple #[.agg cs, o]) W := by
  have h6' : tmps[p]?.getD undef = .pointer (some ⟨g, 0, none⟩) := by simpa using h6
  have h7' : tmps[q]?.getD undef = o := by simpa using h7
  simp [results, hf, h6', h7', asAddr, run_loadVar_row W g t ty cs (0, 0) (.struct fs) hg hu rfl hi]

theorem hystart_zero : hystart_Check.f 0 0 0 false false 0 0 = some true := by
  unfold hystart_Check.f
  exact Sp.need_pos (by unfold hyFine; simp)
set_option maxRecDepth 100000 in
set_option maxHeartbeats 4000000 in
theorem hystart_Sample_first (t : Int) (h1 : 1 ≤ t) (h2 : t ≤ 1073741824) (HC : Aside0 (∀ W : World, Calls Tryz.prog 70 #[.agg #[.int .i64 0, .int .i64 0, .int .i64 0, .bool false, .bool false, .int .i64 0, .int .i64 0]] W fun e w' => e = .returned (.bool true) ∧ Below W.heap.size W w')) (w : World) :
    Calls Tryz.prog 137 #[.agg #[.int .i64 0, .int .i64 0, .int .i64 0, .bool false, .bool false, .int .i64 0, .int .i64 0], .int .i64 t] w fun e w' => e = .returned (.tuple #[.agg #[.int .i64 0, .int .i64 t, .int .i64 1, .bool false, .bool false, .int .i64 0, .int .i64 0], .int .i64 0]) ∧ Below w.heap.size w w' := by
  have HB := Aside0.mk (Below.refl w.heap.size w)
  have hu44 := Tryz.underlying44
  have hu169 := Tryz.underlying169
  have HM : Aside0 (hystart_may.f t = some true) := ⟨by unfold hystart_may.f; rw [if_pos (by omega)]; exact congrArg some (decide_eq_true h2)⟩
  have d1 : decide (t < 1) = false := decide_eq_false (by omega)
  clear h1 h2
  go_enter Tryz.func137, Tryz.ntmps137
  go_upto_region 7 with (first
    | ((with_reducible refine gate_dst (N := 2) rfl ?_); refine box_event ?hg (N := 2) ?hd (cs := #[.int .i64 0, .int .i64 0, .int .i64 0, .bool false, .bool false, .int .i64 0, .int .i64 0]) (t := 44) ?hr ?_; (case hd => rfl); (case hg => rfl); (case hr => first | (go_simp; done) | (go_simp; rfl)); intro b2 hg wb hbox hb; have B2 := Aside0.mk hbox; obtain ⟨G2, nHB⟩ := geA hg hb; replace HB := nHB; clear nHB hg hb hbox)
    | ((with_reducible refine gate_dst (N := 4) rfl ?_); refine box_event ?hg (N := 4) ?hd (cs := #[.int .i64 0, .int .i64 0, .int .i64 0, .bool false, .bool false, .int .i64 0, .int .i64 0]) (t := 44) ?hr ?_; (case hd => rfl); (case hg => rfl); (case hr => first | (go_simp; done) | (go_simp; rfl)); intro b4 hg wb hbox hb; have B4 := Aside0.mk hbox; obtain ⟨G4, nHB⟩ := geA hg hb; obtain ⟨N1, N2, nB⟩ := nbA B2 hg hb; replace B2 := nB; replace HB := nHB; clear nB nHB hg hb hbox; have z0 := czZ B2 0 (.int .i64 0); have z1 := czZ B2 1 (.int .i64 0); have z2 := czZ B2 2 (.int .i64 0); have z3 := czZ B2 3 (.bool false); have z4 := czZ B2 4 (.bool false); have z5 := czZ B2 5 (.int .i64 0); have z6 := czZ B2 6 (.int .i64 0))
    | (go_at_call 70; (with_reducible refine (HC.out _).mono ?_); rintro e w9 ⟨rfl, hb9⟩; clear z0 z1 z2 z3 z4 z5 z6; replace B2 := bbZ B2 hb9; replace B4 := bbZ B4 hb9; replace HB := Aside0.mk (below_step HB.out hb9); clear hb9)
    | (go_at_call 122; (with_reducible refine (hystart_may.calls t true _ HM.out).mono ?_); rintro e w9 ⟨rfl, ⟨nd, rfl⟩⟩; replace B2 := Aside0.mk (blk_drewN B2.out nd); replace B4 := Aside0.mk (blk_drewN B4.out nd); replace HB := Aside0.mk (pw_below_drewN HB.out nd); have z0 := czZ B2 0 (.int .i64 0); have z1 := czZ B2 1 (.int .i64 0); have z2 := czZ B2 2 (.int .i64 0); have z3 := czZ B2 3 (.bool false); have z4 := czZ B2 4 (.bool false); have z5 := czZ B2 5 (.int .i64 0); have z6 := czZ B2 6 (.int .i64 0))
    | ((with_reducible refine gate_dst (N := 6) rfl ?_); refine box_event ?hg (N := 6) ?hd (cs := #[.int .i64 0, .int .i64 0, .int .i64 0, .bool false, .bool false, .int .i64 0, .int .i64 0]) (t := 169) ?hr ?_; (case hd => rfl); (case hg => rfl); (case hr => first | (go_simp; done) | (go_simp; rfl)); intro b6 hg wb hbox hb; have B6 := Aside0.mk hbox; obtain ⟨G6, nHB⟩ := geA hg hb; obtain ⟨N3, N4, nB⟩ := nbA B2 hg hb; replace B2 := nB; obtain ⟨N5, N6, nB⟩ := nbA B4 hg hb; replace B4 := nB; replace HB := nHB; clear nB nHB hg hb hbox; clear z0 z1 z2 z3 z4 z5 z6; have n1 := N5.out; have n2 := N6.out; have y0 := czZ B6 0 (.int .i64 0); have yf0 := blk_frozen B6.out 0; have y1 := czZ B6 1 (.int .i64 0); have yf1 := blk_frozen B6.out 1; have y2 := czZ B6 2 (.int .i64 0); have yf2 := blk_frozen B6.out 2; have y3 := czZ B6 3 (.bool false); have yf3 := blk_frozen B6.out 3; have y4 := czZ B6 4 (.bool false); have yf4 := blk_frozen B6.out 4; have y5 := czZ B6 5 (.int .i64 0); have yf5 := blk_frozen B6.out 5; have y6 := czZ B6 6 (.int .i64 0); have yf6 := blk_frozen B6.out 6; have x0 := czZ B4 0 (.int .i64 0); have xf0 := blk_frozen B4.out 0; have x1 := czZ B4 1 (.int .i64 0); have xf1 := blk_frozen B4.out 1; have x2 := czZ B4 2 (.int .i64 0); have xf2 := blk_frozen B4.out 2; have x3 := czZ B4 3 (.bool false); have xf3 := blk_frozen B4.out 3; have x4 := czZ B4 4 (.bool false); have xf4 := blk_frozen B4.out 4; have x5 := czZ B4 5 (.int .i64 0); have xf5 := blk_frozen B4.out 5; have x6 := czZ B4 6 (.int .i64 0); have xf6 := blk_frozen B4.out 6)
    | fail)
  have pb := (blk_set (blk_set (blk_set (blk_set (blk_set (blk_set (blk_set (blk_set (blk_set B6.out 0 (.int .i64 0)) 1 (.int .i64 0)) 2 (.int .i64 0)) 3 (.bool false)) 4 (.bool false)) 5 (.int .i64 0)) 6 (.int .i64 0)) 1 (.int .i64 t)) 2 (.int .i64 1))
  have pc := (blk_far (p := ⟨b6, 2, none⟩) (blk_far (p := ⟨b6, 1, none⟩) (blk_far (p := ⟨b6, 6, none⟩) (blk_far (p := ⟨b6, 5, none⟩) (blk_far (p := ⟨b6, 4, none⟩) (blk_far (p := ⟨b6, 3, none⟩) (blk_far (p := ⟨b6, 2, none⟩) (blk_far (p := ⟨b6, 1, none⟩) (blk_far (p := ⟨b6, 0, none⟩) B4.out N5.out (.int .i64 0)) N5.out (.int .i64 0)) N5.out (.int .i64 0)) N5.out (.bool false)) N5.out (.bool false)) N5.out (.int .i64 0)) N5.out (.int .i64 0)) N5.out (.int .i64 t)) N5.out (.int .i64 1))
  have pd := (((((((((HB.out.setCell (p := ⟨b6, 0, none⟩) G6.out (.int .i64 0)).setCell (p := ⟨b6, 1, none⟩) G6.out (.int .i64 0)).setCell (p := ⟨b6, 2, none⟩) G6.out (.int .i64 0)).setCell (p := ⟨b6, 3, none⟩) G6.out (.bool false)).setCell (p := ⟨b6, 4, none⟩) G6.out (.bool false)).setCell (p := ⟨b6, 5, none⟩) G6.out (.int .i64 0)).setCell (p := ⟨b6, 6, none⟩) G6.out (.int .i64 0)).setCell (p := ⟨b6, 1, none⟩) G6.out (.int .i64 t)).setCell (p := ⟨b6, 2, none⟩) G6.out (.int .i64 1))
  replace B6 := Aside0.mk pb; replace B4 := Aside0.mk pc; replace HB := Aside0.mk pd
  clear pb pc pd
  generalize (World.setCell (World.setCell (World.setCell (World.setCell (World.setCell (World.setCell (World.setCell (World.setCell (World.setCell wb ⟨b6, 0, none⟩ (.int .i64 0)) ⟨b6, 1, none⟩ (.int .i64 0)) ⟨b6, 2, none⟩ (.int .i64 0)) ⟨b6, 3, none⟩ (.bool false)) ⟨b6, 4, none⟩ (.bool false)) ⟨b6, 5, none⟩ (.int .i64 0)) ⟨b6, 6, none⟩ (.int .i64 0)) ⟨b6, 1, none⟩ (.int .i64 t)) ⟨b6, 2, none⟩ (.int .i64 1)) = wn at B6 B4 HB ⊢
  replace B6 : Aside0 (wn.heap[b6]? = some (Obj.cells #[.int .i64 0, .int .i64 t, .int .i64 1, .bool false, .bool false, .int .i64 0, .int .i64 0] 169 (0, 0))) := B6
  clear y0 y1 y2 y3 y4 y5 y6 yf0 yf1 yf2 yf3 yf4 yf5 yf6; clear x0 x1 x2 x3 x4 x5 x6 xf0 xf1 xf2 xf3 xf4 xf5 xf6
  have y0 := czZ B6 0 (.int .i64 0); have y1 := czZ B6 1 (.int .i64 t); have y2 := czZ B6 2 (.int .i64 1); have y3 := czZ B6 3 (.bool false); have y4 := czZ B6 4 (.bool false); have y5 := czZ B6 5 (.int .i64 0); have y6 := czZ B6 6 (.int .i64 0); have x0 := czZ B4 0 (.int .i64 0); have xf0 := blk_frozen B4.out 0; have x1 := czZ B4 1 (.int .i64 0); have xf1 := blk_frozen B4.out 1; have x2 := czZ B4 2 (.int .i64 0); have xf2 := blk_frozen B4.out 2; have x3 := czZ B4 3 (.bool false); have xf3 := blk_frozen B4.out 3; have x4 := czZ B4 4 (.bool false); have xf4 := blk_frozen B4.out 4; have x5 := czZ B4 5 (.int .i64 0); have xf5 := blk_frozen B4.out 5; have x6 := czZ B4 6 (.int .i64 0); have xf6 := blk_frozen B4.out 6
  go_wp2
  have pf := (blk_set (blk_set (blk_set (blk_set (blk_set (blk_set (blk_set B4.out 0 (.int .i64 0)) 1 (.int .i64 t)) 2 (.int .i64 1)) 3 (.bool false)) 4 (.bool false)) 5 (.int .i64 0)) 6 (.int .i64 0))
  refine bodyPost_ret (results_row_tmp (fn := Tryz.f137) (p := 4) (q := 5) (ty := 44) rfl b4 44 #[.int .i64 0, .int .i64 t, .int .i64 1, .bool false, .bool false, .int .i64 0, .int .i64 0] _ rfl rfl pf hu44 (by kernel_rfl)) rfl ⟨rfl, (((((((HB.out.setCell (p := ⟨b4, 0, none⟩) G4.out (.int .i64 0)).setCell (p := ⟨b4, 1, none⟩) G4.out (.int .i64 t)).setCell (p := ⟨b4, 2, none⟩) G4.out (.int .i64 1)).setCell (p := ⟨b4, 3, none⟩) G4.out (.bool false)).setCell (p := ⟨b4, 4, none⟩) G4.out (.bool false)).setCell (p := ⟨b4, 5, none⟩) G4.out (.int .i64 0)).setCell (p := ⟨b4, 6, none⟩) G4.out (.int .i64 0))⟩

end Go.Proofs.YtfahbgkoldoflaaGreatDoor.Px
