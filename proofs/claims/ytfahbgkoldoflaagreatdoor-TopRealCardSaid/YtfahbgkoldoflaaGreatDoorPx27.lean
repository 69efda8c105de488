/- By hand. Conditions: none beside the theorems' own. -/
import Derived.Test.YtfahbgkoldoflaaGreatDoorSpec
import Derived.Test.YtfahbgkoldoflaaGreatDoorPx0
import Derived.Test.YtfahbgkoldoflaaGreatDoorPx26
namespace Go.Proofs.YtfahbgkoldoflaaGreatDoor.Px
open Go.RowKit Go.Proofs.YtfahbgkoldoflaaGreatDoorW.PrintWords Go.Proofs.YtfahbgkoldoflaaGreatDoorW.PrintLast Go.Proofs.YtfahbgkoldoflaaGreatDoorW.PrintMore
attribute [local go_sem] max2_int min2_int max_two min_two max_three min_three max_four min_four   -- for this text's walks alone
set_option linter.unusedVariables false
set_option linter.unusedSimpArgs false

/-! ### hystart_Check: function 70 -/
/-! top: by hand -/
/-- Fast slow start, and numbers that may be: of others nothing is said. -/
def hyFine (l0 l1 l2 : Int) (g d : Bool) (b r : Int) : Prop := ((0 ≤ l0 ∧ l0 ≤ 1073741824) ∧ (0 ≤ l1 ∧ l1 ≤ 1073741824) ∧ (0 ≤ l2 ∧ l2 ≤ 8) ∧ (l2 = 0 ↔ l1 = 0)) ∧ g = false ∧ d = false ∧ b = 0 ∧ r = 0
noncomputable def hystart_Check.f (l0 l1 l2 : Int) (g d : Bool) (b r : Int) : Option Bool := Sp.need (hyFine l0 l1 l2 g d b r) (some true)
set_option maxRecDepth 100000 in
set_option maxHeartbeats 4000000 in
theorem hystart_Check.calls (a0_0 a0_1 a0_2 : Int) (a0_3 a0_4 : Bool) (a0_5 a0_6 : Int) (r : Bool) (w : World) (h : hystart_Check.f a0_0 a0_1 a0_2 a0_3 a0_4 a0_5 a0_6 = some r) :
    Calls Tryz.prog 70 #[.agg #[.int .i64 a0_0, .int .i64 a0_1, .int .i64 a0_2, .bool a0_3, .bool a0_4, .int .i64 a0_5, .int .i64 a0_6]] w fun e w' => e = .returned (.bool r) ∧ Below w.heap.size w w' := by
  replace h := Sp.need_some h
  obtain ⟨⟨⟨⟨h1, h2⟩, ⟨h3, h4⟩, ⟨h5, h6⟩, h7⟩, rfl, rfl, rfl, rfl⟩, h⟩ := h
  obtain rfl := Option.some.inj h
  clear h
  obtain ⟨l0, e0⟩ : ∃ x, x = a0_0 := ⟨_, rfl⟩
  obtain ⟨l1, e1⟩ : ∃ x, x = a0_1 := ⟨_, rfl⟩
  obtain ⟨l2, e2⟩ : ∃ x, x = a0_2 := ⟨_, rfl⟩
  subst e0 e1 e2
  have HB := Aside0.mk (Below.refl w.heap.size w)
  have hu44 := Tryz.underlying44
  have hu169 := Tryz.underlying169
  have HP : Aside0 (hystart_state_phase.f l0 l1 l2 false false 0 0 = some 1) := ⟨by simp [hystart_state_phase.f]⟩
  have M0 : Aside0 (hystart_may.f l0 = some true) := ⟨by unfold hystart_may.f; rw [if_pos (by omega)]; exact congrArg some (decide_eq_true h2)⟩
  have M1 : Aside0 (hystart_may.f l1 = some true) := ⟨by unfold hystart_may.f; rw [if_pos (by omega)]; exact congrArg some (decide_eq_true h4)⟩
  have d1 : decide (l2 ≥ 0) = true := decide_eq_true h5
  have d2 : decide (l2 ≤ 8) = true := decide_eq_true h6
  have d3 : ((l2 == 0) == (l1 == 0)) = true := by
    by_cases q : l2 = 0
    · rw [q, h7.1 q]; rfl
    · rw [beq_eq_false_iff_ne.mpr q, beq_eq_false_iff_ne.mpr (fun p => q (h7.2 p))]; rfl
  clear h1 h2 h3 h4 h5 h6 h7
  go_enter Tryz.func70, Tryz.ntmps70
  go_upto_region 2 with (first
    | ((with_reducible refine gate_dst (N := 1) rfl ?_); refine box_event ?hg (N := 1) ?hd (cs := #[.int .i64 l0, .int .i64 l1, .int .i64 l2, .bool false, .bool false, .int .i64 0, .int .i64 0]) (t := 44) ?hr ?_; (case hd => rfl); (case hg => rfl); (case hr => first | (go_simp; done) | (go_simp; rfl)); intro b1 hg wb hbox hb; have B1 := Aside0.mk hbox; obtain ⟨G1, nHB⟩ := geA hg hb; replace HB := nHB; clear nHB; clear hg hb hbox; have z0 := czZ B1 0 (.int .i64 l0); have z1 := czZ B1 1 (.int .i64 l1); have z2 := czZ B1 2 (.int .i64 l2); have z3 := czZ B1 3 (.bool false); have z4 := czZ B1 4 (.bool false); have z5 := czZ B1 5 (.int .i64 0); have z6 := czZ B1 6 (.int .i64 0))
    | ((with_reducible refine gate_dst (N := 3) rfl ?_); refine box_event ?hg (N := 3) ?hd (cs := #[.int .i64 0, .int .i64 0, .int .i64 0, .bool false, .bool false, .int .i64 0, .int .i64 0]) (t := 169) ?hr ?_; (case hd => rfl); (case hg => rfl); (case hr => first | (go_simp; done) | (go_simp; rfl)); intro b3 hg wb hbox hb; have B3 := Aside0.mk hbox; obtain ⟨G3, nHB⟩ := geA hg hb; replace HB := nHB; clear nHB; obtain ⟨N13, M13, nB⟩ := nbA B1 hg hb; replace B1 := nB; clear nB; clear hg hb hbox; clear z0 z1 z2 z3 z4 z5 z6; have n1 := N13.out; have n2 := M13.out; have z0 := czZ B1 0 (.int .i64 l0); have z1 := czZ B1 1 (.int .i64 l1); have z2 := czZ B1 2 (.int .i64 l2); have z3 := czZ B1 3 (.bool false); have z4 := czZ B1 4 (.bool false); have z5 := czZ B1 5 (.int .i64 0); have z6 := czZ B1 6 (.int .i64 0); have y0 := czZ B3 0 (.int .i64 0); have yf0 := blk_frozen B3.out 0; have y1 := czZ B3 1 (.int .i64 0); have yf1 := blk_frozen B3.out 1; have y2 := czZ B3 2 (.int .i64 0); have yf2 := blk_frozen B3.out 2; have y3 := czZ B3 3 (.bool false); have yf3 := blk_frozen B3.out 3; have y4 := czZ B3 4 (.bool false); have yf4 := blk_frozen B3.out 4; have y5 := czZ B3 5 (.int .i64 0); have yf5 := blk_frozen B3.out 5; have y6 := czZ B3 6 (.int .i64 0); have yf6 := blk_frozen B3.out 6)
    | fail)
  have k3 := (blk_set (blk_set (blk_set (blk_set (blk_set (blk_set (blk_set B3.out 0 (.int .i64 l0)) 1 (.int .i64 l1)) 2 (.int .i64 l2)) 3 (.bool false)) 4 (.bool false)) 5 (.int .i64 0)) 6 (.int .i64 0))
  have b1' := (blk_far (p := ⟨b3, 6, none⟩) (blk_far (p := ⟨b3, 5, none⟩) (blk_far (p := ⟨b3, 4, none⟩) (blk_far (p := ⟨b3, 3, none⟩) (blk_far (p := ⟨b3, 2, none⟩) (blk_far (p := ⟨b3, 1, none⟩) (blk_far (p := ⟨b3, 0, none⟩) B1.out N13.out (.int .i64 l0)) N13.out (.int .i64 l1)) N13.out (.int .i64 l2)) N13.out (.bool false)) N13.out (.bool false)) N13.out (.int .i64 0)) N13.out (.int .i64 0))
  have hb' := (((((((HB.out.setCell (p := ⟨b3, 0, none⟩) G3.out (.int .i64 l0)).setCell (p := ⟨b3, 1, none⟩) G3.out (.int .i64 l1)).setCell (p := ⟨b3, 2, none⟩) G3.out (.int .i64 l2)).setCell (p := ⟨b3, 3, none⟩) G3.out (.bool false)).setCell (p := ⟨b3, 4, none⟩) G3.out (.bool false)).setCell (p := ⟨b3, 5, none⟩) G3.out (.int .i64 0)).setCell (p := ⟨b3, 6, none⟩) G3.out (.int .i64 0))
  replace B3 := Aside0.mk k3; replace HB := Aside0.mk hb'
  clear k3 b1' hb' z0 z1 z2 z3 z4 z5 z6 y0 y1 y2 y3 y4 y5 y6 yf0 yf1 yf2 yf3 yf4 yf5 yf6 n1 n2 B1
  generalize (World.setCell (World.setCell (World.setCell (World.setCell (World.setCell (World.setCell (World.setCell wb ⟨b3, 0, none⟩ (.int .i64 l0)) ⟨b3, 1, none⟩ (.int .i64 l1)) ⟨b3, 2, none⟩ (.int .i64 l2)) ⟨b3, 3, none⟩ (.bool false)) ⟨b3, 4, none⟩ (.bool false)) ⟨b3, 5, none⟩ (.int .i64 0)) ⟨b3, 6, none⟩ (.int .i64 0)) = wn at B3 HB ⊢
  replace B3 : Aside0 (wn.heap[b3]? = some (Obj.cells #[.int .i64 l0, .int .i64 l1, .int .i64 l2, .bool false, .bool false, .int .i64 0, .int .i64 0] 169 (0, 0))) := B3
  have z0 := czZ B3 0 (.int .i64 l0); have z1 := czZ B3 1 (.int .i64 l1); have z2 := czZ B3 2 (.int .i64 l2); have z3 := czZ B3 3 (.bool false); have z4 := czZ B3 4 (.bool false); have z5 := czZ B3 5 (.int .i64 0); have z6 := czZ B3 6 (.int .i64 0)
  go_wp2_with (first
    | (go_at_call 121; (with_reducible refine (hystart_state_phase.calls l0 l1 l2 false false 0 0 1 _ HP.out).mono ?_); rintro e wf ⟨rfl, hb⟩; clear z0 z1 z2 z3 z4 z5 z6; replace B3 := bbZ B3 hb; replace HB := Aside0.mk (below_step HB.out hb); clear hb; have z0 := czZ B3 0 (.int .i64 l0); have z1 := czZ B3 1 (.int .i64 l1); have z2 := czZ B3 2 (.int .i64 l2); have z3 := czZ B3 3 (.bool false); have z4 := czZ B3 4 (.bool false); have z5 := czZ B3 5 (.int .i64 0); have z6 := czZ B3 6 (.int .i64 0))
    | (go_at_call 122; (with_reducible refine (hystart_may.calls l0 true _ M0.out).mono ?_); rintro e wf ⟨rfl, ⟨nd, rfl⟩⟩)
    | (go_at_call 122; (with_reducible refine (hystart_may.calls l1 true _ M1.out).mono ?_); rintro e wf ⟨rfl, ⟨ne, rfl⟩⟩)
    | fail)
  go_ret
  exact ⟨rfl, by repeat (first | exact HB.out | apply pw_below_drewN | apply below_drew1)⟩

end Go.Proofs.YtfahbgkoldoflaaGreatDoor.Px
