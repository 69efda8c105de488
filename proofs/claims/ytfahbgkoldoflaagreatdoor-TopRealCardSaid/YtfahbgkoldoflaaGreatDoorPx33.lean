/- By hand. Conditions: none beside the theorems' own. -/
import Derived.Test.YtfahbgkoldoflaaGreatDoorPx0
import Derived.Test.YtfahbgkoldoflaaGreatDoorPx7
import Derived.Test.YtfahbgkoldoflaaGreatDoorPx22
namespace Go.Proofs.YtfahbgkoldoflaaGreatDoor.Px
open Go.RowKit Go.Proofs.YtfahbgkoldoflaaGreatDoorW.PrintWords Go.Proofs.YtfahbgkoldoflaaGreatDoorW.PrintLast Go.Proofs.YtfahbgkoldoflaaGreatDoorW.PrintMore
attribute [local go_sem] max2_int min2_int max_two min_two max_three min_three max_four min_four   -- for this text's walks alone
set_option linter.unusedVariables false
set_option linter.unusedSimpArgs false

/-! ### top_times: function 84 -/
/-! top: by hand -/
set_option maxRecDepth 100000 in
set_option maxHeartbeats 4000000 in
theorem line_times (g : Nat) (s : Ln) (ek ea eb er r2 r3 h1 h2 h3 h6 h7 : Int) (r1 h4 h5 : Bool) (w : World) (hA : LnAt w g s) (c0 : (er == 0) = false)
    (hR : Aside0 (∀ W : World, Calls Tryz.prog 134 #[.agg #[.bool s.has, .int .i64 s.mean, .int .i64 s.far], .int .i64 er] W fun e w' => e = .returned (.tuple #[.agg #[.bool r1, .int .i64 r2, .int .i64 r3], .int .i64 0]) ∧ Below W.heap.size W w')) (hP : Aside0 (∀ W : World, WrB g w W → Calls Tryz.prog 136 #[s.lv, .int .i64 10000000, .int .i64 ea, .int .i64 er] W fun e w' => ∃ A m c, e = .returned (.tuple #[.slice A m c, .int .i64 0]) ∧ Below W.heap.size W w'))
    (hSl : Aside0 (decide (s.win < s.thresh) = true)) (hH : Aside0 (∀ W : World, Calls Tryz.prog 137 #[.agg #[.int .i64 s.hlast, .int .i64 s.hleast, .int .i64 s.hmany, .bool s.hgentle, .bool s.hdone, .int .i64 s.hbase, .int .i64 s.hrounds], .int .i64 er] W fun e w' => e = .returned (.tuple #[.agg #[.int .i64 h1, .int .i64 h2, .int .i64 h3, .bool h4, .bool h5, .int .i64 h6, .int .i64 h7], .int .i64 0]) ∧ Below W.heap.size W w')) :
    Calls Tryz.prog 84 #[.pointer (some ⟨g, 0, none⟩), .agg #[.int .i64 ek, .int .i64 ea, .int .i64 eb, .int .i64 er]] w fun e w' => ∃ A m c, e = .returned (.tuple #[]) ∧ LnAt w' g { s with has := r1, mean := r2, far := r3, lv := .slice A m c, hlast := h1, hleast := h2, hmany := h3, hgentle := h4, hdone := h5, hbase := h6, hrounds := h7 } ∧ WrB g w w' := by
  have HA := Aside0.mk hA
  have HW := Aside0.mk (WrB.refl g w)
  clear hA
  go_enter Tryz.func84, Tryz.ntmps84
  go_upto_region 2 with (first | ((with_reducible refine gate_dst (N := 3) rfl ?_); refine box_event ?hg (N := 3) ?hd (cs := #[.int .i64 ek, .int .i64 ea, .int .i64 eb, .int .i64 er]) (t := 52) ?hr ?_; (case hd => rfl); (case hg => rfl); (case hr => first | (go_simp; done) | (go_simp; rfl)); intro be hg wb hbox hb; have BE := Aside0.mk hbox; obtain ⟨NE, ME, nHA⟩ := nbA (o := .cells s.cells 83 (0, 0)) HA hg hb; replace HA : Aside0 (LnAt wb g s) := nHA; replace HW := Aside0.mk (HW.out.below hb); clear nHA hb hbox hg; have be_3 := czZ BE 3 (.int .i64 er)) | fail)
  clear be_3
  replace HA := Aside0.mk HA.out.drew
  replace HW := Aside0.mk HW.out.drew
  replace BE := Aside0.mk (blk_drew BE.out)
  refine start_ (n := 16) (S := fun w' => w'.cell? ⟨g, 15, none⟩ = some (.bool s.has) ∧ w'.cell? ⟨g, 16, none⟩ = some (.int .i64 s.mean) ∧ w'.cell? ⟨g, 17, none⟩ = some (.int .i64 s.far) ∧ w'.cell? ⟨be, 3, none⟩ = some (.int .i64 er)) (ds := [15]) #[N,N,N,N,N,N,N,N,N,N,N,N,N,N,N,N] (by kernel_rfl) rfl rfl ⟨LnAt.cell HA 15 (.bool s.has), LnAt.cell HA 16 (.int .i64 s.mean), LnAt.cell HA 17 (.int .i64 s.far), czZ BE 3 (.int .i64 er)⟩ (fun hHeld => ?_)
  generalize wb.drew = w1 at HA HW BE hHeld ⊢
  refine pureA_ (i := 0) (N := some 7) #[Y,N,N,N,N,N,N,N,N,N,N,N,N,N,N,N] rfl rfl (by kernel_rfl) ?_
  refine pureA_ (i := 1) (N := some 8) #[Y,Y,N,N,N,N,N,N,N,N,N,N,N,N,N,N] rfl rfl (by kernel_rfl) ?_
  refine pureA_ (i := 2) (N := some 9) #[Y,Y,Y,N,N,N,N,N,N,N,N,N,N,N,N,N] rfl rfl (by kernel_rfl) ?_
  refine pureA_ (i := 3) (N := some 10) #[Y,Y,Y,Y,N,N,N,N,N,N,N,N,N,N,N,N] rfl rfl (by kernel_rfl) ?_
  refine pureA_ (i := 4) (N := some 11) #[Y,Y,Y,Y,Y,N,N,N,N,N,N,N,N,N,N,N] rfl rfl (by kernel_rfl) ?_
  refine take_ (i := 5) (N := some 12) (v := ?_) (a' := ?_) #[Y,Y,Y,Y,Y,Y,N,N,N,N,N,N,N,N,N,N] rfl rfl (by kernel_rfl) (fun _ _ _ h => h) (Or.inl ⟨by rfl, ?_⟩) hHeld ?_ ?_; rotate_left
  · rintro w' ⟨s0, s1, s2, s3⟩; go_simp
    with_reducible rfl
  rotate_left
  · simp only [Act.put, sA, sB, sC, i64_w, i32_w]
    rfl
  refine pureA_ (i := 6) (N := some 13) #[Y,Y,Y,Y,Y,Y,Y,N,N,N,N,N,N,N,N,N] rfl rfl (by kernel_rfl) ?_
  refine take_ (i := 7) (N := some 14) (v := ?_) (a' := ?_) #[Y,Y,Y,Y,Y,Y,Y,Y,N,N,N,N,N,N,N,N] rfl rfl (by kernel_rfl) (fun _ _ _ h => h) (Or.inl ⟨by rfl, ?_⟩) hHeld ?_ ?_; rotate_left
  · rintro w' ⟨s0, s1, s2, s3⟩; go_simp
    with_reducible rfl
  rotate_left
  · simp only [Act.put, sA, sB, sC, i64_w, i32_w]
    rfl
  refine one_ (i := 8) (N := some 15) #[Y,Y,Y,Y,Y,Y,Y,Y,Y,N,N,N,N,N,N,N] rfl rfl (by kernel_rfl) (by decide) (fun K hK => ?_)
  refine goesA_ Tryz.func134 rfl #[.agg #[.bool s.has, .int .i64 s.mean, .int .i64 s.far], .int .i64 er] (by rfl) rfl rfl ?_
  (with_reducible refine (hR.out _).mono ?_); rintro e w2 ⟨rfl, hb⟩; refine ⟨_, rfl, ?_⟩; replace HA := Aside0.mk (HA.out.below hb); replace HW := Aside0.mk (HW.out.below hb); replace BE := bbZ BE hb; clear hb
  refine hK.out _ _ ⟨LnAt.cell HA 15 (.bool s.has), LnAt.cell HA 16 (.int .i64 s.mean), LnAt.cell HA 17 (.int .i64 s.far), czZ BE 3 (.int .i64 er)⟩ (fun hHeld => ?_); clear hK K; refine normA_ (some 15) ?_
  refine pureA_ (i := 9) (N := some 16) #[Y,Y,Y,Y,Y,Y,Y,Y,Y,Y,N,N,N,N,N,N] rfl rfl (by kernel_rfl) ?_
  refine pureA_ (i := 10) (N := some 17) #[Y,Y,Y,Y,Y,Y,Y,Y,Y,Y,Y,N,N,N,N,N] rfl rfl (by kernel_rfl) ?_
  refine one_ (i := 11) (N := some 18) #[Y,Y,Y,Y,Y,Y,Y,Y,Y,Y,Y,Y,N,N,N,N] rfl rfl (by kernel_rfl) (by decide) (fun K hK => ?_)
  refine goesA_ Tryz.func133 rfl #[.agg #[.bool r1, .int .i64 r2, .int .i64 r3], .int .i64 0] (by rfl) rfl rfl ?_
  (with_reducible refine (got_rtt_ok r1 r2 r3 _).mono ?_); rintro e w3 ⟨rfl, hb⟩; refine ⟨_, rfl, ?_⟩; replace HA := Aside0.mk (HA.out.below hb); replace HW := Aside0.mk (HW.out.below hb); replace BE := bbZ BE hb; clear hb
  refine hK.out _ _ ⟨LnAt.cell HA 15 (.bool s.has), LnAt.cell HA 16 (.int .i64 s.mean), LnAt.cell HA 17 (.int .i64 s.far), czZ BE 3 (.int .i64 er)⟩ (fun hHeld => ?_); clear hK K; refine normA_ (some 18) ?_
  refine pureA_ (i := 12) (N := some 19) #[Y,Y,Y,Y,Y,Y,Y,Y,Y,Y,Y,Y,Y,N,N,N] rfl rfl (by kernel_rfl) ?_
  refine pureA_ (i := 13) (N := some 20) #[Y,Y,Y,Y,Y,Y,Y,Y,Y,Y,Y,Y,Y,Y,N,N] rfl rfl (by kernel_rfl) ?_
  refine pureA_ (i := 14) (N := some 21) #[Y,Y,Y,Y,Y,Y,Y,Y,Y,Y,Y,Y,Y,Y,Y,N] rfl rfl (by kernel_rfl) ?_
  refine last_ (i := 15) (N := none) #[Y,Y,Y,Y,Y,Y,Y,Y,Y,Y,Y,Y,Y,Y,Y,Y] rfl rfl (by kernel_rfl) (by decide) (fun K hK => ?_); have z15 := LnAt.cell HA 15 (.bool s.has); have z15f := LnAt.frozen HA 15; have z16 := LnAt.cell HA 16 (.int .i64 s.mean); have z16f := LnAt.frozen HA 16; have z17 := LnAt.cell HA 17 (.int .i64 s.far); have z17f := LnAt.frozen HA 17; refine skip_ (w1 := ?_) (by rfl) rfl ?_ ?_; rotate_left
  · go_simp
    rfl
  refine hK.out _ _ ?_; clear hK K; clear z15 z16 z17 z15f z16f z17f
  (try clear hHeld)
  replace HA := Aside0.mk (LnAt.set (t := { s with has := r1, mean := r2, far := r3 }) (LnAt.set (t := { s with has := r1, mean := r2 }) (LnAt.set (t := { s with has := r1 }) HA.out 15 (.bool r1)) 16 (.int .i64 r2)) 17 (.int .i64 r3))
  replace HW := Aside0.mk (((HW.out.set 15 (.bool r1)).set 16 (.int .i64 r2)).set 17 (.int .i64 r3))
  replace BE := Aside0.mk (blk_far (p := ⟨g, 17, none⟩) (blk_far (p := ⟨g, 16, none⟩) (blk_far (p := ⟨g, 15, none⟩) BE.out ME.out (.bool r1)) ME.out (.int .i64 r2)) ME.out (.int .i64 r3))
  generalize (World.setCell (World.setCell (World.setCell w3 ⟨g, 15, none⟩ (.bool r1)) ⟨g, 16, none⟩ (.int .i64 r2)) ⟨g, 17, none⟩ (.int .i64 r3)) = w4 at HA HW BE ⊢
  refine done_ (by kernel_rfl) ?_
  go_upto_region 3 with fail
  replace HA := Aside0.mk HA.out.drew
  replace HW := Aside0.mk HW.out.drew
  replace BE := Aside0.mk (blk_drew BE.out)
  refine start_ (n := 18) (S := fun w' => w'.cell? ⟨g, 18, none⟩ = some (s.lv) ∧ w'.cell? ⟨be, 1, none⟩ = some (.int .i64 ea) ∧ w'.cell? ⟨be, 3, none⟩ = some (.int .i64 er)) (ds := [17]) #[N,N,N,N,N,N,N,N,N,N,N,N,N,N,N,N,N,N] (by kernel_rfl) rfl rfl ⟨LnAt.cell HA 18 (s.lv), czZ BE 1 (.int .i64 ea), czZ BE 3 (.int .i64 er)⟩ (fun hHeld => ?_)
  generalize w4.drew = w5 at HA HW BE hHeld ⊢
  refine pureA_ (i := 0) (N := some 22) #[Y,N,N,N,N,N,N,N,N,N,N,N,N,N,N,N,N,N] rfl rfl (by kernel_rfl) ?_
  refine pureA_ (i := 1) (N := some 23) #[Y,Y,N,N,N,N,N,N,N,N,N,N,N,N,N,N,N,N] rfl rfl (by kernel_rfl) ?_
  refine pureA_ (i := 2) (N := some 24) #[Y,Y,Y,N,N,N,N,N,N,N,N,N,N,N,N,N,N,N] rfl rfl (by kernel_rfl) ?_
  refine pureA_ (i := 3) (N := some 25) #[Y,Y,Y,Y,N,N,N,N,N,N,N,N,N,N,N,N,N,N] rfl rfl (by kernel_rfl) ?_
  refine pureA_ (i := 4) (N := some 26) #[Y,Y,Y,Y,Y,N,N,N,N,N,N,N,N,N,N,N,N,N] rfl rfl (by kernel_rfl) ?_
  refine take_ (i := 5) (N := some 27) (v := ?_) (a' := ?_) #[Y,Y,Y,Y,Y,Y,N,N,N,N,N,N,N,N,N,N,N,N] rfl rfl (by kernel_rfl) (fun _ _ _ h => h) (Or.inl ⟨by rfl, ?_⟩) hHeld ?_ ?_; rotate_left
  · rintro w' ⟨s0, s1, s2⟩; go_simp
    with_reducible rfl
  rotate_left
  · simp only [Act.put, sA, sB, sC, i64_w, i32_w]
    rfl
  refine pureA_ (i := 6) (N := some 28) #[Y,Y,Y,Y,Y,Y,Y,N,N,N,N,N,N,N,N,N,N,N] rfl rfl (by kernel_rfl) ?_
  refine take_ (i := 7) (N := some 29) (v := ?_) (a' := ?_) #[Y,Y,Y,Y,Y,Y,Y,Y,N,N,N,N,N,N,N,N,N,N] rfl rfl (by kernel_rfl) (fun _ _ _ h => h) (Or.inl ⟨by rfl, ?_⟩) hHeld ?_ ?_; rotate_left
  · rintro w' ⟨s0, s1, s2⟩; go_simp
    with_reducible rfl
  rotate_left
  · simp only [Act.put, sA, sB, sC, i64_w, i32_w]
    rfl
  refine pureA_ (i := 8) (N := some 30) #[Y,Y,Y,Y,Y,Y,Y,Y,Y,N,N,N,N,N,N,N,N,N] rfl rfl (by kernel_rfl) ?_
  refine take_ (i := 9) (N := some 31) (v := ?_) (a' := ?_) #[Y,Y,Y,Y,Y,Y,Y,Y,Y,Y,N,N,N,N,N,N,N,N] rfl rfl (by kernel_rfl) (fun _ _ _ h => h) (Or.inl ⟨by rfl, ?_⟩) hHeld ?_ ?_; rotate_left
  · rintro w' ⟨s0, s1, s2⟩; go_simp
    with_reducible rfl
  rotate_left
  · simp only [Act.put, sA, sB, sC, i64_w, i32_w]
    rfl
  refine one_ (i := 10) (N := some 32) #[Y,Y,Y,Y,Y,Y,Y,Y,Y,Y,Y,N,N,N,N,N,N,N] rfl rfl (by kernel_rfl) (by decide) (fun K hK => ?_)
  refine goesA_ Tryz.func136 rfl #[s.lv, .int .i64 10000000, .int .i64 ea, .int .i64 er] (by rfl) rfl rfl ?_
  (with_reducible refine (hP.out _ HW.out).mono ?_); rintro e w6 ⟨A, m, c, rfl, hb⟩; refine ⟨_, rfl, ?_⟩; replace HA := Aside0.mk (HA.out.below hb); replace HW := Aside0.mk (HW.out.below hb); replace BE := bbZ BE hb; clear hb
  refine hK.out _ _ ⟨LnAt.cell HA 18 (s.lv), czZ BE 1 (.int .i64 ea), czZ BE 3 (.int .i64 er)⟩ (fun hHeld => ?_); clear hK K; refine normA_ (some 32) ?_
  refine pureA_ (i := 11) (N := some 33) #[Y,Y,Y,Y,Y,Y,Y,Y,Y,Y,Y,Y,N,N,N,N,N,N] rfl rfl (by kernel_rfl) ?_
  refine pureA_ (i := 12) (N := some 34) #[Y,Y,Y,Y,Y,Y,Y,Y,Y,Y,Y,Y,Y,N,N,N,N,N] rfl rfl (by kernel_rfl) ?_
  refine one_ (i := 13) (N := some 35) #[Y,Y,Y,Y,Y,Y,Y,Y,Y,Y,Y,Y,Y,Y,N,N,N,N] rfl rfl (by kernel_rfl) (by decide) (fun K hK => ?_)
  refine goesA_ Tryz.func135 rfl #[.slice A m c, .int .i64 0] (by rfl) rfl rfl ?_
  (with_reducible refine (got_marks_ok (.slice A m c) _).mono ?_); rintro e w7 ⟨rfl, rfl⟩; refine ⟨_, rfl, ?_⟩
  refine hK.out _ _ ⟨LnAt.cell HA 18 (s.lv), czZ BE 1 (.int .i64 ea), czZ BE 3 (.int .i64 er)⟩ (fun hHeld => ?_); clear hK K; refine normA_ (some 35) ?_
  refine pureA_ (i := 14) (N := some 36) #[Y,Y,Y,Y,Y,Y,Y,Y,Y,Y,Y,Y,Y,Y,Y,N,N,N] rfl rfl (by kernel_rfl) ?_
  refine pureA_ (i := 15) (N := some 37) #[Y,Y,Y,Y,Y,Y,Y,Y,Y,Y,Y,Y,Y,Y,Y,Y,N,N] rfl rfl (by kernel_rfl) ?_
  refine pureA_ (i := 16) (N := some 38) #[Y,Y,Y,Y,Y,Y,Y,Y,Y,Y,Y,Y,Y,Y,Y,Y,Y,N] rfl rfl (by kernel_rfl) ?_
  refine last_ (i := 17) (N := none) #[Y,Y,Y,Y,Y,Y,Y,Y,Y,Y,Y,Y,Y,Y,Y,Y,Y,Y] rfl rfl (by kernel_rfl) (by decide) (fun K hK => ?_); have z18 := LnAt.cell HA 18 (s.lv); have z18f := LnAt.frozen HA 18; refine skip_ (w1 := ?_) (by rfl) rfl ?_ ?_; rotate_left
  · go_simp
    rfl
  refine hK.out _ _ ?_; clear hK K; clear z18 z18f
  (try clear hHeld)
  replace HA := Aside0.mk (LnAt.set (t := { s with has := r1, mean := r2, far := r3, lv := .slice A m c }) HA.out 18 ((.slice A m c)))
  replace HW := Aside0.mk (HW.out.set 18 ((.slice A m c)))
  replace BE := Aside0.mk (blk_far (p := ⟨g, 18, none⟩) BE.out ME.out ((.slice A m c)))
  generalize (World.setCell w7 ⟨g, 18, none⟩ ((.slice A m c))) = w8 at HA HW BE ⊢
  refine done_ (by kernel_rfl) ?_
  go_upto_region 5 with (first | (go_at_call 76; (with_reducible refine (line_slow g { s with has := r1, mean := r2, far := r3, lv := .slice A m c } true hSl.out _ HA.out).mono ?_); rintro e wm ⟨rfl, hb⟩; replace HA := Aside0.mk (HA.out.below hb); replace HW := Aside0.mk (HW.out.below hb); replace BE := bbZ BE hb; clear hb) | fail)
  replace HA := Aside0.mk HA.out.drew
  replace HW := Aside0.mk HW.out.drew
  replace BE := Aside0.mk (blk_drew BE.out)
  refine start_ (n := 16) (S := fun w' => w'.cell? ⟨g, 21, none⟩ = some (.int .i64 s.hlast) ∧ w'.cell? ⟨g, 22, none⟩ = some (.int .i64 s.hleast) ∧ w'.cell? ⟨g, 23, none⟩ = some (.int .i64 s.hmany) ∧ w'.cell? ⟨g, 24, none⟩ = some (.bool s.hgentle) ∧ w'.cell? ⟨g, 25, none⟩ = some (.bool s.hdone) ∧ w'.cell? ⟨g, 26, none⟩ = some (.int .i64 s.hbase) ∧ w'.cell? ⟨g, 27, none⟩ = some (.int .i64 s.hrounds) ∧ w'.cell? ⟨be, 3, none⟩ = some (.int .i64 er)) (ds := [15]) #[N,N,N,N,N,N,N,N,N,N,N,N,N,N,N,N] (by kernel_rfl) rfl rfl ⟨LnAt.cell HA 21 (.int .i64 s.hlast), LnAt.cell HA 22 (.int .i64 s.hleast), LnAt.cell HA 23 (.int .i64 s.hmany), LnAt.cell HA 24 (.bool s.hgentle), LnAt.cell HA 25 (.bool s.hdone), LnAt.cell HA 26 (.int .i64 s.hbase), LnAt.cell HA 27 (.int .i64 s.hrounds), czZ BE 3 (.int .i64 er)⟩ (fun hHeld => ?_)
  generalize wm.drew = w9 at HA HW BE hHeld ⊢
  refine pureA_ (i := 0) (N := some 41) #[Y,N,N,N,N,N,N,N,N,N,N,N,N,N,N,N] rfl rfl (by kernel_rfl) ?_
  refine pureA_ (i := 1) (N := some 42) #[Y,Y,N,N,N,N,N,N,N,N,N,N,N,N,N,N] rfl rfl (by kernel_rfl) ?_
  refine pureA_ (i := 2) (N := some 43) #[Y,Y,Y,N,N,N,N,N,N,N,N,N,N,N,N,N] rfl rfl (by kernel_rfl) ?_
  refine pureA_ (i := 3) (N := some 44) #[Y,Y,Y,Y,N,N,N,N,N,N,N,N,N,N,N,N] rfl rfl (by kernel_rfl) ?_
  refine pureA_ (i := 4) (N := some 45) #[Y,Y,Y,Y,Y,N,N,N,N,N,N,N,N,N,N,N] rfl rfl (by kernel_rfl) ?_
  refine take_ (i := 5) (N := some 46) (v := ?_) (a' := ?_) #[Y,Y,Y,Y,Y,Y,N,N,N,N,N,N,N,N,N,N] rfl rfl (by kernel_rfl) (fun _ _ _ h => h) (Or.inl ⟨by rfl, ?_⟩) hHeld ?_ ?_; rotate_left
  · rintro w' ⟨s0, s1, s2, s3, s4, s5, s6, s7⟩; go_simp
    with_reducible rfl
  rotate_left
  · simp only [Act.put, sA, sB, sC, i64_w, i32_w]
    rfl
  refine pureA_ (i := 6) (N := some 47) #[Y,Y,Y,Y,Y,Y,Y,N,N,N,N,N,N,N,N,N] rfl rfl (by kernel_rfl) ?_
  refine take_ (i := 7) (N := some 48) (v := ?_) (a' := ?_) #[Y,Y,Y,Y,Y,Y,Y,Y,N,N,N,N,N,N,N,N] rfl rfl (by kernel_rfl) (fun _ _ _ h => h) (Or.inl ⟨by rfl, ?_⟩) hHeld ?_ ?_; rotate_left
  · rintro w' ⟨s0, s1, s2, s3, s4, s5, s6, s7⟩; go_simp
    with_reducible rfl
  rotate_left
  · simp only [Act.put, sA, sB, sC, i64_w, i32_w]
    rfl
  refine one_ (i := 8) (N := some 49) #[Y,Y,Y,Y,Y,Y,Y,Y,Y,N,N,N,N,N,N,N] rfl rfl (by kernel_rfl) (by decide) (fun K hK => ?_)
  refine goesA_ Tryz.func137 rfl #[.agg #[.int .i64 s.hlast, .int .i64 s.hleast, .int .i64 s.hmany, .bool s.hgentle, .bool s.hdone, .int .i64 s.hbase, .int .i64 s.hrounds], .int .i64 er] (by rfl) rfl rfl ?_
  (with_reducible refine (hH.out _).mono ?_); rintro e w10 ⟨rfl, hb⟩; refine ⟨_, rfl, ?_⟩; replace HA := Aside0.mk (HA.out.below hb); replace HW := Aside0.mk (HW.out.below hb); replace BE := bbZ BE hb; clear hb
  refine hK.out _ _ ⟨LnAt.cell HA 21 (.int .i64 s.hlast), LnAt.cell HA 22 (.int .i64 s.hleast), LnAt.cell HA 23 (.int .i64 s.hmany), LnAt.cell HA 24 (.bool s.hgentle), LnAt.cell HA 25 (.bool s.hdone), LnAt.cell HA 26 (.int .i64 s.hbase), LnAt.cell HA 27 (.int .i64 s.hrounds), czZ BE 3 (.int .i64 er)⟩ (fun hHeld => ?_); clear hK K; refine normA_ (some 49) ?_
  refine pureA_ (i := 9) (N := some 50) #[Y,Y,Y,Y,Y,Y,Y,Y,Y,Y,N,N,N,N,N,N] rfl rfl (by kernel_rfl) ?_
  refine pureA_ (i := 10) (N := some 51) #[Y,Y,Y,Y,Y,Y,Y,Y,Y,Y,Y,N,N,N,N,N] rfl rfl (by kernel_rfl) ?_
  refine one_ (i := 11) (N := some 52) #[Y,Y,Y,Y,Y,Y,Y,Y,Y,Y,Y,Y,N,N,N,N] rfl rfl (by kernel_rfl) (by decide) (fun K hK => ?_)
  refine goesA_ Tryz.func87 rfl #[.agg #[.int .i64 h1, .int .i64 h2, .int .i64 h3, .bool h4, .bool h5, .int .i64 h6, .int .i64 h7], .int .i64 0] (by rfl) rfl rfl ?_
  (with_reducible refine (got_hystart_ok h1 h2 h3 h4 h5 h6 h7 _).mono ?_); rintro e w11 ⟨rfl, hb⟩; refine ⟨_, rfl, ?_⟩; replace HA := Aside0.mk (HA.out.below hb); replace HW := Aside0.mk (HW.out.below hb); replace BE := bbZ BE hb; clear hb
  refine hK.out _ _ ⟨LnAt.cell HA 21 (.int .i64 s.hlast), LnAt.cell HA 22 (.int .i64 s.hleast), LnAt.cell HA 23 (.int .i64 s.hmany), LnAt.cell HA 24 (.bool s.hgentle), LnAt.cell HA 25 (.bool s.hdone), LnAt.cell HA 26 (.int .i64 s.hbase), LnAt.cell HA 27 (.int .i64 s.hrounds), czZ BE 3 (.int .i64 er)⟩ (fun hHeld => ?_); clear hK K; refine normA_ (some 52) ?_
  refine pureA_ (i := 12) (N := some 53) #[Y,Y,Y,Y,Y,Y,Y,Y,Y,Y,Y,Y,Y,N,N,N] rfl rfl (by kernel_rfl) ?_
  refine pureA_ (i := 13) (N := some 54) #[Y,Y,Y,Y,Y,Y,Y,Y,Y,Y,Y,Y,Y,Y,N,N] rfl rfl (by kernel_rfl) ?_
  refine pureA_ (i := 14) (N := some 55) #[Y,Y,Y,Y,Y,Y,Y,Y,Y,Y,Y,Y,Y,Y,Y,N] rfl rfl (by kernel_rfl) ?_
  refine last_ (i := 15) (N := none) #[Y,Y,Y,Y,Y,Y,Y,Y,Y,Y,Y,Y,Y,Y,Y,Y] rfl rfl (by kernel_rfl) (by decide) (fun K hK => ?_); have z21 := LnAt.cell HA 21 (.int .i64 s.hlast); have z21f := LnAt.frozen HA 21; have z22 := LnAt.cell HA 22 (.int .i64 s.hleast); have z22f := LnAt.frozen HA 22; have z23 := LnAt.cell HA 23 (.int .i64 s.hmany); have z23f := LnAt.frozen HA 23; have z24 := LnAt.cell HA 24 (.bool s.hgentle); have z24f := LnAt.frozen HA 24; have z25 := LnAt.cell HA 25 (.bool s.hdone); have z25f := LnAt.frozen HA 25; have z26 := LnAt.cell HA 26 (.int .i64 s.hbase); have z26f := LnAt.frozen HA 26; have z27 := LnAt.cell HA 27 (.int .i64 s.hrounds); have z27f := LnAt.frozen HA 27; refine skip_ (w1 := ?_) (by rfl) rfl ?_ ?_; rotate_left
  · go_simp
    rfl
  refine hK.out _ _ ?_; clear hK K; clear z21 z22 z23 z24 z25 z26 z27 z21f z22f z23f z24f z25f z26f z27f
  (try clear hHeld)
  replace HA := Aside0.mk (LnAt.set (t := { s with has := r1, mean := r2, far := r3, lv := .slice A m c, hlast := h1, hleast := h2, hmany := h3, hgentle := h4, hdone := h5, hbase := h6, hrounds := h7 }) (LnAt.set (t := { s with has := r1, mean := r2, far := r3, lv := .slice A m c, hlast := h1, hleast := h2, hmany := h3, hgentle := h4, hdone := h5, hbase := h6 }) (LnAt.set (t := { s with has := r1, mean := r2, far := r3, lv := .slice A m c, hlast := h1, hleast := h2, hmany := h3, hgentle := h4, hdone := h5 }) (LnAt.set (t := { s with has := r1, mean := r2, far := r3, lv := .slice A m c, hlast := h1, hleast := h2, hmany := h3, hgentle := h4 }) (LnAt.set (t := { s with has := r1, mean := r2, far := r3, lv := .slice A m c, hlast := h1, hleast := h2, hmany := h3 }) (LnAt.set (t := { s with has := r1, mean := r2, far := r3, lv := .slice A m c, hlast := h1, hleast := h2 }) (LnAt.set (t := { s with has := r1, mean := r2, far := r3, lv := .slice A m c, hlast := h1 }) HA.out 21 (.int .i64 h1)) 22 (.int .i64 h2)) 23 (.int .i64 h3)) 24 (.bool h4)) 25 (.bool h5)) 26 (.int .i64 h6)) 27 (.int .i64 h7))
  replace HW := Aside0.mk (((((((HW.out.set 21 (.int .i64 h1)).set 22 (.int .i64 h2)).set 23 (.int .i64 h3)).set 24 (.bool h4)).set 25 (.bool h5)).set 26 (.int .i64 h6)).set 27 (.int .i64 h7))
  replace BE := Aside0.mk (blk_far (p := ⟨g, 27, none⟩) (blk_far (p := ⟨g, 26, none⟩) (blk_far (p := ⟨g, 25, none⟩) (blk_far (p := ⟨g, 24, none⟩) (blk_far (p := ⟨g, 23, none⟩) (blk_far (p := ⟨g, 22, none⟩) (blk_far (p := ⟨g, 21, none⟩) BE.out ME.out (.int .i64 h1)) ME.out (.int .i64 h2)) ME.out (.int .i64 h3)) ME.out (.bool h4)) ME.out (.bool h5)) ME.out (.int .i64 h6)) ME.out (.int .i64 h7))
  generalize (World.setCell (World.setCell (World.setCell (World.setCell (World.setCell (World.setCell (World.setCell w11 ⟨g, 21, none⟩ (.int .i64 h1)) ⟨g, 22, none⟩ (.int .i64 h2)) ⟨g, 23, none⟩ (.int .i64 h3)) ⟨g, 24, none⟩ (.bool h4)) ⟨g, 25, none⟩ (.bool h5)) ⟨g, 26, none⟩ (.int .i64 h6)) ⟨g, 27, none⟩ (.int .i64 h7)) = w12 at HA HW BE ⊢
  refine done_ (by kernel_rfl) ?_
  go_wp2
  go_end0
  exact ⟨A, m, c, rfl, HA.out, HW.out⟩

end Go.Proofs.YtfahbgkoldoflaaGreatDoor.Px
