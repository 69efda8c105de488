/- By hand. Conditions: none beside the theorems' own. -/
import Derived.Test.YtfahbgkoldoflaaGreatDoorPx0
import Derived.Test.YtfahbgkoldoflaaGreatDoorPx7
import Derived.Test.YtfahbgkoldoflaaGreatDoorPx22
import Derived.Test.YtfahbgkoldoflaaGreatDoorPx32
import Derived.Test.YtfahbgkoldoflaaGreatDoorPx33
import Derived.Test.YtfahbgkoldoflaaGreatDoorPx34
namespace Go.Proofs.YtfahbgkoldoflaaGreatDoor.Px
open Go.RowKit Go.Proofs.YtfahbgkoldoflaaGreatDoorW.PrintWords Go.Proofs.YtfahbgkoldoflaaGreatDoorW.PrintLast Go.Proofs.YtfahbgkoldoflaaGreatDoorW.PrintMore
attribute [local go_sem] max2_int min2_int max_two min_two max_three min_three max_four min_four   -- for this text's walks alone
set_option linter.unusedVariables false
set_option linter.unusedSimpArgs false

/-! ### top_ack: function 39 -/
/-! top: by hand -/
set_option maxRecDepth 100000 in
set_option maxHeartbeats 8000000 in
theorem line_ack_slow (g : Nat) (s : Ln) (k1 : Nat) (ek ea eb er f1 f2 f3 r2 r3 h1 h2 h3 h6 h7 g1 g2 g3 g6 g7 n q1 q2 td v1 v2 bd : Int) (r1 h4 h5 g4 g5 : Bool) (w : World) (hA : LnAt w g s) (c0 : (er == 0) = false) (c1 : Aside0 (s.lim = false)) (c2 : Aside0 (g5 = false))
    (hF : Aside0 (flight_Ack.f k1 s.sent s.told s.out eb = some (f1, f2, f3, 0)))
    (hR : Aside0 (∀ W : World, Calls Tryz.prog 134 #[.agg #[.bool s.has, .int .i64 s.mean, .int .i64 s.far], .int .i64 er] W fun e w' => e = .returned (.tuple #[.agg #[.bool r1, .int .i64 r2, .int .i64 r3], .int .i64 0]) ∧ Below W.heap.size W w')) (hP : Aside0 (∀ W : World, WrB g w W → Calls Tryz.prog 136 #[s.lv, .int .i64 10000000, .int .i64 ea, .int .i64 er] W fun e w' => ∃ A m c, e = .returned (.tuple #[.slice A m c, .int .i64 0]) ∧ Below W.heap.size W w'))
    (hSl : Aside0 (decide (s.win < s.thresh) = true)) (hH : Aside0 (∀ W : World, Calls Tryz.prog 137 #[.agg #[.int .i64 s.hlast, .int .i64 s.hleast, .int .i64 s.hmany, .bool s.hgentle, .bool s.hdone, .int .i64 s.hbase, .int .i64 s.hrounds], .int .i64 er] W fun e w' => e = .returned (.tuple #[.agg #[.int .i64 h1, .int .i64 h2, .int .i64 h3, .bool h4, .bool h5, .int .i64 h6, .int .i64 h7], .int .i64 0]) ∧ Below W.heap.size W w'))
    (hn : Aside0 (wrap64 (f1 - f3) = n)) (hRd : Aside0 (∀ W : World, Calls Tryz.prog 85 #[.agg #[.int .i64 s.rid, .int .i64 s.rend], .int .i64 n, .int .i64 f1] W fun e w' => e = .returned (.tuple #[.agg #[.int .i64 q1, .int .i64 q2], .bool true, .int .i64 bd]) ∧ Below W.heap.size W w'))
    (hRo : Aside0 (∀ W : World, Calls Tryz.prog 88 #[.agg #[.int .i64 h1, .int .i64 h2, .int .i64 h3, .bool h4, .bool h5, .int .i64 h6, .int .i64 h7]] W fun e w' => e = .returned (.tuple #[.agg #[.int .i64 g1, .int .i64 g2, .int .i64 g3, .bool g4, .bool g5, .int .i64 g6, .int .i64 g7], .int .i64 0]) ∧ Below W.heap.size W w')) (hRc : Aside0 (decide (n < s.recov) = false)) (hSg : Aside0 (frac_SegsS.f eb s.seg = some (td, 0))) (hG : Aside0 (grow_Slow.f s.win td g1 g2 g3 g4 g5 g6 g7 = some v1)) (hLm : Aside0 (grow_LimitS.f v1 (wrap64 (s.mx * 65536)) = some v2)) :
    Calls Tryz.prog 39 #[.pointer (some ⟨g, 0, none⟩), .agg #[.int .i64 ek, .int .i64 ea, .int .i64 eb, .int .i64 er]] w fun e w' => ∃ A m c, e = .returned (.tuple #[]) ∧ LnAt w' g { s with win := v2, sent := f1, told := f2, out := f3, has := r1, mean := r2, far := r3, lv := .slice A m c, rid := q1, rend := q2, hlast := g1, hleast := g2, hmany := g3, hgentle := g4, hdone := g5, hbase := g6, hrounds := g7, back := 0 } ∧ WrB g w w' := by
  have HA := Aside0.mk hA
  have HW := Aside0.mk (WrB.refl g w)
  clear hA
  go_enter Tryz.func39, Tryz.ntmps39
  go_upto_region 1 with (first | ((with_reducible refine gate_dst (N := 3) rfl ?_); refine box_event ?hg (N := 3) ?hd (cs := #[.int .i64 ek, .int .i64 ea, .int .i64 eb, .int .i64 er]) (t := 52) ?hr ?_; (case hd => rfl); (case hg => rfl); (case hr => first | (go_simp; done) | (go_simp; rfl)); intro be hg wb hbox hb; have BE := Aside0.mk hbox; obtain ⟨NE, ME, nHA⟩ := nbA (o := .cells s.cells 83 (0, 0)) HA hg hb; replace HA : Aside0 (LnAt wb g s) := nHA; replace HW := Aside0.mk (HW.out.below hb); clear nHA hb hbox hg) | fail)
  replace HA := Aside0.mk HA.out.drew
  replace HW := Aside0.mk HW.out.drew
  replace BE := Aside0.mk (blk_drew BE.out)
  refine start_ (n := 16) (S := fun w' => w'.cell? ⟨g, 12, none⟩ = some (.int .i64 s.sent) ∧ w'.cell? ⟨g, 13, none⟩ = some (.int .i64 s.told) ∧ w'.cell? ⟨g, 14, none⟩ = some (.int .i64 s.out) ∧ w'.cell? ⟨be, 2, none⟩ = some (.int .i64 eb)) (ds := [15]) #[N,N,N,N,N,N,N,N,N,N,N,N,N,N,N,N] (by kernel_rfl) rfl rfl ⟨LnAt.cell HA 12 (.int .i64 s.sent), LnAt.cell HA 13 (.int .i64 s.told), LnAt.cell HA 14 (.int .i64 s.out), czZ BE 2 (.int .i64 eb)⟩ (fun hHeld => ?_)
  generalize wb.drew = w1 at HA HW BE hHeld ⊢
  refine pureA_ (i := 0) (N := some 6) #[Y,N,N,N,N,N,N,N,N,N,N,N,N,N,N,N] rfl rfl (by kernel_rfl) ?_
  refine pureA_ (i := 1) (N := some 7) #[Y,Y,N,N,N,N,N,N,N,N,N,N,N,N,N,N] rfl rfl (by kernel_rfl) ?_
  refine pureA_ (i := 2) (N := some 8) #[Y,Y,Y,N,N,N,N,N,N,N,N,N,N,N,N,N] rfl rfl (by kernel_rfl) ?_
  refine pureA_ (i := 3) (N := some 9) #[Y,Y,Y,Y,N,N,N,N,N,N,N,N,N,N,N,N] rfl rfl (by kernel_rfl) ?_
  refine pureA_ (i := 4) (N := some 10) #[Y,Y,Y,Y,Y,N,N,N,N,N,N,N,N,N,N,N] rfl rfl (by kernel_rfl) ?_
  refine take_ (i := 5) (N := some 11) (v := ?_) (a' := ?_) #[Y,Y,Y,Y,Y,Y,N,N,N,N,N,N,N,N,N,N] rfl rfl (by kernel_rfl) (fun _ _ _ h => h) (Or.inl ⟨by rfl, ?_⟩) hHeld ?_ ?_; rotate_left
  · rintro w' ⟨s0, s1, s2, s3⟩; go_simp
    with_reducible rfl
  rotate_left
  · simp only [Act.put, sA, sB, sC, i64_w, i32_w]
    rfl
  refine pureA_ (i := 6) (N := some 12) #[Y,Y,Y,Y,Y,Y,Y,N,N,N,N,N,N,N,N,N] rfl rfl (by kernel_rfl) ?_
  refine take_ (i := 7) (N := some 13) (v := ?_) (a' := ?_) #[Y,Y,Y,Y,Y,Y,Y,Y,N,N,N,N,N,N,N,N] rfl rfl (by kernel_rfl) (fun _ _ _ h => h) (Or.inl ⟨by rfl, ?_⟩) hHeld ?_ ?_; rotate_left
  · rintro w' ⟨s0, s1, s2, s3⟩; go_simp
    with_reducible rfl
  rotate_left
  · simp only [Act.put, sA, sB, sC, i64_w, i32_w]
    rfl
  refine one_ (i := 8) (N := some 14) #[Y,Y,Y,Y,Y,Y,Y,Y,Y,N,N,N,N,N,N,N] rfl rfl (by kernel_rfl) (by decide) (fun K hK => ?_)
  refine goesA_ Tryz.func83 rfl #[.agg #[.int .i64 s.sent, .int .i64 s.told, .int .i64 s.out], .int .i64 eb] (by rfl) rfl rfl ?_
  (with_reducible refine (flight_Ack.calls k1 s.sent s.told s.out eb f1 f2 f3 0 _ hF.out).mono ?_); rintro e w2 ⟨rfl, hb⟩; refine ⟨_, rfl, ?_⟩; replace HA := Aside0.mk (HA.out.below hb); replace HW := Aside0.mk (HW.out.below hb); replace BE := bbZ BE hb; clear hb
  refine hK.out _ _ ⟨LnAt.cell HA 12 (.int .i64 s.sent), LnAt.cell HA 13 (.int .i64 s.told), LnAt.cell HA 14 (.int .i64 s.out), czZ BE 2 (.int .i64 eb)⟩ (fun hHeld => ?_); clear hK K; refine normA_ (some 14) ?_
  refine pureA_ (i := 9) (N := some 15) #[Y,Y,Y,Y,Y,Y,Y,Y,Y,Y,N,N,N,N,N,N] rfl rfl (by kernel_rfl) ?_
  refine pureA_ (i := 10) (N := some 16) #[Y,Y,Y,Y,Y,Y,Y,Y,Y,Y,Y,N,N,N,N,N] rfl rfl (by kernel_rfl) ?_
  refine one_ (i := 11) (N := some 17) #[Y,Y,Y,Y,Y,Y,Y,Y,Y,Y,Y,Y,N,N,N,N] rfl rfl (by kernel_rfl) (by decide) (fun K hK => ?_)
  refine goesA_ Tryz.func79 rfl #[.agg #[.int .i64 f1, .int .i64 f2, .int .i64 f3], .int .i64 0] (by rfl) rfl rfl ?_
  (with_reducible refine (got_flight_ok f1 f2 f3 _).mono ?_); rintro e w3 ⟨rfl, hb⟩; refine ⟨_, rfl, ?_⟩; replace HA := Aside0.mk (HA.out.below hb); replace HW := Aside0.mk (HW.out.below hb); replace BE := bbZ BE hb; clear hb
  refine hK.out _ _ ⟨LnAt.cell HA 12 (.int .i64 s.sent), LnAt.cell HA 13 (.int .i64 s.told), LnAt.cell HA 14 (.int .i64 s.out), czZ BE 2 (.int .i64 eb)⟩ (fun hHeld => ?_); clear hK K; refine normA_ (some 17) ?_
  refine pureA_ (i := 12) (N := some 18) #[Y,Y,Y,Y,Y,Y,Y,Y,Y,Y,Y,Y,Y,N,N,N] rfl rfl (by kernel_rfl) ?_
  refine pureA_ (i := 13) (N := some 19) #[Y,Y,Y,Y,Y,Y,Y,Y,Y,Y,Y,Y,Y,Y,N,N] rfl rfl (by kernel_rfl) ?_
  refine pureA_ (i := 14) (N := some 20) #[Y,Y,Y,Y,Y,Y,Y,Y,Y,Y,Y,Y,Y,Y,Y,N] rfl rfl (by kernel_rfl) ?_
  refine last_ (i := 15) (N := none) #[Y,Y,Y,Y,Y,Y,Y,Y,Y,Y,Y,Y,Y,Y,Y,Y] rfl rfl (by kernel_rfl) (by decide) (fun K hK => ?_); have z12 := LnAt.cell HA 12 (.int .i64 s.sent); have z12f := LnAt.frozen HA 12; have z13 := LnAt.cell HA 13 (.int .i64 s.told); have z13f := LnAt.frozen HA 13; have z14 := LnAt.cell HA 14 (.int .i64 s.out); have z14f := LnAt.frozen HA 14; refine skip_ (w1 := ?_) (by rfl) rfl ?_ ?_; rotate_left
  · go_simp
    rfl
  refine hK.out _ _ ?_; clear hK K; clear z12 z13 z14 z12f z13f z14f
  (try clear hHeld)
  replace HA := Aside0.mk (LnAt.set (t := { s with sent := f1, told := f2, out := f3 }) (LnAt.set (t := { s with sent := f1, told := f2 }) (LnAt.set (t := { s with sent := f1 }) HA.out 12 (.int .i64 f1)) 13 (.int .i64 f2)) 14 (.int .i64 f3))
  replace HW := Aside0.mk (((HW.out.set 12 (.int .i64 f1)).set 13 (.int .i64 f2)).set 14 (.int .i64 f3))
  replace BE := Aside0.mk (blk_far (p := ⟨g, 14, none⟩) (blk_far (p := ⟨g, 13, none⟩) (blk_far (p := ⟨g, 12, none⟩) BE.out ME.out (.int .i64 f1)) ME.out (.int .i64 f2)) ME.out (.int .i64 f3))
  generalize (World.setCell (World.setCell (World.setCell w3 ⟨g, 12, none⟩ (.int .i64 f1)) ⟨g, 13, none⟩ (.int .i64 f2)) ⟨g, 14, none⟩ (.int .i64 f3)) = w4 at HA HW BE ⊢
  refine done_ (by kernel_rfl) ?_
  have z35 := LnAt.cell HA 35 (.int .i64 s.back); have z35f := LnAt.frozen HA 35
  go_upto_region 3 with fail
  clear z35 z35f
  replace HA := Aside0.mk (LnAt.set (t := { s with sent := f1, told := f2, out := f3, back := 0 }) HA.out 35 (.int .i64 0))
  replace HW := Aside0.mk (HW.out.set 35 (.int .i64 0))
  replace BE := Aside0.mk (blk_far (p := ⟨g, 35, none⟩) BE.out ME.out (.int .i64 0))
  generalize (World.setCell w4 ⟨g, 35, none⟩ (.int .i64 0)) = w5 at HA HW BE ⊢
  have be_0 := czZ BE 0 (.int .i64 ek); have be_1 := czZ BE 1 (.int .i64 ea); have be_2 := czZ BE 2 (.int .i64 eb); have be_3 := czZ BE 3 (.int .i64 er)
  go_upto_region 5 with (first | (go_at_call 84; (with_reducible refine (line_times g { s with sent := f1, told := f2, out := f3, back := 0 } ek ea eb er r2 r3 h1 h2 h3 h6 h7 r1 h4 h5 _ HA.out c0 hR ⟨fun W hW => hP.out W (HW.out.trans hW)⟩ hSl hH).mono ?_); rintro e wm ⟨A, m, c, rfl, hA9, hW9⟩; clear be_0 be_1 be_2 be_3; replace HA : Aside0 (LnAt wm g { s with sent := f1, told := f2, out := f3, has := r1, mean := r2, far := r3, lv := .slice A m c, hlast := h1, hleast := h2, hmany := h3, hgentle := h4, hdone := h5, hbase := h6, hrounds := h7, back := 0 }) := ⟨hA9⟩; replace HW := Aside0.mk (HW.out.trans hW9); replace BE := Aside0.mk (hW9.blk BE.out ME.out); clear hA9 hW9) | fail)
  replace HA := Aside0.mk HA.out.drew
  replace HW := Aside0.mk HW.out.drew
  replace BE := Aside0.mk (blk_drew BE.out)
  refine start_ (n := 24) (S := fun w' => w'.cell? ⟨g, 19, none⟩ = some (.int .i64 s.rid) ∧ w'.cell? ⟨g, 20, none⟩ = some (.int .i64 s.rend) ∧ w'.cell? ⟨g, 12, none⟩ = some (.int .i64 f1)) (ds := [22]) #[N,N,N,N,N,N,N,N,N,N,N,N,N,N,N,N,N,N,N,N,N,N,N,N] (by kernel_rfl) rfl rfl ⟨LnAt.cell HA 19 (.int .i64 s.rid), LnAt.cell HA 20 (.int .i64 s.rend), LnAt.cell HA 12 (.int .i64 f1)⟩ (fun hHeld => ?_)
  generalize wm.drew = w6 at HA HW BE hHeld ⊢
  refine pureA_ (i := 0) (N := some 29) #[Y,N,N,N,N,N,N,N,N,N,N,N,N,N,N,N,N,N,N,N,N,N,N,N] rfl rfl (by kernel_rfl) ?_
  refine pureA_ (i := 1) (N := some 30) #[Y,Y,N,N,N,N,N,N,N,N,N,N,N,N,N,N,N,N,N,N,N,N,N,N] rfl rfl (by kernel_rfl) ?_
  refine pureA_ (i := 2) (N := some 31) #[Y,Y,Y,N,N,N,N,N,N,N,N,N,N,N,N,N,N,N,N,N,N,N,N,N] rfl rfl (by kernel_rfl) ?_
  refine pureA_ (i := 3) (N := some 32) #[Y,Y,Y,Y,N,N,N,N,N,N,N,N,N,N,N,N,N,N,N,N,N,N,N,N] rfl rfl (by kernel_rfl) ?_
  refine pureA_ (i := 4) (N := some 33) #[Y,Y,Y,Y,Y,N,N,N,N,N,N,N,N,N,N,N,N,N,N,N,N,N,N,N] rfl rfl (by kernel_rfl) ?_
  refine take_ (i := 5) (N := some 34) (v := ?_) (a' := ?_) #[Y,Y,Y,Y,Y,Y,N,N,N,N,N,N,N,N,N,N,N,N,N,N,N,N,N,N] rfl rfl (by kernel_rfl) (fun _ _ _ h => h) (Or.inl ⟨by rfl, ?_⟩) hHeld ?_ ?_; rotate_left
  · rintro w' ⟨s0, s1, s2⟩; go_simp
    with_reducible rfl
  rotate_left
  · simp only [Act.put, sA, sB, sC, i64_w, i32_w]
    rfl
  refine pureA_ (i := 6) (N := some 35) #[Y,Y,Y,Y,Y,Y,Y,N,N,N,N,N,N,N,N,N,N,N,N,N,N,N,N,N] rfl rfl (by kernel_rfl) ?_
  refine pureA_ (i := 8) (N := some 37) #[Y,Y,Y,Y,Y,Y,Y,N,Y,N,N,N,N,N,N,N,N,N,N,N,N,N,N,N] rfl rfl (by kernel_rfl) ?_
  refine pureA_ (i := 9) (N := some 38) #[Y,Y,Y,Y,Y,Y,Y,N,Y,Y,N,N,N,N,N,N,N,N,N,N,N,N,N,N] rfl rfl (by kernel_rfl) ?_
  refine pureA_ (i := 10) (N := some 39) #[Y,Y,Y,Y,Y,Y,Y,N,Y,Y,Y,N,N,N,N,N,N,N,N,N,N,N,N,N] rfl rfl (by kernel_rfl) ?_
  refine pureA_ (i := 11) (N := some 40) #[Y,Y,Y,Y,Y,Y,Y,N,Y,Y,Y,Y,N,N,N,N,N,N,N,N,N,N,N,N] rfl rfl (by kernel_rfl) ?_
  refine pureA_ (i := 12) (N := some 41) #[Y,Y,Y,Y,Y,Y,Y,N,Y,Y,Y,Y,Y,N,N,N,N,N,N,N,N,N,N,N] rfl rfl (by kernel_rfl) ?_
  refine take_ (i := 13) (N := some 42) (v := ?_) (a' := ?_) #[Y,Y,Y,Y,Y,Y,Y,N,Y,Y,Y,Y,Y,Y,N,N,N,N,N,N,N,N,N,N] rfl rfl (by kernel_rfl) (fun _ _ _ h => h) (Or.inl ⟨by rfl, ?_⟩) hHeld ?_ ?_; rotate_left
  · rintro w' ⟨s0, s1, s2⟩; go_simp
    with_reducible rfl
  rotate_left
  · simp only [Act.put, sA, sB, sC, i64_w, i32_w]
    rfl
  refine one_ (i := 7) (N := some 36) #[Y,Y,Y,Y,Y,Y,Y,Y,Y,Y,Y,Y,Y,Y,N,N,N,N,N,N,N,N,N,N] rfl rfl (by kernel_rfl) (by decide) (fun K hK => ?_)
  refine goesA_ Tryz.func86 rfl #[.pointer (some ⟨g, 0, none⟩)] (by rfl) rfl rfl ?_
  (with_reducible refine (line_resolved g { s with sent := f1, told := f2, out := f3, has := r1, mean := r2, far := r3, lv := .slice A m c, hlast := h1, hleast := h2, hmany := h3, hgentle := h4, hdone := h5, hbase := h6, hrounds := h7, back := 0 } n hn.out _ HA.out).mono ?_); rintro e w7 ⟨rfl, hb⟩; refine ⟨_, rfl, ?_⟩; replace HA := Aside0.mk (HA.out.below hb); replace HW := Aside0.mk (HW.out.below hb); replace BE := bbZ BE hb; clear hb
  refine hK.out _ _ ⟨LnAt.cell HA 19 (.int .i64 s.rid), LnAt.cell HA 20 (.int .i64 s.rend), LnAt.cell HA 12 (.int .i64 f1)⟩ (fun hHeld => ?_); clear hK K; refine normA_ (some 36) ?_
  refine one_ (i := 14) (N := some 43) #[Y,Y,Y,Y,Y,Y,Y,Y,Y,Y,Y,Y,Y,Y,Y,N,N,N,N,N,N,N,N,N] rfl rfl (by kernel_rfl) (by decide) (fun K hK => ?_)
  refine goesA_ Tryz.func85 rfl #[.agg #[.int .i64 s.rid, .int .i64 s.rend], .int .i64 n, .int .i64 f1] (by rfl) rfl rfl ?_
  (with_reducible refine (hRd.out _).mono ?_); rintro e w8 ⟨rfl, hb⟩; refine ⟨_, rfl, ?_⟩; replace HA := Aside0.mk (HA.out.below hb); replace HW := Aside0.mk (HW.out.below hb); replace BE := bbZ BE hb; clear hb
  refine hK.out _ _ ⟨LnAt.cell HA 19 (.int .i64 s.rid), LnAt.cell HA 20 (.int .i64 s.rend), LnAt.cell HA 12 (.int .i64 f1)⟩ (fun hHeld => ?_); clear hK K; refine normA_ (some 43) ?_
  refine pureA_ (i := 15) (N := some 28) #[Y,Y,Y,Y,Y,Y,Y,Y,Y,Y,Y,Y,Y,Y,Y,Y,N,N,N,N,N,N,N,N] rfl rfl (by kernel_rfl) ?_
  refine pureA_ (i := 16) (N := some 44) #[Y,Y,Y,Y,Y,Y,Y,Y,Y,Y,Y,Y,Y,Y,Y,Y,Y,N,N,N,N,N,N,N] rfl rfl (by kernel_rfl) ?_
  refine pureA_ (i := 17) (N := some 45) #[Y,Y,Y,Y,Y,Y,Y,Y,Y,Y,Y,Y,Y,Y,Y,Y,Y,Y,N,N,N,N,N,N] rfl rfl (by kernel_rfl) ?_
  refine pureA_ (i := 18) (N := some 46) #[Y,Y,Y,Y,Y,Y,Y,Y,Y,Y,Y,Y,Y,Y,Y,Y,Y,Y,Y,N,N,N,N,N] rfl rfl (by kernel_rfl) ?_
  refine pureA_ (i := 19) (N := some 47) #[Y,Y,Y,Y,Y,Y,Y,Y,Y,Y,Y,Y,Y,Y,Y,Y,Y,Y,Y,Y,N,N,N,N] rfl rfl (by kernel_rfl) ?_
  refine pureA_ (i := 20) (N := some 48) #[Y,Y,Y,Y,Y,Y,Y,Y,Y,Y,Y,Y,Y,Y,Y,Y,Y,Y,Y,Y,Y,N,N,N] rfl rfl (by kernel_rfl) ?_
  refine pureA_ (i := 21) (N := some 49) #[Y,Y,Y,Y,Y,Y,Y,Y,Y,Y,Y,Y,Y,Y,Y,Y,Y,Y,Y,Y,Y,Y,N,N] rfl rfl (by kernel_rfl) ?_
  refine last_ (i := 22) (N := none) #[Y,Y,Y,Y,Y,Y,Y,Y,Y,Y,Y,Y,Y,Y,Y,Y,Y,Y,Y,Y,Y,Y,Y,N] rfl rfl (by kernel_rfl) (by decide) (fun K hK => ?_); have z19 := LnAt.cell HA 19 (.int .i64 s.rid); have z19f := LnAt.frozen HA 19; have z20 := LnAt.cell HA 20 (.int .i64 s.rend); have z20f := LnAt.frozen HA 20; refine skip_ (w1 := ?_) (by rfl) rfl ?_ ?_; rotate_left
  · go_simp
    rfl
  refine hK.out _ _ ?_; clear hK K; clear z19 z20 z19f z20f
  (try clear hHeld)
  replace HA := Aside0.mk (LnAt.set (t := { s with sent := f1, told := f2, out := f3, has := r1, mean := r2, far := r3, lv := .slice A m c, rid := q1, rend := q2, hlast := h1, hleast := h2, hmany := h3, hgentle := h4, hdone := h5, hbase := h6, hrounds := h7, back := 0 }) (LnAt.set (t := { s with sent := f1, told := f2, out := f3, has := r1, mean := r2, far := r3, lv := .slice A m c, rid := q1, hlast := h1, hleast := h2, hmany := h3, hgentle := h4, hdone := h5, hbase := h6, hrounds := h7, back := 0 }) HA.out 19 (.int .i64 q1)) 20 (.int .i64 q2))
  replace HW := Aside0.mk ((HW.out.set 19 (.int .i64 q1)).set 20 (.int .i64 q2))
  replace BE := Aside0.mk (blk_far (p := ⟨g, 20, none⟩) (blk_far (p := ⟨g, 19, none⟩) BE.out ME.out (.int .i64 q1)) ME.out (.int .i64 q2))
  generalize (World.setCell (World.setCell w8 ⟨g, 19, none⟩ (.int .i64 q1)) ⟨g, 20, none⟩ (.int .i64 q2)) = w9 at HA HW BE ⊢
  refine pureA_ (i := 23) (N := some 4) #[Y,Y,Y,Y,Y,Y,Y,Y,Y,Y,Y,Y,Y,Y,Y,Y,Y,Y,Y,Y,Y,Y,Y,Y] rfl rfl (by kernel_rfl) ?_
  refine done_ (by kernel_rfl) ?_
  go_upto_region 8 with (first | (go_at_call 76; (with_reducible refine (line_slow g { s with sent := f1, told := f2, out := f3, has := r1, mean := r2, far := r3, lv := .slice A m c, rid := q1, rend := q2, hlast := h1, hleast := h2, hmany := h3, hgentle := h4, hdone := h5, hbase := h6, hrounds := h7, back := 0 } true hSl.out _ HA.out).mono ?_); rintro e wk ⟨rfl, hb⟩; replace HA := Aside0.mk (HA.out.below hb); replace HW := Aside0.mk (HW.out.below hb); replace BE := bbZ BE hb; clear hb; have z21 := LnAt.cell HA 21 (.int .i64 h1); have z22 := LnAt.cell HA 22 (.int .i64 h2); have z23 := LnAt.cell HA 23 (.int .i64 h3); have z24 := LnAt.cell HA 24 (.bool h4); have z25 := LnAt.cell HA 25 (.bool h5); have z26 := LnAt.cell HA 26 (.int .i64 h6); have z27 := LnAt.cell HA 27 (.int .i64 h7)) | (go_at_call 88; (with_reducible refine (hRo.out _).mono ?_); rintro e wl ⟨rfl, hb⟩; clear z21 z22 z23 z24 z25 z26 z27; replace HA := Aside0.mk (HA.out.below hb); replace HW := Aside0.mk (HW.out.below hb); replace BE := bbZ BE hb; clear hb) | (go_at_call 87; (with_reducible refine (got_hystart_ok g1 g2 g3 g4 g5 g6 g7 _).mono ?_); rintro e wq ⟨rfl, hb⟩; replace HA := Aside0.mk (HA.out.below hb); replace HW := Aside0.mk (HW.out.below hb); replace BE := bbZ BE hb; clear hb; have z21 := LnAt.cell HA 21 (.int .i64 h1); have z21f := LnAt.frozen HA 21; have z22 := LnAt.cell HA 22 (.int .i64 h2); have z22f := LnAt.frozen HA 22; have z23 := LnAt.cell HA 23 (.int .i64 h3); have z23f := LnAt.frozen HA 23; have z24 := LnAt.cell HA 24 (.bool h4); have z24f := LnAt.frozen HA 24; have z25 := LnAt.cell HA 25 (.bool h5); have z25f := LnAt.frozen HA 25; have z26 := LnAt.cell HA 26 (.int .i64 h6); have z26f := LnAt.frozen HA 26; have z27 := LnAt.cell HA 27 (.int .i64 h7); have z27f := LnAt.frozen HA 27) | fail)
  clear z21 z22 z23 z24 z25 z26 z27 z21f z22f z23f z24f z25f z26f z27f
  replace HA := Aside0.mk (LnAt.set (t := { s with sent := f1, told := f2, out := f3, has := r1, mean := r2, far := r3, lv := .slice A m c, rid := q1, rend := q2, hlast := g1, hleast := g2, hmany := g3, hgentle := g4, hdone := g5, hbase := g6, hrounds := g7, back := 0 }) (LnAt.set (t := { s with sent := f1, told := f2, out := f3, has := r1, mean := r2, far := r3, lv := .slice A m c, rid := q1, rend := q2, hlast := g1, hleast := g2, hmany := g3, hgentle := g4, hdone := g5, hbase := g6, hrounds := h7, back := 0 }) (LnAt.set (t := { s with sent := f1, told := f2, out := f3, has := r1, mean := r2, far := r3, lv := .slice A m c, rid := q1, rend := q2, hlast := g1, hleast := g2, hmany := g3, hgentle := g4, hdone := g5, hbase := h6, hrounds := h7, back := 0 }) (LnAt.set (t := { s with sent := f1, told := f2, out := f3, has := r1, mean := r2, far := r3, lv := .slice A m c, rid := q1, rend := q2, hlast := g1, hleast := g2, hmany := g3, hgentle := g4, hdone := h5, hbase := h6, hrounds := h7, back := 0 }) (LnAt.set (t := { s with sent := f1, told := f2, out := f3, has := r1, mean := r2, far := r3, lv := .slice A m c, rid := q1, rend := q2, hlast := g1, hleast := g2, hmany := g3, hgentle := h4, hdone := h5, hbase := h6, hrounds := h7, back := 0 }) (LnAt.set (t := { s with sent := f1, told := f2, out := f3, has := r1, mean := r2, far := r3, lv := .slice A m c, rid := q1, rend := q2, hlast := g1, hleast := g2, hmany := h3, hgentle := h4, hdone := h5, hbase := h6, hrounds := h7, back := 0 }) (LnAt.set (t := { s with sent := f1, told := f2, out := f3, has := r1, mean := r2, far := r3, lv := .slice A m c, rid := q1, rend := q2, hlast := g1, hleast := h2, hmany := h3, hgentle := h4, hdone := h5, hbase := h6, hrounds := h7, back := 0 }) HA.out 21 (.int .i64 g1)) 22 (.int .i64 g2)) 23 (.int .i64 g3)) 24 (.bool g4)) 25 (.bool g5)) 26 (.int .i64 g6)) 27 (.int .i64 g7))
  replace HW := Aside0.mk (((((((HW.out.set 21 (.int .i64 g1)).set 22 (.int .i64 g2)).set 23 (.int .i64 g3)).set 24 (.bool g4)).set 25 (.bool g5)).set 26 (.int .i64 g6)).set 27 (.int .i64 g7))
  replace BE := Aside0.mk (blk_far (p := ⟨g, 27, none⟩) (blk_far (p := ⟨g, 26, none⟩) (blk_far (p := ⟨g, 25, none⟩) (blk_far (p := ⟨g, 24, none⟩) (blk_far (p := ⟨g, 23, none⟩) (blk_far (p := ⟨g, 22, none⟩) (blk_far (p := ⟨g, 21, none⟩) BE.out ME.out (.int .i64 g1)) ME.out (.int .i64 g2)) ME.out (.int .i64 g3)) ME.out (.bool g4)) ME.out (.bool g5)) ME.out (.int .i64 g6)) ME.out (.int .i64 g7))
  generalize (World.setCell (World.setCell (World.setCell (World.setCell (World.setCell (World.setCell (World.setCell wq ⟨g, 21, none⟩ (.int .i64 g1)) ⟨g, 22, none⟩ (.int .i64 g2)) ⟨g, 23, none⟩ (.int .i64 g3)) ⟨g, 24, none⟩ (.bool g4)) ⟨g, 25, none⟩ (.bool g5)) ⟨g, 26, none⟩ (.int .i64 g6)) ⟨g, 27, none⟩ (.int .i64 g7)) = w10 at HA HW BE ⊢
  go_upto_region 9 with (first | (go_at_call 89; (with_reducible refine (line_recovers g { s with sent := f1, told := f2, out := f3, has := r1, mean := r2, far := r3, lv := .slice A m c, rid := q1, rend := q2, hlast := g1, hleast := g2, hmany := g3, hgentle := g4, hdone := g5, hbase := g6, hrounds := g7, back := 0 } n false hn hRc.out _ HA.out).mono ?_); rintro e wr ⟨rfl, hb⟩; replace HA := Aside0.mk (HA.out.below hb); replace HW := Aside0.mk (HW.out.below hb); replace BE := bbZ BE hb; clear hb; have z38 := LnAt.cell HA 38 (.bool s.lim); have z38b := c1.out) | fail)
  clear z38 z38b
  replace HA := Aside0.mk HA.out.drew
  replace HW := Aside0.mk HW.out.drew
  replace BE := Aside0.mk (blk_drew BE.out)
  refine start_ (n := 13) (S := fun w' => w'.cell? ⟨be, 2, none⟩ = some (.int .i64 eb) ∧ w'.cell? ⟨g, 0, none⟩ = some (.int .i64 s.seg)) (ds := []) #[N,N,N,N,N,N,N,N,N,N,N,N,N] (by kernel_rfl) rfl rfl ⟨czZ BE 2 (.int .i64 eb), LnAt.cell HA 0 (.int .i64 s.seg)⟩ (fun hHeld => ?_)
  generalize wr.drew = w11 at HA HW BE hHeld ⊢
  refine pureA_ (i := 0) (N := some 77) #[Y,N,N,N,N,N,N,N,N,N,N,N,N] rfl rfl (by kernel_rfl) ?_
  refine take_ (i := 1) (N := some 78) (v := ?_) (a' := ?_) #[Y,Y,N,N,N,N,N,N,N,N,N,N,N] rfl rfl (by kernel_rfl) (fun _ _ _ h => h) (Or.inl ⟨by rfl, ?_⟩) hHeld ?_ ?_; rotate_left
  · rintro w' ⟨s0, s1⟩; go_simp
    with_reducible rfl
  rotate_left
  · simp only [Act.put, sA, sB, sC, i64_w, i32_w]
    rfl
  refine pureA_ (i := 2) (N := some 79) #[Y,Y,Y,N,N,N,N,N,N,N,N,N,N] rfl rfl (by kernel_rfl) ?_
  refine pureA_ (i := 3) (N := some 80) #[Y,Y,Y,Y,N,N,N,N,N,N,N,N,N] rfl rfl (by kernel_rfl) ?_
  refine pureA_ (i := 4) (N := some 81) #[Y,Y,Y,Y,Y,N,N,N,N,N,N,N,N] rfl rfl (by kernel_rfl) ?_
  refine pureA_ (i := 5) (N := some 82) #[Y,Y,Y,Y,Y,Y,N,N,N,N,N,N,N] rfl rfl (by kernel_rfl) ?_
  refine pureA_ (i := 6) (N := some 83) #[Y,Y,Y,Y,Y,Y,Y,N,N,N,N,N,N] rfl rfl (by kernel_rfl) ?_
  refine take_ (i := 7) (N := some 84) (v := ?_) (a' := ?_) #[Y,Y,Y,Y,Y,Y,Y,Y,N,N,N,N,N] rfl rfl (by kernel_rfl) (fun _ _ _ h => h) (Or.inl ⟨by rfl, ?_⟩) hHeld ?_ ?_; rotate_left
  · rintro w' ⟨s0, s1⟩; go_simp
    with_reducible rfl
  rotate_left
  · simp only [Act.put, sA, sB, sC, i64_w, i32_w]
    rfl
  refine one_ (i := 8) (N := some 85) #[Y,Y,Y,Y,Y,Y,Y,Y,Y,N,N,N,N] rfl rfl (by kernel_rfl) (by decide) (fun K hK => ?_)
  refine goesA_ Tryz.func90 rfl #[.int .i64 eb, .int .i64 s.seg] (by rfl) rfl rfl ?_
  (with_reducible refine (frac_SegsS.calls eb s.seg td 0 _ hSg.out).mono ?_); rintro e w12 ⟨rfl, hb⟩; refine ⟨_, rfl, ?_⟩; replace HA := Aside0.mk (HA.out.below hb); replace HW := Aside0.mk (HW.out.below hb); replace BE := bbZ BE hb; clear hb
  refine hK.out _ _ ⟨czZ BE 2 (.int .i64 eb), LnAt.cell HA 0 (.int .i64 s.seg)⟩ (fun hHeld => ?_); clear hK K; refine normA_ (some 85) ?_
  refine pureA_ (i := 9) (N := some 86) #[Y,Y,Y,Y,Y,Y,Y,Y,Y,Y,N,N,N] rfl rfl (by kernel_rfl) ?_
  refine pureA_ (i := 10) (N := some 87) #[Y,Y,Y,Y,Y,Y,Y,Y,Y,Y,Y,N,N] rfl rfl (by kernel_rfl) ?_
  refine one_ (i := 11) (N := some 88) #[Y,Y,Y,Y,Y,Y,Y,Y,Y,Y,Y,Y,N] rfl rfl (by kernel_rfl) (by decide) (fun K hK => ?_)
  refine goesA_ Tryz.func32 rfl #[.int .i64 td, .int .i64 0] (by rfl) rfl rfl ?_
  (with_reducible refine (got_int_ok (.int .i64 td) _).mono ?_); rintro e w13 ⟨rfl, rfl⟩; refine ⟨_, rfl, ?_⟩
  refine hK.out _ _ ⟨czZ BE 2 (.int .i64 eb), LnAt.cell HA 0 (.int .i64 s.seg)⟩ (fun hHeld => ?_); clear hK K; refine normA_ (some 88) ?_
  refine pureA_ (i := 12) (N := some 5) #[Y,Y,Y,Y,Y,Y,Y,Y,Y,Y,Y,Y,Y] rfl rfl (by kernel_rfl) ?_
  refine done_ (by kernel_rfl) ?_
  go_upto_region 11 with (first | (go_at_call 76; (with_reducible refine (line_slow g { s with sent := f1, told := f2, out := f3, has := r1, mean := r2, far := r3, lv := .slice A m c, rid := q1, rend := q2, hlast := g1, hleast := g2, hmany := g3, hgentle := g4, hdone := g5, hbase := g6, hrounds := g7, back := 0 } true hSl.out _ HA.out).mono ?_); rintro e wk ⟨rfl, hb⟩; replace HA := Aside0.mk (HA.out.below hb); replace HW := Aside0.mk (HW.out.below hb); replace BE := bbZ BE hb; clear hb) | fail)
  replace HA := Aside0.mk HA.out.drew
  replace HW := Aside0.mk HW.out.drew
  replace BE := Aside0.mk (blk_drew BE.out)
  refine start_ (n := 25) (S := fun w' => w'.cell? ⟨g, 9, none⟩ = some (.int .i64 s.win) ∧ w'.cell? ⟨g, 21, none⟩ = some (.int .i64 g1) ∧ w'.cell? ⟨g, 22, none⟩ = some (.int .i64 g2) ∧ w'.cell? ⟨g, 23, none⟩ = some (.int .i64 g3) ∧ w'.cell? ⟨g, 24, none⟩ = some (.bool g4) ∧ w'.cell? ⟨g, 25, none⟩ = some (.bool g5) ∧ w'.cell? ⟨g, 26, none⟩ = some (.int .i64 g6) ∧ w'.cell? ⟨g, 27, none⟩ = some (.int .i64 g7) ∧ w'.cell? ⟨g, 1, none⟩ = some (.int .i64 s.mx)) (ds := [24]) #[N,N,N,N,N,N,N,N,N,N,N,N,N,N,N,N,N,N,N,N,N,N,N,N,N] (by kernel_rfl) rfl rfl ⟨LnAt.cell HA 9 (.int .i64 s.win), LnAt.cell HA 21 (.int .i64 g1), LnAt.cell HA 22 (.int .i64 g2), LnAt.cell HA 23 (.int .i64 g3), LnAt.cell HA 24 (.bool g4), LnAt.cell HA 25 (.bool g5), LnAt.cell HA 26 (.int .i64 g6), LnAt.cell HA 27 (.int .i64 g7), LnAt.cell HA 1 (.int .i64 s.mx)⟩ (fun hHeld => ?_)
  generalize wk.drew = w14 at HA HW BE hHeld ⊢
  refine pureA_ (i := 0) (N := some 91) #[Y,N,N,N,N,N,N,N,N,N,N,N,N,N,N,N,N,N,N,N,N,N,N,N,N] rfl rfl (by kernel_rfl) ?_
  refine pureA_ (i := 1) (N := some 92) #[Y,Y,N,N,N,N,N,N,N,N,N,N,N,N,N,N,N,N,N,N,N,N,N,N,N] rfl rfl (by kernel_rfl) ?_
  refine pureA_ (i := 2) (N := some 93) #[Y,Y,Y,N,N,N,N,N,N,N,N,N,N,N,N,N,N,N,N,N,N,N,N,N,N] rfl rfl (by kernel_rfl) ?_
  refine pureA_ (i := 3) (N := some 94) #[Y,Y,Y,Y,N,N,N,N,N,N,N,N,N,N,N,N,N,N,N,N,N,N,N,N,N] rfl rfl (by kernel_rfl) ?_
  refine pureA_ (i := 4) (N := some 95) #[Y,Y,Y,Y,Y,N,N,N,N,N,N,N,N,N,N,N,N,N,N,N,N,N,N,N,N] rfl rfl (by kernel_rfl) ?_
  refine take_ (i := 5) (N := some 96) (v := ?_) (a' := ?_) #[Y,Y,Y,Y,Y,Y,N,N,N,N,N,N,N,N,N,N,N,N,N,N,N,N,N,N,N] rfl rfl (by kernel_rfl) (fun _ _ _ h => h) (Or.inl ⟨by rfl, ?_⟩) hHeld ?_ ?_; rotate_left
  · rintro w' ⟨s0, s1, s2, s3, s4, s5, s6, s7, s8⟩; go_simp
    with_reducible rfl
  rotate_left
  · simp only [Act.put, sA, sB, sC, i64_w, i32_w]
    rfl
  refine pureA_ (i := 6) (N := some 97) #[Y,Y,Y,Y,Y,Y,Y,N,N,N,N,N,N,N,N,N,N,N,N,N,N,N,N,N,N] rfl rfl (by kernel_rfl) ?_
  refine pureA_ (i := 7) (N := some 98) #[Y,Y,Y,Y,Y,Y,Y,Y,N,N,N,N,N,N,N,N,N,N,N,N,N,N,N,N,N] rfl rfl (by kernel_rfl) ?_
  refine pureA_ (i := 8) (N := some 99) #[Y,Y,Y,Y,Y,Y,Y,Y,Y,N,N,N,N,N,N,N,N,N,N,N,N,N,N,N,N] rfl rfl (by kernel_rfl) ?_
  refine pureA_ (i := 9) (N := some 100) #[Y,Y,Y,Y,Y,Y,Y,Y,Y,Y,N,N,N,N,N,N,N,N,N,N,N,N,N,N,N] rfl rfl (by kernel_rfl) ?_
  refine pureA_ (i := 10) (N := some 101) #[Y,Y,Y,Y,Y,Y,Y,Y,Y,Y,Y,N,N,N,N,N,N,N,N,N,N,N,N,N,N] rfl rfl (by kernel_rfl) ?_
  refine take_ (i := 11) (N := some 102) (v := ?_) (a' := ?_) #[Y,Y,Y,Y,Y,Y,Y,Y,Y,Y,Y,Y,N,N,N,N,N,N,N,N,N,N,N,N,N] rfl rfl (by kernel_rfl) (fun _ _ _ h => h) (Or.inl ⟨by rfl, ?_⟩) hHeld ?_ ?_; rotate_left
  · rintro w' ⟨s0, s1, s2, s3, s4, s5, s6, s7, s8⟩; go_simp
    with_reducible rfl
  rotate_left
  · simp only [Act.put, sA, sB, sC, i64_w, i32_w]
    rfl
  refine pureA_ (i := 13) (N := some 104) #[Y,Y,Y,Y,Y,Y,Y,Y,Y,Y,Y,Y,N,Y,N,N,N,N,N,N,N,N,N,N,N] rfl rfl (by kernel_rfl) ?_
  refine pureA_ (i := 14) (N := some 105) #[Y,Y,Y,Y,Y,Y,Y,Y,Y,Y,Y,Y,N,Y,Y,N,N,N,N,N,N,N,N,N,N] rfl rfl (by kernel_rfl) ?_
  refine pureA_ (i := 15) (N := some 106) #[Y,Y,Y,Y,Y,Y,Y,Y,Y,Y,Y,Y,N,Y,Y,Y,N,N,N,N,N,N,N,N,N] rfl rfl (by kernel_rfl) ?_
  refine pureA_ (i := 16) (N := some 107) #[Y,Y,Y,Y,Y,Y,Y,Y,Y,Y,Y,Y,N,Y,Y,Y,Y,N,N,N,N,N,N,N,N] rfl rfl (by kernel_rfl) ?_
  refine pureA_ (i := 17) (N := some 108) #[Y,Y,Y,Y,Y,Y,Y,Y,Y,Y,Y,Y,N,Y,Y,Y,Y,Y,N,N,N,N,N,N,N] rfl rfl (by kernel_rfl) ?_
  refine take_ (i := 18) (N := some 109) (v := ?_) (a' := ?_) #[Y,Y,Y,Y,Y,Y,Y,Y,Y,Y,Y,Y,N,Y,Y,Y,Y,Y,Y,N,N,N,N,N,N] rfl rfl (by kernel_rfl) (fun _ _ _ h => h) (Or.inl ⟨by rfl, ?_⟩) hHeld ?_ ?_; rotate_left
  · rintro w' ⟨s0, s1, s2, s3, s4, s5, s6, s7, s8⟩; go_simp
    with_reducible rfl
  rotate_left
  · simp only [Act.put, sA, sB, sC, i64_w, i32_w]
    rfl
  refine pureA_ (i := 19) (N := some 110) #[Y,Y,Y,Y,Y,Y,Y,Y,Y,Y,Y,Y,N,Y,Y,Y,Y,Y,Y,Y,N,N,N,N,N] rfl rfl (by kernel_rfl) ?_
  refine one_ (i := 12) (N := some 103) #[Y,Y,Y,Y,Y,Y,Y,Y,Y,Y,Y,Y,Y,Y,Y,Y,Y,Y,Y,Y,N,N,N,N,N] rfl rfl (by kernel_rfl) (by decide) (fun K hK => ?_)
  refine goesA_ Tryz.func92 rfl #[.int .i64 s.win, .int .i64 td, .agg #[.int .i64 g1, .int .i64 g2, .int .i64 g3, .bool g4, .bool g5, .int .i64 g6, .int .i64 g7]] (by rfl) rfl rfl ?_
  (with_reducible refine (grow_Slow.calls s.win td g1 g2 g3 g4 g5 g6 g7 v1 _ hG.out).mono ?_); rintro e w15 ⟨rfl, hb⟩; refine ⟨_, rfl, ?_⟩; replace HA := Aside0.mk (HA.out.below hb); replace HW := Aside0.mk (HW.out.below hb); replace BE := bbZ BE hb; clear hb
  refine hK.out _ _ ⟨LnAt.cell HA 9 (.int .i64 s.win), LnAt.cell HA 21 (.int .i64 g1), LnAt.cell HA 22 (.int .i64 g2), LnAt.cell HA 23 (.int .i64 g3), LnAt.cell HA 24 (.bool g4), LnAt.cell HA 25 (.bool g5), LnAt.cell HA 26 (.int .i64 g6), LnAt.cell HA 27 (.int .i64 g7), LnAt.cell HA 1 (.int .i64 s.mx)⟩ (fun hHeld => ?_); clear hK K; refine normA_ (some 103) ?_
  refine one_ (i := 20) (N := some 111) #[Y,Y,Y,Y,Y,Y,Y,Y,Y,Y,Y,Y,Y,Y,Y,Y,Y,Y,Y,Y,Y,N,N,N,N] rfl rfl (by kernel_rfl) (by decide) (fun K hK => ?_)
  refine goesA_ Tryz.func91 rfl #[.int .i64 v1, .int .i64 (wrap64 (s.mx * 65536))] (by rfl) rfl rfl ?_
  (with_reducible refine (grow_LimitS.calls v1 (wrap64 (s.mx * 65536)) v2 _ hLm.out).mono ?_); rintro e w16 ⟨rfl, hb⟩; refine ⟨_, rfl, ?_⟩; replace HA := Aside0.mk (HA.out.below hb); replace HW := Aside0.mk (HW.out.below hb); replace BE := bbZ BE hb; clear hb
  refine hK.out _ _ ⟨LnAt.cell HA 9 (.int .i64 s.win), LnAt.cell HA 21 (.int .i64 g1), LnAt.cell HA 22 (.int .i64 g2), LnAt.cell HA 23 (.int .i64 g3), LnAt.cell HA 24 (.bool g4), LnAt.cell HA 25 (.bool g5), LnAt.cell HA 26 (.int .i64 g6), LnAt.cell HA 27 (.int .i64 g7), LnAt.cell HA 1 (.int .i64 s.mx)⟩ (fun hHeld => ?_); clear hK K; refine normA_ (some 111) ?_
  refine pureA_ (i := 21) (N := some 112) #[Y,Y,Y,Y,Y,Y,Y,Y,Y,Y,Y,Y,Y,Y,Y,Y,Y,Y,Y,Y,Y,Y,N,N,N] rfl rfl (by kernel_rfl) ?_
  refine pureA_ (i := 22) (N := some 113) #[Y,Y,Y,Y,Y,Y,Y,Y,Y,Y,Y,Y,Y,Y,Y,Y,Y,Y,Y,Y,Y,Y,Y,N,N] rfl rfl (by kernel_rfl) ?_
  refine pureA_ (i := 23) (N := some 114) #[Y,Y,Y,Y,Y,Y,Y,Y,Y,Y,Y,Y,Y,Y,Y,Y,Y,Y,Y,Y,Y,Y,Y,Y,N] rfl rfl (by kernel_rfl) ?_
  refine last_ (i := 24) (N := none) #[Y,Y,Y,Y,Y,Y,Y,Y,Y,Y,Y,Y,Y,Y,Y,Y,Y,Y,Y,Y,Y,Y,Y,Y,Y] rfl rfl (by kernel_rfl) (by decide) (fun K hK => ?_); have z9 := LnAt.cell HA 9 (.int .i64 s.win); have z9f := LnAt.frozen HA 9; refine skip_ (w1 := ?_) (by rfl) rfl ?_ ?_; rotate_left
  · go_simp
    rfl
  refine hK.out _ _ ?_; clear hK K; clear z9 z9f
  (try clear hHeld)
  replace HA := Aside0.mk (LnAt.set (t := { s with win := v2, sent := f1, told := f2, out := f3, has := r1, mean := r2, far := r3, lv := .slice A m c, rid := q1, rend := q2, hlast := g1, hleast := g2, hmany := g3, hgentle := g4, hdone := g5, hbase := g6, hrounds := g7, back := 0 }) HA.out 9 (.int .i64 v2))
  replace HW := Aside0.mk (HW.out.set 9 (.int .i64 v2))
  replace BE := Aside0.mk (blk_far (p := ⟨g, 9, none⟩) BE.out ME.out (.int .i64 v2))
  generalize (World.setCell w16 ⟨g, 9, none⟩ (.int .i64 v2)) = w17 at HA HW BE ⊢
  refine done_ (by kernel_rfl) ?_
  have z25 := LnAt.cell HA 25 (.bool g5)
  have c2' := c2.out
  go_wp2
  refine bodyPost_ret (results_none rfl _ _ _) rfl ?_
  exact ⟨A, m, c, rfl, HA.out, HW.out⟩

end Go.Proofs.YtfahbgkoldoflaaGreatDoor.Px
