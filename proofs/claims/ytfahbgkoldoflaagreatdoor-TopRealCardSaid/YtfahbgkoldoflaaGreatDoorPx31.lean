/- By hand. Conditions: none beside the theorems' own. -/
import Derived.Test.YtfahbgkoldoflaaGreatDoorPx0
import Derived.Test.YtfahbgkoldoflaaGreatDoorPx7
import Derived.Test.YtfahbgkoldoflaaGreatDoorPx22
import Derived.Test.YtfahbgkoldoflaaGreatDoorPx30
namespace Go.Proofs.YtfahbgkoldoflaaGreatDoor.Px
open Go.RowKit Go.Proofs.YtfahbgkoldoflaaGreatDoorW.PrintWords Go.Proofs.YtfahbgkoldoflaaGreatDoorW.PrintLast Go.Proofs.YtfahbgkoldoflaaGreatDoorW.PrintMore
attribute [local go_sem] max2_int min2_int max_two min_two max_three min_three max_four min_four   -- for this text's walks alone
set_option linter.unusedVariables false
set_option linter.unusedSimpArgs false

/-! ### top_send: function 38 -/
/-! top: by hand -/
set_option maxRecDepth 100000 in
set_option maxHeartbeats 4000000 in
theorem line_send0 (g : Nat) (s : Ln) (k k2 : Nat) (ek ea eb er T W1 p2 p3 p4 p5 p6 room f1 f2 f3 b1 b2 : Int) (p1 u : Bool) (w : World) (hA : LnAt w g s) (c0 : (s.out == 0) = true)
    (hT : Aside0 (rto_Of.f k s.has s.mean s.far s.seg s.mx s.fst s.grain s.least s.great s.burst s.back = some T)) (hI : Aside0 (guide_Idle.f s.win s.last ea T s.seg s.mx s.fst s.grain s.least s.great s.burst = some W1)) (hP : Aside0 (guide_Pause.f s.eon s.estart s.efirst s.emax s.ek s.eest s.last ea = some (p1, p2, p3, p4, p5, p6)))
    (hR : Aside0 (frac_BytesS.f W1 s.seg = some (room, 0))) (hS : Aside0 (flight_Send.f k2 s.sent s.told s.out eb room = some (f1, f2, f3, 0))) (hB : Aside0 (bucket_TakeS.f s.bat s.bhave eb = some (b1, b2, 0))) (hU : Aside0 (guide_UsedS.f W1 f3 s.seg = some u)) :
    Calls Tryz.prog 38 #[.pointer (some ⟨g, 0, none⟩), .agg #[.int .i64 ek, .int .i64 ea, .int .i64 eb, .int .i64 er]] w fun e w' => e = .returned (.tuple #[]) ∧ LnAt w' g { s with last := ea, win := W1, sent := f1, told := f2, out := f3, eon := p1, estart := p2, efirst := p3, emax := p4, ek := p5, eest := p6, bat := b1, bhave := b2, lim := !u } ∧ WrB g w w' := by
  have HA := Aside0.mk hA
  have HW := Aside0.mk (WrB.refl g w)
  clear hA
  go_enter Tryz.func38, Tryz.ntmps38
  go_upto_region 2 with (first | ((with_reducible refine gate_dst (N := 3) rfl ?_); refine box_event ?hg (N := 3) ?hd (cs := #[.int .i64 ek, .int .i64 ea, .int .i64 eb, .int .i64 er]) (t := 52) ?hr ?_; (case hd => rfl); (case hg => rfl); (case hr => first | (go_simp; done) | (go_simp; rfl)); intro be hg wb hbox hb; have BE := Aside0.mk hbox; obtain ⟨NE, ME, nHA⟩ := nbA (o := .cells s.cells 83 (0, 0)) HA hg hb; replace HA : Aside0 (LnAt wb g s) := nHA; replace HW := Aside0.mk (HW.out.below hb); clear nHA hb hbox hg; have z14 := LnAt.cell HA 14 (.int .i64 s.out)) | fail)
  clear z14
  replace HA := Aside0.mk HA.out.drew
  replace HW := Aside0.mk HW.out.drew
  replace BE := Aside0.mk (blk_drew BE.out)
  refine start_ (n := 25) (S := fun w' => w'.cell? ⟨g, 9, none⟩ = some (.int .i64 s.win) ∧ w'.cell? ⟨g, 8, none⟩ = some (.int .i64 s.last) ∧ w'.cell? ⟨g, 0, none⟩ = some (.int .i64 s.seg) ∧ w'.cell? ⟨g, 1, none⟩ = some (.int .i64 s.mx) ∧ w'.cell? ⟨g, 2, none⟩ = some (.int .i64 s.fst) ∧ w'.cell? ⟨g, 3, none⟩ = some (.int .i64 s.grain) ∧ w'.cell? ⟨g, 4, none⟩ = some (.int .i64 s.least) ∧ w'.cell? ⟨g, 5, none⟩ = some (.int .i64 s.great) ∧ w'.cell? ⟨g, 6, none⟩ = some (.int .i64 s.burst) ∧ w'.cell? ⟨be, 1, none⟩ = some (.int .i64 ea)) (ds := [24]) #[N,N,N,N,N,N,N,N,N,N,N,N,N,N,N,N,N,N,N,N,N,N,N,N,N] (by kernel_rfl) rfl rfl ⟨LnAt.cell HA 9 (.int .i64 s.win), LnAt.cell HA 8 (.int .i64 s.last), LnAt.cell HA 0 (.int .i64 s.seg), LnAt.cell HA 1 (.int .i64 s.mx), LnAt.cell HA 2 (.int .i64 s.fst), LnAt.cell HA 3 (.int .i64 s.grain), LnAt.cell HA 4 (.int .i64 s.least), LnAt.cell HA 5 (.int .i64 s.great), LnAt.cell HA 6 (.int .i64 s.burst), czZ BE 1 (.int .i64 ea)⟩ (fun hHeld => ?_)
  generalize wb.drew = w1 at HA HW BE hHeld ⊢
  refine pureA_ (i := 0) (N := some 13) #[Y,N,N,N,N,N,N,N,N,N,N,N,N,N,N,N,N,N,N,N,N,N,N,N,N] rfl rfl (by kernel_rfl) ?_
  refine pureA_ (i := 1) (N := some 14) #[Y,Y,N,N,N,N,N,N,N,N,N,N,N,N,N,N,N,N,N,N,N,N,N,N,N] rfl rfl (by kernel_rfl) ?_
  refine pureA_ (i := 2) (N := some 15) #[Y,Y,Y,N,N,N,N,N,N,N,N,N,N,N,N,N,N,N,N,N,N,N,N,N,N] rfl rfl (by kernel_rfl) ?_
  refine pureA_ (i := 3) (N := some 16) #[Y,Y,Y,Y,N,N,N,N,N,N,N,N,N,N,N,N,N,N,N,N,N,N,N,N,N] rfl rfl (by kernel_rfl) ?_
  refine pureA_ (i := 4) (N := some 17) #[Y,Y,Y,Y,Y,N,N,N,N,N,N,N,N,N,N,N,N,N,N,N,N,N,N,N,N] rfl rfl (by kernel_rfl) ?_
  refine take_ (i := 5) (N := some 18) (v := ?_) (a' := ?_) #[Y,Y,Y,Y,Y,Y,N,N,N,N,N,N,N,N,N,N,N,N,N,N,N,N,N,N,N] rfl rfl (by kernel_rfl) (fun _ _ _ h => h) (Or.inl ⟨by rfl, ?_⟩) hHeld ?_ ?_; rotate_left
  · rintro w' ⟨s0, s1, s2, s3, s4, s5, s6, s7, s8, s9⟩; go_simp
    with_reducible rfl
  rotate_left
  · simp only [Act.put, sA, sB, sC, i64_w, i32_w]
    rfl
  refine pureA_ (i := 6) (N := some 19) #[Y,Y,Y,Y,Y,Y,Y,N,N,N,N,N,N,N,N,N,N,N,N,N,N,N,N,N,N] rfl rfl (by kernel_rfl) ?_
  refine pureA_ (i := 7) (N := some 20) #[Y,Y,Y,Y,Y,Y,Y,Y,N,N,N,N,N,N,N,N,N,N,N,N,N,N,N,N,N] rfl rfl (by kernel_rfl) ?_
  refine pureA_ (i := 8) (N := some 21) #[Y,Y,Y,Y,Y,Y,Y,Y,Y,N,N,N,N,N,N,N,N,N,N,N,N,N,N,N,N] rfl rfl (by kernel_rfl) ?_
  refine pureA_ (i := 9) (N := some 22) #[Y,Y,Y,Y,Y,Y,Y,Y,Y,Y,N,N,N,N,N,N,N,N,N,N,N,N,N,N,N] rfl rfl (by kernel_rfl) ?_
  refine take_ (i := 10) (N := some 23) (v := ?_) (a' := ?_) #[Y,Y,Y,Y,Y,Y,Y,Y,Y,Y,Y,N,N,N,N,N,N,N,N,N,N,N,N,N,N] rfl rfl (by kernel_rfl) (fun _ _ _ h => h) (Or.inl ⟨by rfl, ?_⟩) hHeld ?_ ?_; rotate_left
  · rintro w' ⟨s0, s1, s2, s3, s4, s5, s6, s7, s8, s9⟩; go_simp
    with_reducible rfl
  rotate_left
  · simp only [Act.put, sA, sB, sC, i64_w, i32_w]
    rfl
  refine pureA_ (i := 11) (N := some 24) #[Y,Y,Y,Y,Y,Y,Y,Y,Y,Y,Y,Y,N,N,N,N,N,N,N,N,N,N,N,N,N] rfl rfl (by kernel_rfl) ?_
  refine take_ (i := 12) (N := some 25) (v := ?_) (a' := ?_) #[Y,Y,Y,Y,Y,Y,Y,Y,Y,Y,Y,Y,Y,N,N,N,N,N,N,N,N,N,N,N,N] rfl rfl (by kernel_rfl) (fun _ _ _ h => h) (Or.inl ⟨by rfl, ?_⟩) hHeld ?_ ?_; rotate_left
  · rintro w' ⟨s0, s1, s2, s3, s4, s5, s6, s7, s8, s9⟩; go_simp
    with_reducible rfl
  rotate_left
  · simp only [Act.put, sA, sB, sC, i64_w, i32_w]
    rfl
  refine pureA_ (i := 13) (N := some 26) #[Y,Y,Y,Y,Y,Y,Y,Y,Y,Y,Y,Y,Y,Y,N,N,N,N,N,N,N,N,N,N,N] rfl rfl (by kernel_rfl) ?_
  refine pureA_ (i := 15) (N := some 28) #[Y,Y,Y,Y,Y,Y,Y,Y,Y,Y,Y,Y,Y,Y,N,Y,N,N,N,N,N,N,N,N,N] rfl rfl (by kernel_rfl) ?_
  refine pureA_ (i := 16) (N := some 29) #[Y,Y,Y,Y,Y,Y,Y,Y,Y,Y,Y,Y,Y,Y,N,Y,Y,N,N,N,N,N,N,N,N] rfl rfl (by kernel_rfl) ?_
  refine pureA_ (i := 17) (N := some 30) #[Y,Y,Y,Y,Y,Y,Y,Y,Y,Y,Y,Y,Y,Y,N,Y,Y,Y,N,N,N,N,N,N,N] rfl rfl (by kernel_rfl) ?_
  refine pureA_ (i := 18) (N := some 31) #[Y,Y,Y,Y,Y,Y,Y,Y,Y,Y,Y,Y,Y,Y,N,Y,Y,Y,Y,N,N,N,N,N,N] rfl rfl (by kernel_rfl) ?_
  refine take_ (i := 19) (N := some 32) (v := ?_) (a' := ?_) #[Y,Y,Y,Y,Y,Y,Y,Y,Y,Y,Y,Y,Y,Y,N,Y,Y,Y,Y,Y,N,N,N,N,N] rfl rfl (by kernel_rfl) (fun _ _ _ h => h) (Or.inl ⟨by rfl, ?_⟩) hHeld ?_ ?_; rotate_left
  · rintro w' ⟨s0, s1, s2, s3, s4, s5, s6, s7, s8, s9⟩; go_simp
    with_reducible rfl
  rotate_left
  · simp only [Act.put, sA, sB, sC, i64_w, i32_w]
    rfl
  refine one_ (i := 14) (N := some 27) #[Y,Y,Y,Y,Y,Y,Y,Y,Y,Y,Y,Y,Y,Y,Y,Y,Y,Y,Y,Y,N,N,N,N,N] rfl rfl (by kernel_rfl) (by decide) (fun K hK => ?_)
  refine goesA_ Tryz.func46 rfl #[.pointer (some ⟨g, 0, none⟩)] (by rfl) rfl rfl ?_
  (with_reducible refine (line_timeout g s k T hT _ HA.out).mono ?_); rintro e w2 ⟨rfl, hb⟩; refine ⟨_, rfl, ?_⟩; replace HA := Aside0.mk (HA.out.below hb); replace HW := Aside0.mk (HW.out.below hb); replace BE := bbZ BE hb; clear hb
  refine hK.out _ _ ⟨LnAt.cell HA 9 (.int .i64 s.win), LnAt.cell HA 8 (.int .i64 s.last), LnAt.cell HA 0 (.int .i64 s.seg), LnAt.cell HA 1 (.int .i64 s.mx), LnAt.cell HA 2 (.int .i64 s.fst), LnAt.cell HA 3 (.int .i64 s.grain), LnAt.cell HA 4 (.int .i64 s.least), LnAt.cell HA 5 (.int .i64 s.great), LnAt.cell HA 6 (.int .i64 s.burst), czZ BE 1 (.int .i64 ea)⟩ (fun hHeld => ?_); clear hK K; refine normA_ (some 27) ?_
  refine one_ (i := 20) (N := some 33) #[Y,Y,Y,Y,Y,Y,Y,Y,Y,Y,Y,Y,Y,Y,Y,Y,Y,Y,Y,Y,Y,N,N,N,N] rfl rfl (by kernel_rfl) (by decide) (fun K hK => ?_)
  refine goesA_ Tryz.func77 rfl #[.int .i64 s.win, .int .i64 s.last, .int .i64 ea, .int .i64 T, .agg #[.int .i64 s.seg, .int .i64 s.mx, .int .i64 s.fst, .int .i64 s.grain, .int .i64 s.least, .int .i64 s.great, .int .i64 s.burst]] (by rfl) rfl rfl ?_
  (with_reducible refine (guide_Idle.calls s.win s.last ea T s.seg s.mx s.fst s.grain s.least s.great s.burst W1 _ hI.out).mono ?_); rintro e w3 ⟨rfl, hb⟩; refine ⟨_, rfl, ?_⟩; replace HA := Aside0.mk (HA.out.below hb); replace HW := Aside0.mk (HW.out.below hb); replace BE := bbZ BE hb; clear hb
  refine hK.out _ _ ⟨LnAt.cell HA 9 (.int .i64 s.win), LnAt.cell HA 8 (.int .i64 s.last), LnAt.cell HA 0 (.int .i64 s.seg), LnAt.cell HA 1 (.int .i64 s.mx), LnAt.cell HA 2 (.int .i64 s.fst), LnAt.cell HA 3 (.int .i64 s.grain), LnAt.cell HA 4 (.int .i64 s.least), LnAt.cell HA 5 (.int .i64 s.great), LnAt.cell HA 6 (.int .i64 s.burst), czZ BE 1 (.int .i64 ea)⟩ (fun hHeld => ?_); clear hK K; refine normA_ (some 33) ?_
  refine pureA_ (i := 21) (N := some 34) #[Y,Y,Y,Y,Y,Y,Y,Y,Y,Y,Y,Y,Y,Y,Y,Y,Y,Y,Y,Y,Y,Y,N,N,N] rfl rfl (by kernel_rfl) ?_
  refine pureA_ (i := 22) (N := some 35) #[Y,Y,Y,Y,Y,Y,Y,Y,Y,Y,Y,Y,Y,Y,Y,Y,Y,Y,Y,Y,Y,Y,Y,N,N] rfl rfl (by kernel_rfl) ?_
  refine pureA_ (i := 23) (N := some 36) #[Y,Y,Y,Y,Y,Y,Y,Y,Y,Y,Y,Y,Y,Y,Y,Y,Y,Y,Y,Y,Y,Y,Y,Y,N] rfl rfl (by kernel_rfl) ?_
  refine last_ (i := 24) (N := none) #[Y,Y,Y,Y,Y,Y,Y,Y,Y,Y,Y,Y,Y,Y,Y,Y,Y,Y,Y,Y,Y,Y,Y,Y,Y] rfl rfl (by kernel_rfl) (by decide) (fun K hK => ?_); have z9 := LnAt.cell HA 9 (.int .i64 s.win); have z9f := LnAt.frozen HA 9; refine skip_ (w1 := ?_) (by rfl) rfl ?_ ?_; rotate_left
  · go_simp
    rfl
  refine hK.out _ _ ?_; clear hK K; clear z9 z9f
  (try clear hHeld)
  replace HA := Aside0.mk (LnAt.set (t := { s with win := W1 }) HA.out 9 (.int .i64 W1))
  replace HW := Aside0.mk (HW.out.set 9 (.int .i64 W1))
  replace BE := Aside0.mk (blk_far (p := ⟨g, 9, none⟩) BE.out ME.out (.int .i64 W1))
  generalize (World.setCell w3 ⟨g, 9, none⟩ (.int .i64 W1)) = w4 at HA HW BE ⊢
  refine done_ (by kernel_rfl) ?_
  go_upto_region 3 with fail
  replace HA := Aside0.mk HA.out.drew
  replace HW := Aside0.mk HW.out.drew
  replace BE := Aside0.mk (blk_drew BE.out)
  refine start_ (n := 18) (S := fun w' => w'.cell? ⟨g, 28, none⟩ = some (.bool s.eon) ∧ w'.cell? ⟨g, 29, none⟩ = some (.int .i64 s.estart) ∧ w'.cell? ⟨g, 30, none⟩ = some (.int .i64 s.efirst) ∧ w'.cell? ⟨g, 31, none⟩ = some (.int .i64 s.emax) ∧ w'.cell? ⟨g, 32, none⟩ = some (.int .i64 s.ek) ∧ w'.cell? ⟨g, 33, none⟩ = some (.int .i64 s.eest) ∧ w'.cell? ⟨g, 8, none⟩ = some (.int .i64 s.last) ∧ w'.cell? ⟨be, 1, none⟩ = some (.int .i64 ea)) (ds := [17]) #[N,N,N,N,N,N,N,N,N,N,N,N,N,N,N,N,N,N] (by kernel_rfl) rfl rfl ⟨LnAt.cell HA 28 (.bool s.eon), LnAt.cell HA 29 (.int .i64 s.estart), LnAt.cell HA 30 (.int .i64 s.efirst), LnAt.cell HA 31 (.int .i64 s.emax), LnAt.cell HA 32 (.int .i64 s.ek), LnAt.cell HA 33 (.int .i64 s.eest), LnAt.cell HA 8 (.int .i64 s.last), czZ BE 1 (.int .i64 ea)⟩ (fun hHeld => ?_)
  generalize w4.drew = w5 at HA HW BE hHeld ⊢
  refine pureA_ (i := 0) (N := some 37) #[Y,N,N,N,N,N,N,N,N,N,N,N,N,N,N,N,N,N] rfl rfl (by kernel_rfl) ?_
  refine pureA_ (i := 1) (N := some 38) #[Y,Y,N,N,N,N,N,N,N,N,N,N,N,N,N,N,N,N] rfl rfl (by kernel_rfl) ?_
  refine pureA_ (i := 2) (N := some 39) #[Y,Y,Y,N,N,N,N,N,N,N,N,N,N,N,N,N,N,N] rfl rfl (by kernel_rfl) ?_
  refine pureA_ (i := 3) (N := some 40) #[Y,Y,Y,Y,N,N,N,N,N,N,N,N,N,N,N,N,N,N] rfl rfl (by kernel_rfl) ?_
  refine pureA_ (i := 4) (N := some 41) #[Y,Y,Y,Y,Y,N,N,N,N,N,N,N,N,N,N,N,N,N] rfl rfl (by kernel_rfl) ?_
  refine take_ (i := 5) (N := some 42) (v := ?_) (a' := ?_) #[Y,Y,Y,Y,Y,Y,N,N,N,N,N,N,N,N,N,N,N,N] rfl rfl (by kernel_rfl) (fun _ _ _ h => h) (Or.inl ⟨by rfl, ?_⟩) hHeld ?_ ?_; rotate_left
  · rintro w' ⟨s0, s1, s2, s3, s4, s5, s6, s7⟩; go_simp
    with_reducible rfl
  rotate_left
  · simp only [Act.put, sA, sB, sC, i64_w, i32_w]
    rfl
  refine pureA_ (i := 6) (N := some 43) #[Y,Y,Y,Y,Y,Y,Y,N,N,N,N,N,N,N,N,N,N,N] rfl rfl (by kernel_rfl) ?_
  refine pureA_ (i := 7) (N := some 44) #[Y,Y,Y,Y,Y,Y,Y,Y,N,N,N,N,N,N,N,N,N,N] rfl rfl (by kernel_rfl) ?_
  refine pureA_ (i := 8) (N := some 45) #[Y,Y,Y,Y,Y,Y,Y,Y,Y,N,N,N,N,N,N,N,N,N] rfl rfl (by kernel_rfl) ?_
  refine pureA_ (i := 9) (N := some 46) #[Y,Y,Y,Y,Y,Y,Y,Y,Y,Y,N,N,N,N,N,N,N,N] rfl rfl (by kernel_rfl) ?_
  refine take_ (i := 10) (N := some 47) (v := ?_) (a' := ?_) #[Y,Y,Y,Y,Y,Y,Y,Y,Y,Y,Y,N,N,N,N,N,N,N] rfl rfl (by kernel_rfl) (fun _ _ _ h => h) (Or.inl ⟨by rfl, ?_⟩) hHeld ?_ ?_; rotate_left
  · rintro w' ⟨s0, s1, s2, s3, s4, s5, s6, s7⟩; go_simp
    with_reducible rfl
  rotate_left
  · simp only [Act.put, sA, sB, sC, i64_w, i32_w]
    rfl
  refine pureA_ (i := 11) (N := some 48) #[Y,Y,Y,Y,Y,Y,Y,Y,Y,Y,Y,Y,N,N,N,N,N,N] rfl rfl (by kernel_rfl) ?_
  refine take_ (i := 12) (N := some 49) (v := ?_) (a' := ?_) #[Y,Y,Y,Y,Y,Y,Y,Y,Y,Y,Y,Y,Y,N,N,N,N,N] rfl rfl (by kernel_rfl) (fun _ _ _ h => h) (Or.inl ⟨by rfl, ?_⟩) hHeld ?_ ?_; rotate_left
  · rintro w' ⟨s0, s1, s2, s3, s4, s5, s6, s7⟩; go_simp
    with_reducible rfl
  rotate_left
  · simp only [Act.put, sA, sB, sC, i64_w, i32_w]
    rfl
  refine one_ (i := 13) (N := some 50) #[Y,Y,Y,Y,Y,Y,Y,Y,Y,Y,Y,Y,Y,Y,N,N,N,N] rfl rfl (by kernel_rfl) (by decide) (fun K hK => ?_)
  refine goesA_ Tryz.func78 rfl #[.agg #[.bool s.eon, .int .i64 s.estart, .int .i64 s.efirst, .int .i64 s.emax, .int .i64 s.ek, .int .i64 s.eest], .int .i64 s.last, .int .i64 ea] (by rfl) rfl rfl ?_
  (with_reducible refine (guide_Pause.calls s.eon s.estart s.efirst s.emax s.ek s.eest s.last ea p1 p2 p3 p4 p5 p6 _ hP.out).mono ?_); rintro e w6 ⟨rfl, hb⟩; refine ⟨_, rfl, ?_⟩; replace HA := Aside0.mk (HA.out.below hb); replace HW := Aside0.mk (HW.out.below hb); replace BE := bbZ BE hb; clear hb
  refine hK.out _ _ ⟨LnAt.cell HA 28 (.bool s.eon), LnAt.cell HA 29 (.int .i64 s.estart), LnAt.cell HA 30 (.int .i64 s.efirst), LnAt.cell HA 31 (.int .i64 s.emax), LnAt.cell HA 32 (.int .i64 s.ek), LnAt.cell HA 33 (.int .i64 s.eest), LnAt.cell HA 8 (.int .i64 s.last), czZ BE 1 (.int .i64 ea)⟩ (fun hHeld => ?_); clear hK K; refine normA_ (some 50) ?_
  refine pureA_ (i := 14) (N := some 51) #[Y,Y,Y,Y,Y,Y,Y,Y,Y,Y,Y,Y,Y,Y,Y,N,N,N] rfl rfl (by kernel_rfl) ?_
  refine pureA_ (i := 15) (N := some 52) #[Y,Y,Y,Y,Y,Y,Y,Y,Y,Y,Y,Y,Y,Y,Y,Y,N,N] rfl rfl (by kernel_rfl) ?_
  refine pureA_ (i := 16) (N := some 53) #[Y,Y,Y,Y,Y,Y,Y,Y,Y,Y,Y,Y,Y,Y,Y,Y,Y,N] rfl rfl (by kernel_rfl) ?_
  refine last_ (i := 17) (N := none) #[Y,Y,Y,Y,Y,Y,Y,Y,Y,Y,Y,Y,Y,Y,Y,Y,Y,Y] rfl rfl (by kernel_rfl) (by decide) (fun K hK => ?_); have z28 := LnAt.cell HA 28 (.bool s.eon); have z28f := LnAt.frozen HA 28; have z29 := LnAt.cell HA 29 (.int .i64 s.estart); have z29f := LnAt.frozen HA 29; have z30 := LnAt.cell HA 30 (.int .i64 s.efirst); have z30f := LnAt.frozen HA 30; have z31 := LnAt.cell HA 31 (.int .i64 s.emax); have z31f := LnAt.frozen HA 31; have z32 := LnAt.cell HA 32 (.int .i64 s.ek); have z32f := LnAt.frozen HA 32; have z33 := LnAt.cell HA 33 (.int .i64 s.eest); have z33f := LnAt.frozen HA 33; refine skip_ (w1 := ?_) (by rfl) rfl ?_ ?_; rotate_left
  · go_simp
    rfl
  refine hK.out _ _ ?_; clear hK K; clear z28 z29 z30 z31 z32 z33 z28f z29f z30f z31f z32f z33f
  (try clear hHeld)
  replace HA := Aside0.mk (LnAt.set (t := { s with win := W1, eon := p1, estart := p2, efirst := p3, emax := p4, ek := p5, eest := p6 }) (LnAt.set (t := { s with win := W1, eon := p1, estart := p2, efirst := p3, emax := p4, ek := p5 }) (LnAt.set (t := { s with win := W1, eon := p1, estart := p2, efirst := p3, emax := p4 }) (LnAt.set (t := { s with win := W1, eon := p1, estart := p2, efirst := p3 }) (LnAt.set (t := { s with win := W1, eon := p1, estart := p2 }) (LnAt.set (t := { s with win := W1, eon := p1 }) HA.out 28 (.bool p1)) 29 (.int .i64 p2)) 30 (.int .i64 p3)) 31 (.int .i64 p4)) 32 (.int .i64 p5)) 33 (.int .i64 p6))
  replace HW := Aside0.mk ((((((HW.out.set 28 (.bool p1)).set 29 (.int .i64 p2)).set 30 (.int .i64 p3)).set 31 (.int .i64 p4)).set 32 (.int .i64 p5)).set 33 (.int .i64 p6))
  replace BE := Aside0.mk (blk_far (p := ⟨g, 33, none⟩) (blk_far (p := ⟨g, 32, none⟩) (blk_far (p := ⟨g, 31, none⟩) (blk_far (p := ⟨g, 30, none⟩) (blk_far (p := ⟨g, 29, none⟩) (blk_far (p := ⟨g, 28, none⟩) BE.out ME.out (.bool p1)) ME.out (.int .i64 p2)) ME.out (.int .i64 p3)) ME.out (.int .i64 p4)) ME.out (.int .i64 p5)) ME.out (.int .i64 p6))
  generalize (World.setCell (World.setCell (World.setCell (World.setCell (World.setCell (World.setCell w6 ⟨g, 28, none⟩ (.bool p1)) ⟨g, 29, none⟩ (.int .i64 p2)) ⟨g, 30, none⟩ (.int .i64 p3)) ⟨g, 31, none⟩ (.int .i64 p4)) ⟨g, 32, none⟩ (.int .i64 p5)) ⟨g, 33, none⟩ (.int .i64 p6)) = w7 at HA HW BE ⊢
  refine done_ (by kernel_rfl) ?_
  go_upto_region 4 with fail
  replace HA := Aside0.mk HA.out.drew
  replace HW := Aside0.mk HW.out.drew
  replace BE := Aside0.mk (blk_drew BE.out)
  refine start_ (n := 17) (S := fun w' => w'.cell? ⟨g, 9, none⟩ = some (.int .i64 W1) ∧ w'.cell? ⟨g, 0, none⟩ = some (.int .i64 s.seg)) (ds := []) #[N,N,N,N,N,N,N,N,N,N,N,N,N,N,N,N,N] (by kernel_rfl) rfl rfl ⟨LnAt.cell HA 9 (.int .i64 W1), LnAt.cell HA 0 (.int .i64 s.seg)⟩ (fun hHeld => ?_)
  generalize w7.drew = w8 at HA HW BE hHeld ⊢
  refine pureA_ (i := 0) (N := some 55) #[Y,N,N,N,N,N,N,N,N,N,N,N,N,N,N,N,N] rfl rfl (by kernel_rfl) ?_
  refine pureA_ (i := 1) (N := some 56) #[Y,Y,N,N,N,N,N,N,N,N,N,N,N,N,N,N,N] rfl rfl (by kernel_rfl) ?_
  refine pureA_ (i := 2) (N := some 57) #[Y,Y,Y,N,N,N,N,N,N,N,N,N,N,N,N,N,N] rfl rfl (by kernel_rfl) ?_
  refine pureA_ (i := 3) (N := some 58) #[Y,Y,Y,Y,N,N,N,N,N,N,N,N,N,N,N,N,N] rfl rfl (by kernel_rfl) ?_
  refine take_ (i := 4) (N := some 59) (v := ?_) (a' := ?_) #[Y,Y,Y,Y,Y,N,N,N,N,N,N,N,N,N,N,N,N] rfl rfl (by kernel_rfl) (fun _ _ _ h => h) (Or.inl ⟨by rfl, ?_⟩) hHeld ?_ ?_; rotate_left
  · rintro w' ⟨s0, s1⟩; go_simp
    with_reducible rfl
  rotate_left
  · simp only [Act.put, sA, sB, sC, i64_w, i32_w]
    rfl
  refine pureA_ (i := 5) (N := some 60) #[Y,Y,Y,Y,Y,Y,N,N,N,N,N,N,N,N,N,N,N] rfl rfl (by kernel_rfl) ?_
  refine pureA_ (i := 6) (N := some 61) #[Y,Y,Y,Y,Y,Y,Y,N,N,N,N,N,N,N,N,N,N] rfl rfl (by kernel_rfl) ?_
  refine pureA_ (i := 7) (N := some 62) #[Y,Y,Y,Y,Y,Y,Y,Y,N,N,N,N,N,N,N,N,N] rfl rfl (by kernel_rfl) ?_
  refine pureA_ (i := 8) (N := some 63) #[Y,Y,Y,Y,Y,Y,Y,Y,Y,N,N,N,N,N,N,N,N] rfl rfl (by kernel_rfl) ?_
  refine pureA_ (i := 9) (N := some 64) #[Y,Y,Y,Y,Y,Y,Y,Y,Y,Y,N,N,N,N,N,N,N] rfl rfl (by kernel_rfl) ?_
  refine take_ (i := 10) (N := some 65) (v := ?_) (a' := ?_) #[Y,Y,Y,Y,Y,Y,Y,Y,Y,Y,Y,N,N,N,N,N,N] rfl rfl (by kernel_rfl) (fun _ _ _ h => h) (Or.inl ⟨by rfl, ?_⟩) hHeld ?_ ?_; rotate_left
  · rintro w' ⟨s0, s1⟩; go_simp
    with_reducible rfl
  rotate_left
  · simp only [Act.put, sA, sB, sC, i64_w, i32_w]
    rfl
  refine one_ (i := 11) (N := some 66) #[Y,Y,Y,Y,Y,Y,Y,Y,Y,Y,Y,Y,N,N,N,N,N] rfl rfl (by kernel_rfl) (by decide) (fun K hK => ?_)
  refine goesA_ Tryz.func14 rfl #[.int .i64 W1, .int .i64 s.seg] (by rfl) rfl rfl ?_
  (with_reducible refine (frac_BytesS.calls W1 s.seg room 0 _ hR.out).mono ?_); rintro e w9 ⟨rfl, hb⟩; refine ⟨_, rfl, ?_⟩; replace HA := Aside0.mk (HA.out.below hb); replace HW := Aside0.mk (HW.out.below hb); replace BE := bbZ BE hb; clear hb
  refine hK.out _ _ ⟨LnAt.cell HA 9 (.int .i64 W1), LnAt.cell HA 0 (.int .i64 s.seg)⟩ (fun hHeld => ?_); clear hK K; refine normA_ (some 66) ?_
  refine pureA_ (i := 12) (N := some 54) #[Y,Y,Y,Y,Y,Y,Y,Y,Y,Y,Y,Y,Y,N,N,N,N] rfl rfl (by kernel_rfl) ?_
  refine pureA_ (i := 13) (N := some 67) #[Y,Y,Y,Y,Y,Y,Y,Y,Y,Y,Y,Y,Y,Y,N,N,N] rfl rfl (by kernel_rfl) ?_
  refine pureA_ (i := 14) (N := some 68) #[Y,Y,Y,Y,Y,Y,Y,Y,Y,Y,Y,Y,Y,Y,Y,N,N] rfl rfl (by kernel_rfl) ?_
  refine pureA_ (i := 15) (N := some 4) #[Y,Y,Y,Y,Y,Y,Y,Y,Y,Y,Y,Y,Y,Y,Y,Y,N] rfl rfl (by kernel_rfl) ?_
  refine pureA_ (i := 16) (N := some 5) #[Y,Y,Y,Y,Y,Y,Y,Y,Y,Y,Y,Y,Y,Y,Y,Y,Y] rfl rfl (by kernel_rfl) ?_
  refine done_ (by kernel_rfl) ?_
  go_upto_region 6 with (first | (go_at_call 31; refine (must_ok _).mono ?_; rintro e wm ⟨rfl, rfl⟩) | fail)
  replace HA := Aside0.mk HA.out.drew
  replace HW := Aside0.mk HW.out.drew
  replace BE := Aside0.mk (blk_drew BE.out)
  refine start_ (n := 17) (S := fun w' => w'.cell? ⟨g, 12, none⟩ = some (.int .i64 s.sent) ∧ w'.cell? ⟨g, 13, none⟩ = some (.int .i64 s.told) ∧ w'.cell? ⟨g, 14, none⟩ = some (.int .i64 s.out) ∧ w'.cell? ⟨be, 2, none⟩ = some (.int .i64 eb)) (ds := [16]) #[N,N,N,N,N,N,N,N,N,N,N,N,N,N,N,N,N] (by kernel_rfl) rfl rfl ⟨LnAt.cell HA 12 (.int .i64 s.sent), LnAt.cell HA 13 (.int .i64 s.told), LnAt.cell HA 14 (.int .i64 s.out), czZ BE 2 (.int .i64 eb)⟩ (fun hHeld => ?_)
  generalize wm.drew = w10 at HA HW BE hHeld ⊢
  refine pureA_ (i := 0) (N := some 71) #[Y,N,N,N,N,N,N,N,N,N,N,N,N,N,N,N,N] rfl rfl (by kernel_rfl) ?_
  refine pureA_ (i := 1) (N := some 72) #[Y,Y,N,N,N,N,N,N,N,N,N,N,N,N,N,N,N] rfl rfl (by kernel_rfl) ?_
  refine pureA_ (i := 2) (N := some 73) #[Y,Y,Y,N,N,N,N,N,N,N,N,N,N,N,N,N,N] rfl rfl (by kernel_rfl) ?_
  refine pureA_ (i := 3) (N := some 74) #[Y,Y,Y,Y,N,N,N,N,N,N,N,N,N,N,N,N,N] rfl rfl (by kernel_rfl) ?_
  refine pureA_ (i := 4) (N := some 75) #[Y,Y,Y,Y,Y,N,N,N,N,N,N,N,N,N,N,N,N] rfl rfl (by kernel_rfl) ?_
  refine take_ (i := 5) (N := some 76) (v := ?_) (a' := ?_) #[Y,Y,Y,Y,Y,Y,N,N,N,N,N,N,N,N,N,N,N] rfl rfl (by kernel_rfl) (fun _ _ _ h => h) (Or.inl ⟨by rfl, ?_⟩) hHeld ?_ ?_; rotate_left
  · rintro w' ⟨s0, s1, s2, s3⟩; go_simp
    with_reducible rfl
  rotate_left
  · simp only [Act.put, sA, sB, sC, i64_w, i32_w]
    rfl
  refine pureA_ (i := 6) (N := some 77) #[Y,Y,Y,Y,Y,Y,Y,N,N,N,N,N,N,N,N,N,N] rfl rfl (by kernel_rfl) ?_
  refine take_ (i := 7) (N := some 78) (v := ?_) (a' := ?_) #[Y,Y,Y,Y,Y,Y,Y,Y,N,N,N,N,N,N,N,N,N] rfl rfl (by kernel_rfl) (fun _ _ _ h => h) (Or.inl ⟨by rfl, ?_⟩) hHeld ?_ ?_; rotate_left
  · rintro w' ⟨s0, s1, s2, s3⟩; go_simp
    with_reducible rfl
  rotate_left
  · simp only [Act.put, sA, sB, sC, i64_w, i32_w]
    rfl
  refine pureA_ (i := 8) (N := some 79) #[Y,Y,Y,Y,Y,Y,Y,Y,Y,N,N,N,N,N,N,N,N] rfl rfl (by kernel_rfl) ?_
  refine one_ (i := 9) (N := some 80) #[Y,Y,Y,Y,Y,Y,Y,Y,Y,Y,N,N,N,N,N,N,N] rfl rfl (by kernel_rfl) (by decide) (fun K hK => ?_)
  refine goesA_ Tryz.func80 rfl #[.agg #[.int .i64 s.sent, .int .i64 s.told, .int .i64 s.out], .int .i64 eb, .int .i64 room] (by rfl) rfl rfl ?_
  (with_reducible refine (flight_Send.calls k2 s.sent s.told s.out eb room f1 f2 f3 0 _ hS.out).mono ?_); rintro e w11 ⟨rfl, hb⟩; refine ⟨_, rfl, ?_⟩; replace HA := Aside0.mk (HA.out.below hb); replace HW := Aside0.mk (HW.out.below hb); replace BE := bbZ BE hb; clear hb
  refine hK.out _ _ ⟨LnAt.cell HA 12 (.int .i64 s.sent), LnAt.cell HA 13 (.int .i64 s.told), LnAt.cell HA 14 (.int .i64 s.out), czZ BE 2 (.int .i64 eb)⟩ (fun hHeld => ?_); clear hK K; refine normA_ (some 80) ?_
  refine pureA_ (i := 10) (N := some 81) #[Y,Y,Y,Y,Y,Y,Y,Y,Y,Y,Y,N,N,N,N,N,N] rfl rfl (by kernel_rfl) ?_
  refine pureA_ (i := 11) (N := some 82) #[Y,Y,Y,Y,Y,Y,Y,Y,Y,Y,Y,Y,N,N,N,N,N] rfl rfl (by kernel_rfl) ?_
  refine one_ (i := 12) (N := some 83) #[Y,Y,Y,Y,Y,Y,Y,Y,Y,Y,Y,Y,Y,N,N,N,N] rfl rfl (by kernel_rfl) (by decide) (fun K hK => ?_)
  refine goesA_ Tryz.func79 rfl #[.agg #[.int .i64 f1, .int .i64 f2, .int .i64 f3], .int .i64 0] (by rfl) rfl rfl ?_
  (with_reducible refine (got_flight_ok f1 f2 f3 _).mono ?_); rintro e w12 ⟨rfl, hb⟩; refine ⟨_, rfl, ?_⟩; replace HA := Aside0.mk (HA.out.below hb); replace HW := Aside0.mk (HW.out.below hb); replace BE := bbZ BE hb; clear hb
  refine hK.out _ _ ⟨LnAt.cell HA 12 (.int .i64 s.sent), LnAt.cell HA 13 (.int .i64 s.told), LnAt.cell HA 14 (.int .i64 s.out), czZ BE 2 (.int .i64 eb)⟩ (fun hHeld => ?_); clear hK K; refine normA_ (some 83) ?_
  refine pureA_ (i := 13) (N := some 84) #[Y,Y,Y,Y,Y,Y,Y,Y,Y,Y,Y,Y,Y,Y,N,N,N] rfl rfl (by kernel_rfl) ?_
  refine pureA_ (i := 14) (N := some 85) #[Y,Y,Y,Y,Y,Y,Y,Y,Y,Y,Y,Y,Y,Y,Y,N,N] rfl rfl (by kernel_rfl) ?_
  refine pureA_ (i := 15) (N := some 86) #[Y,Y,Y,Y,Y,Y,Y,Y,Y,Y,Y,Y,Y,Y,Y,Y,N] rfl rfl (by kernel_rfl) ?_
  refine last_ (i := 16) (N := none) #[Y,Y,Y,Y,Y,Y,Y,Y,Y,Y,Y,Y,Y,Y,Y,Y,Y] rfl rfl (by kernel_rfl) (by decide) (fun K hK => ?_); have z12 := LnAt.cell HA 12 (.int .i64 s.sent); have z12f := LnAt.frozen HA 12; have z13 := LnAt.cell HA 13 (.int .i64 s.told); have z13f := LnAt.frozen HA 13; have z14 := LnAt.cell HA 14 (.int .i64 s.out); have z14f := LnAt.frozen HA 14; refine skip_ (w1 := ?_) (by rfl) rfl ?_ ?_; rotate_left
  · go_simp
    rfl
  refine hK.out _ _ ?_; clear hK K; clear z12 z13 z14 z12f z13f z14f
  (try clear hHeld)
  replace HA := Aside0.mk (LnAt.set (t := { s with win := W1, sent := f1, told := f2, out := f3, eon := p1, estart := p2, efirst := p3, emax := p4, ek := p5, eest := p6 }) (LnAt.set (t := { s with win := W1, sent := f1, told := f2, eon := p1, estart := p2, efirst := p3, emax := p4, ek := p5, eest := p6 }) (LnAt.set (t := { s with win := W1, sent := f1, eon := p1, estart := p2, efirst := p3, emax := p4, ek := p5, eest := p6 }) HA.out 12 (.int .i64 f1)) 13 (.int .i64 f2)) 14 (.int .i64 f3))
  replace HW := Aside0.mk (((HW.out.set 12 (.int .i64 f1)).set 13 (.int .i64 f2)).set 14 (.int .i64 f3))
  replace BE := Aside0.mk (blk_far (p := ⟨g, 14, none⟩) (blk_far (p := ⟨g, 13, none⟩) (blk_far (p := ⟨g, 12, none⟩) BE.out ME.out (.int .i64 f1)) ME.out (.int .i64 f2)) ME.out (.int .i64 f3))
  generalize (World.setCell (World.setCell (World.setCell w12 ⟨g, 12, none⟩ (.int .i64 f1)) ⟨g, 13, none⟩ (.int .i64 f2)) ⟨g, 14, none⟩ (.int .i64 f3)) = w13 at HA HW BE ⊢
  refine done_ (by kernel_rfl) ?_
  go_upto_region 7 with fail
  replace HA := Aside0.mk HA.out.drew
  replace HW := Aside0.mk HW.out.drew
  replace BE := Aside0.mk (blk_drew BE.out)
  refine start_ (n := 16) (S := fun w' => w'.cell? ⟨g, 36, none⟩ = some (.int .i64 s.bat) ∧ w'.cell? ⟨g, 37, none⟩ = some (.int .i64 s.bhave) ∧ w'.cell? ⟨be, 2, none⟩ = some (.int .i64 eb)) (ds := [15]) #[N,N,N,N,N,N,N,N,N,N,N,N,N,N,N,N] (by kernel_rfl) rfl rfl ⟨LnAt.cell HA 36 (.int .i64 s.bat), LnAt.cell HA 37 (.int .i64 s.bhave), czZ BE 2 (.int .i64 eb)⟩ (fun hHeld => ?_)
  generalize w13.drew = w14 at HA HW BE hHeld ⊢
  refine pureA_ (i := 0) (N := some 87) #[Y,N,N,N,N,N,N,N,N,N,N,N,N,N,N,N] rfl rfl (by kernel_rfl) ?_
  refine pureA_ (i := 1) (N := some 88) #[Y,Y,N,N,N,N,N,N,N,N,N,N,N,N,N,N] rfl rfl (by kernel_rfl) ?_
  refine pureA_ (i := 2) (N := some 89) #[Y,Y,Y,N,N,N,N,N,N,N,N,N,N,N,N,N] rfl rfl (by kernel_rfl) ?_
  refine pureA_ (i := 3) (N := some 90) #[Y,Y,Y,Y,N,N,N,N,N,N,N,N,N,N,N,N] rfl rfl (by kernel_rfl) ?_
  refine pureA_ (i := 4) (N := some 91) #[Y,Y,Y,Y,Y,N,N,N,N,N,N,N,N,N,N,N] rfl rfl (by kernel_rfl) ?_
  refine take_ (i := 5) (N := some 92) (v := ?_) (a' := ?_) #[Y,Y,Y,Y,Y,Y,N,N,N,N,N,N,N,N,N,N] rfl rfl (by kernel_rfl) (fun _ _ _ h => h) (Or.inl ⟨by rfl, ?_⟩) hHeld ?_ ?_; rotate_left
  · rintro w' ⟨s0, s1, s2⟩; go_simp
    with_reducible rfl
  rotate_left
  · simp only [Act.put, sA, sB, sC, i64_w, i32_w]
    rfl
  refine pureA_ (i := 6) (N := some 93) #[Y,Y,Y,Y,Y,Y,Y,N,N,N,N,N,N,N,N,N] rfl rfl (by kernel_rfl) ?_
  refine take_ (i := 7) (N := some 94) (v := ?_) (a' := ?_) #[Y,Y,Y,Y,Y,Y,Y,Y,N,N,N,N,N,N,N,N] rfl rfl (by kernel_rfl) (fun _ _ _ h => h) (Or.inl ⟨by rfl, ?_⟩) hHeld ?_ ?_; rotate_left
  · rintro w' ⟨s0, s1, s2⟩; go_simp
    with_reducible rfl
  rotate_left
  · simp only [Act.put, sA, sB, sC, i64_w, i32_w]
    rfl
  refine one_ (i := 8) (N := some 95) #[Y,Y,Y,Y,Y,Y,Y,Y,Y,N,N,N,N,N,N,N] rfl rfl (by kernel_rfl) (by decide) (fun K hK => ?_)
  refine goesA_ Tryz.func81 rfl #[.agg #[.int .i64 s.bat, .int .i64 s.bhave], .int .i64 eb] (by rfl) rfl rfl ?_
  (with_reducible refine (bucket_TakeS.calls s.bat s.bhave eb b1 b2 0 _ hB.out).mono ?_); rintro e w15 ⟨rfl, hb⟩; refine ⟨_, rfl, ?_⟩; replace HA := Aside0.mk (HA.out.below hb); replace HW := Aside0.mk (HW.out.below hb); replace BE := bbZ BE hb; clear hb
  refine hK.out _ _ ⟨LnAt.cell HA 36 (.int .i64 s.bat), LnAt.cell HA 37 (.int .i64 s.bhave), czZ BE 2 (.int .i64 eb)⟩ (fun hHeld => ?_); clear hK K; refine normA_ (some 95) ?_
  refine pureA_ (i := 9) (N := some 96) #[Y,Y,Y,Y,Y,Y,Y,Y,Y,Y,N,N,N,N,N,N] rfl rfl (by kernel_rfl) ?_
  refine pureA_ (i := 10) (N := some 97) #[Y,Y,Y,Y,Y,Y,Y,Y,Y,Y,Y,N,N,N,N,N] rfl rfl (by kernel_rfl) ?_
  refine one_ (i := 11) (N := some 98) #[Y,Y,Y,Y,Y,Y,Y,Y,Y,Y,Y,Y,N,N,N,N] rfl rfl (by kernel_rfl) (by decide) (fun K hK => ?_)
  refine goesA_ Tryz.func34 rfl #[.agg #[.int .i64 b1, .int .i64 b2], .int .i64 0] (by rfl) rfl rfl ?_
  (with_reducible refine (got_bucket_ok b1 b2 _).mono ?_); rintro e w16 ⟨rfl, hb⟩; refine ⟨_, rfl, ?_⟩; replace HA := Aside0.mk (HA.out.below hb); replace HW := Aside0.mk (HW.out.below hb); replace BE := bbZ BE hb; clear hb
  refine hK.out _ _ ⟨LnAt.cell HA 36 (.int .i64 s.bat), LnAt.cell HA 37 (.int .i64 s.bhave), czZ BE 2 (.int .i64 eb)⟩ (fun hHeld => ?_); clear hK K; refine normA_ (some 98) ?_
  refine pureA_ (i := 12) (N := some 99) #[Y,Y,Y,Y,Y,Y,Y,Y,Y,Y,Y,Y,Y,N,N,N] rfl rfl (by kernel_rfl) ?_
  refine pureA_ (i := 13) (N := some 100) #[Y,Y,Y,Y,Y,Y,Y,Y,Y,Y,Y,Y,Y,Y,N,N] rfl rfl (by kernel_rfl) ?_
  refine pureA_ (i := 14) (N := some 101) #[Y,Y,Y,Y,Y,Y,Y,Y,Y,Y,Y,Y,Y,Y,Y,N] rfl rfl (by kernel_rfl) ?_
  refine last_ (i := 15) (N := none) #[Y,Y,Y,Y,Y,Y,Y,Y,Y,Y,Y,Y,Y,Y,Y,Y] rfl rfl (by kernel_rfl) (by decide) (fun K hK => ?_); have z36 := LnAt.cell HA 36 (.int .i64 s.bat); have z36f := LnAt.frozen HA 36; have z37 := LnAt.cell HA 37 (.int .i64 s.bhave); have z37f := LnAt.frozen HA 37; refine skip_ (w1 := ?_) (by rfl) rfl ?_ ?_; rotate_left
  · go_simp
    rfl
  refine hK.out _ _ ?_; clear hK K; clear z36 z37 z36f z37f
  (try clear hHeld)
  replace HA := Aside0.mk (LnAt.set (t := { s with win := W1, sent := f1, told := f2, out := f3, eon := p1, estart := p2, efirst := p3, emax := p4, ek := p5, eest := p6, bat := b1, bhave := b2 }) (LnAt.set (t := { s with win := W1, sent := f1, told := f2, out := f3, eon := p1, estart := p2, efirst := p3, emax := p4, ek := p5, eest := p6, bat := b1 }) HA.out 36 (.int .i64 b1)) 37 (.int .i64 b2))
  replace HW := Aside0.mk ((HW.out.set 36 (.int .i64 b1)).set 37 (.int .i64 b2))
  replace BE := Aside0.mk (blk_far (p := ⟨g, 37, none⟩) (blk_far (p := ⟨g, 36, none⟩) BE.out ME.out (.int .i64 b1)) ME.out (.int .i64 b2))
  generalize (World.setCell (World.setCell w16 ⟨g, 36, none⟩ (.int .i64 b1)) ⟨g, 37, none⟩ (.int .i64 b2)) = w17 at HA HW BE ⊢
  refine done_ (by kernel_rfl) ?_
  go_upto_region 8 with fail
  replace HA := Aside0.mk HA.out.drew
  replace HW := Aside0.mk HW.out.drew
  replace BE := Aside0.mk (blk_drew BE.out)
  refine start_ (n := 31) (S := fun w' => w'.cell? ⟨g, 9, none⟩ = some (.int .i64 W1) ∧ w'.cell? ⟨g, 14, none⟩ = some (.int .i64 f3) ∧ w'.cell? ⟨g, 0, none⟩ = some (.int .i64 s.seg) ∧ w'.cell? ⟨be, 1, none⟩ = some (.int .i64 ea)) (ds := [26, 30]) #[N,N,N,N,N,N,N,N,N,N,N,N,N,N,N,N,N,N,N,N,N,N,N,N,N,N,N,N,N,N,N] (by kernel_rfl) rfl rfl ⟨LnAt.cell HA 9 (.int .i64 W1), LnAt.cell HA 14 (.int .i64 f3), LnAt.cell HA 0 (.int .i64 s.seg), czZ BE 1 (.int .i64 ea)⟩ (fun hHeld => ?_)
  generalize w17.drew = w18 at HA HW BE hHeld ⊢
  refine pureA_ (i := 0) (N := some 102) #[Y,N,N,N,N,N,N,N,N,N,N,N,N,N,N,N,N,N,N,N,N,N,N,N,N,N,N,N,N,N,N] rfl rfl (by kernel_rfl) ?_
  refine pureA_ (i := 1) (N := some 103) #[Y,Y,N,N,N,N,N,N,N,N,N,N,N,N,N,N,N,N,N,N,N,N,N,N,N,N,N,N,N,N,N] rfl rfl (by kernel_rfl) ?_
  refine pureA_ (i := 2) (N := some 104) #[Y,Y,Y,N,N,N,N,N,N,N,N,N,N,N,N,N,N,N,N,N,N,N,N,N,N,N,N,N,N,N,N] rfl rfl (by kernel_rfl) ?_
  refine take_ (i := 3) (N := some 105) (v := ?_) (a' := ?_) #[Y,Y,Y,Y,N,N,N,N,N,N,N,N,N,N,N,N,N,N,N,N,N,N,N,N,N,N,N,N,N,N,N] rfl rfl (by kernel_rfl) (fun _ _ _ h => h) (Or.inl ⟨by rfl, ?_⟩) hHeld ?_ ?_; rotate_left
  · rintro w' ⟨s0, s1, s2, s3⟩; go_simp
    with_reducible rfl
  rotate_left
  · simp only [Act.put, sA, sB, sC, i64_w, i32_w]
    rfl
  refine pureA_ (i := 4) (N := some 106) #[Y,Y,Y,Y,Y,N,N,N,N,N,N,N,N,N,N,N,N,N,N,N,N,N,N,N,N,N,N,N,N,N,N] rfl rfl (by kernel_rfl) ?_
  refine pureA_ (i := 5) (N := some 107) #[Y,Y,Y,Y,Y,Y,N,N,N,N,N,N,N,N,N,N,N,N,N,N,N,N,N,N,N,N,N,N,N,N,N] rfl rfl (by kernel_rfl) ?_
  refine pureA_ (i := 6) (N := some 108) #[Y,Y,Y,Y,Y,Y,Y,N,N,N,N,N,N,N,N,N,N,N,N,N,N,N,N,N,N,N,N,N,N,N,N] rfl rfl (by kernel_rfl) ?_
  refine pureA_ (i := 7) (N := some 109) #[Y,Y,Y,Y,Y,Y,Y,Y,N,N,N,N,N,N,N,N,N,N,N,N,N,N,N,N,N,N,N,N,N,N,N] rfl rfl (by kernel_rfl) ?_
  refine take_ (i := 8) (N := some 110) (v := ?_) (a' := ?_) #[Y,Y,Y,Y,Y,Y,Y,Y,Y,N,N,N,N,N,N,N,N,N,N,N,N,N,N,N,N,N,N,N,N,N,N] rfl rfl (by kernel_rfl) (fun _ _ _ h => h) (Or.inl ⟨by rfl, ?_⟩) hHeld ?_ ?_; rotate_left
  · rintro w' ⟨s0, s1, s2, s3⟩; go_simp
    with_reducible rfl
  rotate_left
  · simp only [Act.put, sA, sB, sC, i64_w, i32_w]
    rfl
  refine pureA_ (i := 9) (N := some 111) #[Y,Y,Y,Y,Y,Y,Y,Y,Y,Y,N,N,N,N,N,N,N,N,N,N,N,N,N,N,N,N,N,N,N,N,N] rfl rfl (by kernel_rfl) ?_
  refine pureA_ (i := 10) (N := some 112) #[Y,Y,Y,Y,Y,Y,Y,Y,Y,Y,Y,N,N,N,N,N,N,N,N,N,N,N,N,N,N,N,N,N,N,N,N] rfl rfl (by kernel_rfl) ?_
  refine pureA_ (i := 11) (N := some 113) #[Y,Y,Y,Y,Y,Y,Y,Y,Y,Y,Y,Y,N,N,N,N,N,N,N,N,N,N,N,N,N,N,N,N,N,N,N] rfl rfl (by kernel_rfl) ?_
  refine pureA_ (i := 12) (N := some 114) #[Y,Y,Y,Y,Y,Y,Y,Y,Y,Y,Y,Y,Y,N,N,N,N,N,N,N,N,N,N,N,N,N,N,N,N,N,N] rfl rfl (by kernel_rfl) ?_
  refine pureA_ (i := 13) (N := some 115) #[Y,Y,Y,Y,Y,Y,Y,Y,Y,Y,Y,Y,Y,Y,N,N,N,N,N,N,N,N,N,N,N,N,N,N,N,N,N] rfl rfl (by kernel_rfl) ?_
  refine take_ (i := 14) (N := some 116) (v := ?_) (a' := ?_) #[Y,Y,Y,Y,Y,Y,Y,Y,Y,Y,Y,Y,Y,Y,Y,N,N,N,N,N,N,N,N,N,N,N,N,N,N,N,N] rfl rfl (by kernel_rfl) (fun _ _ _ h => h) (Or.inl ⟨by rfl, ?_⟩) hHeld ?_ ?_; rotate_left
  · rintro w' ⟨s0, s1, s2, s3⟩; go_simp
    with_reducible rfl
  rotate_left
  · simp only [Act.put, sA, sB, sC, i64_w, i32_w]
    rfl
  refine pureA_ (i := 15) (N := some 117) #[Y,Y,Y,Y,Y,Y,Y,Y,Y,Y,Y,Y,Y,Y,Y,Y,N,N,N,N,N,N,N,N,N,N,N,N,N,N,N] rfl rfl (by kernel_rfl) ?_
  refine pureA_ (i := 16) (N := some 118) #[Y,Y,Y,Y,Y,Y,Y,Y,Y,Y,Y,Y,Y,Y,Y,Y,Y,N,N,N,N,N,N,N,N,N,N,N,N,N,N] rfl rfl (by kernel_rfl) ?_
  refine pureA_ (i := 17) (N := some 119) #[Y,Y,Y,Y,Y,Y,Y,Y,Y,Y,Y,Y,Y,Y,Y,Y,Y,Y,N,N,N,N,N,N,N,N,N,N,N,N,N] rfl rfl (by kernel_rfl) ?_
  refine pureA_ (i := 18) (N := some 120) #[Y,Y,Y,Y,Y,Y,Y,Y,Y,Y,Y,Y,Y,Y,Y,Y,Y,Y,Y,N,N,N,N,N,N,N,N,N,N,N,N] rfl rfl (by kernel_rfl) ?_
  refine pureA_ (i := 19) (N := some 121) #[Y,Y,Y,Y,Y,Y,Y,Y,Y,Y,Y,Y,Y,Y,Y,Y,Y,Y,Y,Y,N,N,N,N,N,N,N,N,N,N,N] rfl rfl (by kernel_rfl) ?_
  refine take_ (i := 20) (N := some 122) (v := ?_) (a' := ?_) #[Y,Y,Y,Y,Y,Y,Y,Y,Y,Y,Y,Y,Y,Y,Y,Y,Y,Y,Y,Y,Y,N,N,N,N,N,N,N,N,N,N] rfl rfl (by kernel_rfl) (fun _ _ _ h => h) (Or.inl ⟨by rfl, ?_⟩) hHeld ?_ ?_; rotate_left
  · rintro w' ⟨s0, s1, s2, s3⟩; go_simp
    with_reducible rfl
  rotate_left
  · simp only [Act.put, sA, sB, sC, i64_w, i32_w]
    rfl
  refine one_ (i := 21) (N := some 123) #[Y,Y,Y,Y,Y,Y,Y,Y,Y,Y,Y,Y,Y,Y,Y,Y,Y,Y,Y,Y,Y,Y,N,N,N,N,N,N,N,N,N] rfl rfl (by kernel_rfl) (by decide) (fun K hK => ?_)
  refine goesA_ Tryz.func82 rfl #[.int .i64 W1, .int .i64 f3, .int .i64 s.seg] (by rfl) rfl rfl ?_
  (with_reducible refine (guide_UsedS.calls W1 f3 s.seg u _ hU.out).mono ?_); rintro e w19 ⟨rfl, hb⟩; refine ⟨_, rfl, ?_⟩; replace HA := Aside0.mk (HA.out.below hb); replace HW := Aside0.mk (HW.out.below hb); replace BE := bbZ BE hb; clear hb
  refine hK.out _ _ ⟨LnAt.cell HA 9 (.int .i64 W1), LnAt.cell HA 14 (.int .i64 f3), LnAt.cell HA 0 (.int .i64 s.seg), czZ BE 1 (.int .i64 ea)⟩ (fun hHeld => ?_); clear hK K; refine normA_ (some 123) ?_
  refine pureA_ (i := 22) (N := some 124) #[Y,Y,Y,Y,Y,Y,Y,Y,Y,Y,Y,Y,Y,Y,Y,Y,Y,Y,Y,Y,Y,Y,Y,N,N,N,N,N,N,N,N] rfl rfl (by kernel_rfl) ?_
  refine pureA_ (i := 23) (N := some 125) #[Y,Y,Y,Y,Y,Y,Y,Y,Y,Y,Y,Y,Y,Y,Y,Y,Y,Y,Y,Y,Y,Y,Y,Y,N,N,N,N,N,N,N] rfl rfl (by kernel_rfl) ?_
  refine pureA_ (i := 24) (N := some 126) #[Y,Y,Y,Y,Y,Y,Y,Y,Y,Y,Y,Y,Y,Y,Y,Y,Y,Y,Y,Y,Y,Y,Y,Y,Y,N,N,N,N,N,N] rfl rfl (by kernel_rfl) ?_
  refine pureA_ (i := 25) (N := some 127) #[Y,Y,Y,Y,Y,Y,Y,Y,Y,Y,Y,Y,Y,Y,Y,Y,Y,Y,Y,Y,Y,Y,Y,Y,Y,Y,N,N,N,N,N] rfl rfl (by kernel_rfl) ?_
  refine last_ (i := 26) (N := none) #[Y,Y,Y,Y,Y,Y,Y,Y,Y,Y,Y,Y,Y,Y,Y,Y,Y,Y,Y,Y,Y,Y,Y,Y,Y,Y,Y,N,N,N,N] rfl rfl (by kernel_rfl) (by decide) (fun K hK => ?_); have z8 := LnAt.cell HA 8 (.int .i64 s.last); have z8f := LnAt.frozen HA 8; refine skip_ (w1 := ?_) (by rfl) rfl ?_ ?_; rotate_left
  · go_simp
    rfl
  refine hK.out _ _ ?_; clear hK K; clear z8 z8f
  (try clear hHeld)
  replace HA := Aside0.mk (LnAt.set (t := { s with last := ea, win := W1, sent := f1, told := f2, out := f3, eon := p1, estart := p2, efirst := p3, emax := p4, ek := p5, eest := p6, bat := b1, bhave := b2 }) HA.out 8 (.int .i64 ea))
  replace HW := Aside0.mk (HW.out.set 8 (.int .i64 ea))
  replace BE := Aside0.mk (blk_far (p := ⟨g, 8, none⟩) BE.out ME.out (.int .i64 ea))
  generalize (World.setCell w19 ⟨g, 8, none⟩ (.int .i64 ea)) = w20 at HA HW BE ⊢
  refine pureA_ (i := 27) (N := some 128) #[Y,Y,Y,Y,Y,Y,Y,Y,Y,Y,Y,Y,Y,Y,Y,Y,Y,Y,Y,Y,Y,Y,Y,Y,Y,Y,Y,Y,N,N,N] rfl rfl (by kernel_rfl) ?_
  refine pureA_ (i := 28) (N := some 129) #[Y,Y,Y,Y,Y,Y,Y,Y,Y,Y,Y,Y,Y,Y,Y,Y,Y,Y,Y,Y,Y,Y,Y,Y,Y,Y,Y,Y,Y,N,N] rfl rfl (by kernel_rfl) ?_
  refine pureA_ (i := 29) (N := some 130) #[Y,Y,Y,Y,Y,Y,Y,Y,Y,Y,Y,Y,Y,Y,Y,Y,Y,Y,Y,Y,Y,Y,Y,Y,Y,Y,Y,Y,Y,Y,N] rfl rfl (by kernel_rfl) ?_
  refine last_ (i := 30) (N := none) #[Y,Y,Y,Y,Y,Y,Y,Y,Y,Y,Y,Y,Y,Y,Y,Y,Y,Y,Y,Y,Y,Y,Y,Y,Y,Y,Y,Y,Y,Y,Y] rfl rfl (by kernel_rfl) (by decide) (fun K hK => ?_); have z38 := LnAt.cell HA 38 (.bool s.lim); have z38f := LnAt.frozen HA 38; refine skip_ (w1 := ?_) (by rfl) rfl ?_ ?_; rotate_left
  · go_simp
    rfl
  refine hK.out _ _ ?_; clear hK K; clear z38 z38f
  (try clear hHeld)
  replace HA := Aside0.mk (LnAt.set (t := { s with last := ea, win := W1, sent := f1, told := f2, out := f3, eon := p1, estart := p2, efirst := p3, emax := p4, ek := p5, eest := p6, bat := b1, bhave := b2, lim := !u }) HA.out 38 (.bool (!u)))
  replace HW := Aside0.mk (HW.out.set 38 (.bool (!u)))
  replace BE := Aside0.mk (blk_far (p := ⟨g, 38, none⟩) BE.out ME.out (.bool (!u)))
  generalize (World.setCell w20 ⟨g, 38, none⟩ (.bool (!u))) = w21 at HA HW BE ⊢
  refine done_ (by kernel_rfl) ?_
  go_wp2
  go_end0
  exact ⟨rfl, HA.out, HW.out⟩

end Go.Proofs.YtfahbgkoldoflaaGreatDoor.Px
