/- By hand. Conditions: none beside the theorems' own. -/
import Derived.Great.BuildSlice
import Derived.Test.YtfahbgkoldoflaaGreatDoorPx0
import Derived.Test.YtfahbgkoldoflaaGreatDoorPx6
import Derived.Test.YtfahbgkoldoflaaGreatDoorPx7
import Derived.Test.YtfahbgkoldoflaaGreatDoorPx8
namespace Go.Proofs.YtfahbgkoldoflaaGreatDoor.Px
open Go.RowKit Go.Proofs.YtfahbgkoldoflaaGreatDoorW.PrintWords Go.Proofs.YtfahbgkoldoflaaGreatDoorW.PrintLast Go.Proofs.YtfahbgkoldoflaaGreatDoorW.PrintMore
attribute [local go_sem] max2_int min2_int max_two min_two max_three min_three max_four min_four   -- for this text's walks alone
set_option linter.unusedVariables false
set_option linter.unusedSimpArgs false

/-! ### top_new: function 11 -/
/-! top: by hand -/
theorem run_put_row {P : Program} {W : World} {t t' : TypeId} {g : Nat} {cs old : Array Value} (hb : W.heap[g]? = some (.cells old t' (0, 0))) (hi : (P.info? t).map (·.size) = some cs.size) (ho : old.size = cs.size) (h1 : cs.all (·.oneCell') = true) :
    (Instr.storeAt t (.pointer (some ⟨g, 0, none⟩)) (.agg cs)).run P W = .ok () (W.setRow g cs) := by
  simp only [Instr.storeAt, Instr.sureAddr, Sem.run_bind, Sem.run_pure, Result.andThen_ok, run_storeVar_row W g t' t old cs hb hi ho h1]
theorem results_new {fn : Func} {p q : Tmp} {tmps : Array Value} {W : World} {g : Nat} {cs : Array Value} {x : Value} (hf : fn.results = #[.cell p 48, .tmp q]) (h4 : tmps.getD p undef = .pointer (some ⟨g, 0, none⟩)) (h5 : tmps.getD q undef = x) (h1 : W.heap[g]? = some (.cells cs 48 (0, 0))) (hs : cs.size = 39) :
    (results fn tmps).run Tryz.prog W = .ok (.tuple #[.agg cs, x]) W := by
  have h4' : tmps[p]?.getD undef = .pointer (some ⟨g, 0, none⟩) := by simpa using h4
  have h5' : tmps[q]?.getD undef = x := by simpa using h5
  have hl := run_loadVar_row (P := Tryz.prog) W g 48 48 cs (0, 0) _ h1 Tryz.underlying48 rfl (by rw [info48, hs])
  simp [results, hf, h4', h5', asAddr, hl]
set_option maxRecDepth 100000 in
set_option maxHeartbeats 4000000 in
theorem engine_New_ok (seg mx fst grain least great burst win : Int) (hC : Aside0 (guide_Check.f seg mx fst grain least great burst = some 0)) (hFi : Aside0 (guide_First.f seg mx fst grain least great burst = some win)) (w : World) :
    Calls Tryz.prog 11 #[.agg #[.int .i64 seg, .int .i64 mx, .int .i64 fst, .int .i64 grain, .int .i64 least, .int .i64 great, .int .i64 burst]] w fun e w' => e = .returned (.tuple #[.agg (Ln.cells { Ln.zero with seg := seg, mx := mx, fst := fst, grain := grain, least := least, great := great, burst := burst, win := win, thresh := 68719476736, bhave := wrap64 (wrap64 (burst * seg) * 1000000) }), .int .i64 0]) ∧ Below w.heap.size w w' := by
  have HB := Aside0.mk (Below.refl w.heap.size w)
  go_enter Tryz.func11, Tryz.ntmps11
  go_upto_region 4 with (first
    | ((with_reducible refine gate_dst (N := 1) rfl ?_); refine box_event ?hg (N := 1) ?hd (cs := #[.int .i64 seg, .int .i64 mx, .int .i64 fst, .int .i64 grain, .int .i64 least, .int .i64 great, .int .i64 burst]) (t := 33) ?hr ?_; (case hd => rfl); (case hg => rfl); (case hr => first | (go_simp; done) | (go_simp; rfl)); intro b1 hg wb hbox hb; have B1 := Aside0.mk hbox; obtain ⟨G1, nHB⟩ := geA hg hb; replace HB := nHB; clear nHB hg hb hbox)
    | ((with_reducible refine gate_dst (N := 2) rfl ?_); refine new_var rfl 48 rfl (some 2) rfl Ln.zero.cells (run_alloc48 _) ?_; intro b2 hg wb hbox hb; have B2 := Aside0.mk hbox; obtain ⟨N12, N21, nB⟩ := nbA B1 hg hb; replace B1 := nB; obtain ⟨G2, nHB⟩ := geA hg hb; replace HB := nHB; clear nB nHB hg hb hbox; have z0 := czZ B1 0 (.int .i64 seg); have z1 := czZ B1 1 (.int .i64 mx); have z2 := czZ B1 2 (.int .i64 fst); have z3 := czZ B1 3 (.int .i64 grain); have z4 := czZ B1 4 (.int .i64 least); have z5 := czZ B1 5 (.int .i64 great); have z6 := czZ B1 6 (.int .i64 burst))
    | (go_at_call 25; (with_reducible refine (guide_Check.calls seg mx fst grain least great burst 0 _ hC.out).mono ?_); rintro e wc ⟨rfl, hb⟩; clear z0 z1 z2 z3 z4 z5 z6; replace B1 := bbZ B1 hb; replace B2 := bbZ B2 hb; replace HB := Aside0.mk (below_step HB.out hb); clear hb)
    | fail)
  replace B1 := Aside0.mk (blk_drew B1.out); replace B2 := Aside0.mk (blk_drew B2.out); replace HB := Aside0.mk (below_drew1 HB.out)
  refine start_ (n := 6) (S := fun w' => w'.cell? ⟨b1, 0, none⟩ = some (.int .i64 seg) ∧ w'.cell? ⟨b1, 1, none⟩ = some (.int .i64 mx) ∧ w'.cell? ⟨b1, 2, none⟩ = some (.int .i64 fst) ∧ w'.cell? ⟨b1, 3, none⟩ = some (.int .i64 grain) ∧ w'.cell? ⟨b1, 4, none⟩ = some (.int .i64 least) ∧ w'.cell? ⟨b1, 5, none⟩ = some (.int .i64 great) ∧ w'.cell? ⟨b1, 6, none⟩ = some (.int .i64 burst)) (ds := [5]) #[N,N,N,N,N,N] (by kernel_rfl) rfl rfl ⟨czZ B1 0 (.int .i64 seg), czZ B1 1 (.int .i64 mx), czZ B1 2 (.int .i64 fst), czZ B1 3 (.int .i64 grain), czZ B1 4 (.int .i64 least), czZ B1 5 (.int .i64 great), czZ B1 6 (.int .i64 burst)⟩ (fun hHeld => ?_)
  generalize wc.drew = wd at B1 B2 HB hHeld ⊢
  refine take_ (i := 0) (N := some 12) (v := ?_) (a' := ?_) #[Y,N,N,N,N,N] rfl rfl (by kernel_rfl) (fun _ _ _ h => h) (Or.inl ⟨by rfl, ?_⟩) hHeld ?_ ?_; rotate_left
  · rintro w' ⟨s0, s1, s2, s3, s4, s5, s6⟩; go_simp
    with_reducible rfl
  rotate_left
  · simp only [Act.put, sA, sB, sC, i64_w, i32_w]
    rfl
  refine take_ (i := 1) (N := some 13) (v := ?_) (a' := ?_) #[Y,Y,N,N,N,N] rfl rfl (by kernel_rfl) (fun _ _ _ h => h) (Or.inl ⟨by rfl, ?_⟩) hHeld ?_ ?_; rotate_left
  · rintro w' ⟨s0, s1, s2, s3, s4, s5, s6⟩; go_simp
    with_reducible rfl
  rotate_left
  · simp only [Act.put, sA, sB, sC, i64_w, i32_w]
    rfl
  refine two_ (i := 2) (j := 4) (Ni := some 14) (Nj := some 5) #[Y,Y,Y,N,N,N] #[Y,Y,N,N,Y,N] rfl rfl rfl rfl (by kernel_rfl) (by decide) (by decide) (fun K hK => ?_) (fun K hK => ?_)
  · refine goesA_ Tryz.func26 rfl #[.agg #[.int .i64 seg, .int .i64 mx, .int .i64 fst, .int .i64 grain, .int .i64 least, .int .i64 great, .int .i64 burst]] (by rfl) rfl rfl ?_; (with_reducible refine (guide_First.calls seg mx fst grain least great burst win _ hFi.out).mono ?_); rintro e wf ⟨rfl, hb⟩; refine ⟨_, rfl, ?_⟩; replace B1 := bbZ B1 hb; replace B2 := bbZ B2 hb; replace HB := Aside0.mk (below_step HB.out hb); clear hb; refine hK.out _ _ ⟨czZ B1 0 (.int .i64 seg), czZ B1 1 (.int .i64 mx), czZ B1 2 (.int .i64 fst), czZ B1 3 (.int .i64 grain), czZ B1 4 (.int .i64 least), czZ B1 5 (.int .i64 great), czZ B1 6 (.int .i64 burst)⟩ (fun hHeld => ?_); clear hK K; refine normA_ (some 14) ?_
    refine pureA_ (i := 3) (N := some 15) (v := .agg (Ln.cells { Ln.zero with seg := seg, mx := mx, fst := fst, grain := grain, least := least, great := great, burst := burst, win := win, thresh := 68719476736 })) #[Y,Y,Y,Y,N,N] rfl rfl (by kernel_rfl) ?_ (Or.inl ⟨by rfl, fun w' => by kernel_rfl⟩)
    refine one_ (i := 4) (N := some 5) #[Y,Y,Y,Y,Y,N] rfl rfl (by kernel_rfl) (by decide) (fun K hK => ?_)
    refine val_step (v := .pointer (some ⟨(World.heap wf).size, 0, none⟩)) (w1 := World.alloc wf (.cells Ln.zero.cells 48)) (by rfl) rfl (by simp [execOp, run_alloc48, Result.andThen]) ?_; have B5 := Aside0.mk (blk_new wf (.cells Ln.zero.cells 48)); have G5 := Aside0.mk HB.out.size; replace HB := Aside0.mk (below_alloc HB.out (.cells Ln.zero.cells 48)); have N1 : Aside0 (b1 ≠ (World.heap wf).size) := ⟨Nat.ne_of_lt (blk_lt B1.out)⟩; have N2 : Aside0 (b2 ≠ (World.heap wf).size) := ⟨Nat.ne_of_lt (blk_lt B2.out)⟩; replace B1 := Aside0.mk (blk_alloc B1.out (.cells Ln.zero.cells 48)); replace B2 := Aside0.mk (blk_alloc B2.out (.cells Ln.zero.cells 48)); generalize (World.heap wf).size = g at B5 G5 N1 N2 ⊢; generalize World.alloc wf (.cells Ln.zero.cells 48) = wn at B1 B2 B5 HB ⊢; refine hK.out _ _ ⟨czZ B1 0 (.int .i64 seg), czZ B1 1 (.int .i64 mx), czZ B1 2 (.int .i64 fst), czZ B1 3 (.int .i64 grain), czZ B1 4 (.int .i64 least), czZ B1 5 (.int .i64 great), czZ B1 6 (.int .i64 burst)⟩ (fun hHeld => ?_); clear hK K; refine normA_ (some 5) ?_
    refine last_ (i := 5) (N := none) #[Y,Y,Y,Y,Y,Y] rfl rfl (by kernel_rfl) (by decide) (fun K hK => ?_)
    refine skip_ (w1 := World.setRow wn g (Ln.cells { Ln.zero with seg := seg, mx := mx, fst := fst, grain := grain, least := least, great := great, burst := burst, win := win, thresh := 68719476736 })) (by rfl) rfl (by have q := run_put_row (P := Tryz.prog) (t := 48) (cs := Ln.cells { Ln.zero with seg := seg, mx := mx, fst := fst, grain := grain, least := least, great := great, burst := burst, win := win, thresh := 68719476736 }) B5.out info48 rfl (Ln.one _ rfl); simp [execOp, Act.eval, q, Result.andThen]) ?_
    refine hK.out _ _ ?_; clear hK K hHeld
    have b5 := setRow_heap wn g _ (Ln.cells { Ln.zero with seg := seg, mx := mx, fst := fst, grain := grain, least := least, great := great, burst := burst, win := win, thresh := 68719476736 }) 48 (0, 0) B5.out
    have b1' := (setRow_other wn g b1 (Ln.cells { Ln.zero with seg := seg, mx := mx, fst := fst, grain := grain, least := least, great := great, burst := burst, win := win, thresh := 68719476736 }) N1.out).trans B1.out
    have b2' := (setRow_other wn g b2 (Ln.cells { Ln.zero with seg := seg, mx := mx, fst := fst, grain := grain, least := least, great := great, burst := burst, win := win, thresh := 68719476736 }) N2.out).trans B2.out
    have hb' : Below w.heap.size w (World.setRow wn g (Ln.cells { Ln.zero with seg := seg, mx := mx, fst := fst, grain := grain, least := least, great := great, burst := burst, win := win, thresh := 68719476736 })) := HB.out.trans ⟨rfl, rfl, rfl, by simp, fun k hk => setRow_other _ g k _ (by have := G5.out; omega)⟩
    replace B5 := Aside0.mk b5; replace B1 := Aside0.mk b1'; replace B2 := Aside0.mk b2'; replace HB := Aside0.mk hb'
    clear b5 b1' b2' hb'
    generalize World.setRow wn g (Ln.cells { Ln.zero with seg := seg, mx := mx, fst := fst, grain := grain, least := least, great := great, burst := burst, win := win, thresh := 68719476736 }) = wz at B1 B2 B5 HB ⊢
    refine done_ (by kernel_rfl) ?_
    have z0 := czZ B1 0 (.int .i64 seg); have z6 := czZ B1 6 (.int .i64 burst); have y37 := czZ B5 37 (.int .i64 0); have f37 := blk_frozen B5.out 37
    go_upto_region 6 with fail
    have b5 := blk_set B5.out 37 (.int .i64 (wrap64 (wrap64 (burst * seg) * 1000000)))
    have b2' := blk_far (p := ⟨g, 37, none⟩) B2.out N2.out (.int .i64 (wrap64 (wrap64 (burst * seg) * 1000000)))
    have hb' := HB.out.setCell (p := ⟨g, 37, none⟩) G5.out (.int .i64 (wrap64 (wrap64 (burst * seg) * 1000000)))
    replace B5 := Aside0.mk b5; replace B2 := Aside0.mk b2'; replace HB := Aside0.mk hb'
    clear b5 b2' hb' z0 z6 y37 f37 B1
    generalize World.setCell wz ⟨g, 37, none⟩ (.int .i64 (wrap64 (wrap64 (burst * seg) * 1000000))) = wy at B2 B5 HB ⊢
    replace B5 : Aside0 (wy.heap[g]? = some (.cells (Ln.cells { Ln.zero with seg := seg, mx := mx, fst := fst, grain := grain, least := least, great := great, burst := burst, win := win, thresh := 68719476736, bhave := wrap64 (wrap64 (burst * seg) * 1000000) }) 48 (0, 0))) := B5
    go_wp2_with (first
      | ((with_reducible refine gate_dst (N := 24) rfl ?_); refine wpList_load_row rfl 48 (.tmp 5) rfl g rfl 48 (Ln.cells { Ln.zero with seg := seg, mx := mx, fst := fst, grain := grain, least := least, great := great, burst := burst, win := win, thresh := 68719476736, bhave := wrap64 (wrap64 (burst * seg) * 1000000) }) (0, 0) _ B5.out Tryz.underlying48 rfl info48 ?_)
      | (refine put_row rfl 48 (.tmp 2) (.tmp 24) rfl rfl b2 (Ln.cells { Ln.zero with seg := seg, mx := mx, fst := fst, grain := grain, least := least, great := great, burst := burst, win := win, thresh := 68719476736, bhave := wrap64 (wrap64 (burst * seg) * 1000000) }) rfl rfl 48 Ln.zero.cells B2.out info48 rfl (Ln.one _ rfl) ?_; intro wx hbz hwz; replace B2 := Aside0.mk hbz; replace HB := Aside0.mk (hwz.to_below HB.out G2.out HB.out.size); clear hbz hwz B5)
      | fail)
    refine bodyPost_ret (results_new (g := b2) rfl rfl rfl B2.out rfl) rfl ⟨rfl, HB.out⟩
  · refine val_step (v := .pointer (some ⟨(World.heap wd).size, 0, none⟩)) (w1 := World.alloc wd (.cells Ln.zero.cells 48)) (by rfl) rfl (by simp [execOp, run_alloc48, Result.andThen]) ?_; have B5 := Aside0.mk (blk_new wd (.cells Ln.zero.cells 48)); have G5 := Aside0.mk HB.out.size; replace HB := Aside0.mk (below_alloc HB.out (.cells Ln.zero.cells 48)); have N1 : Aside0 (b1 ≠ (World.heap wd).size) := ⟨Nat.ne_of_lt (blk_lt B1.out)⟩; have N2 : Aside0 (b2 ≠ (World.heap wd).size) := ⟨Nat.ne_of_lt (blk_lt B2.out)⟩; replace B1 := Aside0.mk (blk_alloc B1.out (.cells Ln.zero.cells 48)); replace B2 := Aside0.mk (blk_alloc B2.out (.cells Ln.zero.cells 48)); generalize (World.heap wd).size = g at B5 G5 N1 N2 ⊢; generalize World.alloc wd (.cells Ln.zero.cells 48) = wn at B1 B2 B5 HB ⊢; refine hK.out _ _ ⟨czZ B1 0 (.int .i64 seg), czZ B1 1 (.int .i64 mx), czZ B1 2 (.int .i64 fst), czZ B1 3 (.int .i64 grain), czZ B1 4 (.int .i64 least), czZ B1 5 (.int .i64 great), czZ B1 6 (.int .i64 burst)⟩ (fun hHeld => ?_); clear hK K; refine normA_ (some 5) ?_
    refine one_ (i := 2) (N := some 14) #[Y,Y,Y,N,Y,N] rfl rfl (by kernel_rfl) (by decide) (fun K hK => ?_)
    refine goesA_ Tryz.func26 rfl #[.agg #[.int .i64 seg, .int .i64 mx, .int .i64 fst, .int .i64 grain, .int .i64 least, .int .i64 great, .int .i64 burst]] (by rfl) rfl rfl ?_; (with_reducible refine (guide_First.calls seg mx fst grain least great burst win _ hFi.out).mono ?_); rintro e wf ⟨rfl, hb⟩; refine ⟨_, rfl, ?_⟩; replace B1 := bbZ B1 hb; replace B2 := bbZ B2 hb; replace B5 := bbZ B5 hb; replace HB := Aside0.mk (below_step HB.out hb); clear hb; refine hK.out _ _ ⟨czZ B1 0 (.int .i64 seg), czZ B1 1 (.int .i64 mx), czZ B1 2 (.int .i64 fst), czZ B1 3 (.int .i64 grain), czZ B1 4 (.int .i64 least), czZ B1 5 (.int .i64 great), czZ B1 6 (.int .i64 burst)⟩ (fun hHeld => ?_); clear hK K; refine normA_ (some 14) ?_
    refine pureA_ (i := 3) (N := some 15) (v := .agg (Ln.cells { Ln.zero with seg := seg, mx := mx, fst := fst, grain := grain, least := least, great := great, burst := burst, win := win, thresh := 68719476736 })) #[Y,Y,Y,Y,Y,N] rfl rfl (by kernel_rfl) ?_ (Or.inl ⟨by rfl, fun w' => by kernel_rfl⟩)
    refine last_ (i := 5) (N := none) #[Y,Y,Y,Y,Y,Y] rfl rfl (by kernel_rfl) (by decide) (fun K hK => ?_)
    refine skip_ (w1 := World.setRow wf g (Ln.cells { Ln.zero with seg := seg, mx := mx, fst := fst, grain := grain, least := least, great := great, burst := burst, win := win, thresh := 68719476736 })) (by rfl) rfl (by have q := run_put_row (P := Tryz.prog) (t := 48) (cs := Ln.cells { Ln.zero with seg := seg, mx := mx, fst := fst, grain := grain, least := least, great := great, burst := burst, win := win, thresh := 68719476736 }) B5.out info48 rfl (Ln.one _ rfl); simp [execOp, Act.eval, q, Result.andThen]) ?_
    refine hK.out _ _ ?_; clear hK K hHeld
    have b5 := setRow_heap wf g _ (Ln.cells { Ln.zero with seg := seg, mx := mx, fst := fst, grain := grain, least := least, great := great, burst := burst, win := win, thresh := 68719476736 }) 48 (0, 0) B5.out
    have b1' := (setRow_other wf g b1 (Ln.cells { Ln.zero with seg := seg, mx := mx, fst := fst, grain := grain, least := least, great := great, burst := burst, win := win, thresh := 68719476736 }) N1.out).trans B1.out
    have b2' := (setRow_other wf g b2 (Ln.cells { Ln.zero with seg := seg, mx := mx, fst := fst, grain := grain, least := least, great := great, burst := burst, win := win, thresh := 68719476736 }) N2.out).trans B2.out
    have hb' : Below w.heap.size w (World.setRow wf g (Ln.cells { Ln.zero with seg := seg, mx := mx, fst := fst, grain := grain, least := least, great := great, burst := burst, win := win, thresh := 68719476736 })) := HB.out.trans ⟨rfl, rfl, rfl, by simp, fun k hk => setRow_other _ g k _ (by have := G5.out; omega)⟩
    replace B5 := Aside0.mk b5; replace B1 := Aside0.mk b1'; replace B2 := Aside0.mk b2'; replace HB := Aside0.mk hb'
    clear b5 b1' b2' hb'
    generalize World.setRow wf g (Ln.cells { Ln.zero with seg := seg, mx := mx, fst := fst, grain := grain, least := least, great := great, burst := burst, win := win, thresh := 68719476736 }) = wz at B1 B2 B5 HB ⊢
    refine done_ (by kernel_rfl) ?_
    have z0 := czZ B1 0 (.int .i64 seg); have z6 := czZ B1 6 (.int .i64 burst); have y37 := czZ B5 37 (.int .i64 0); have f37 := blk_frozen B5.out 37
    go_upto_region 6 with fail
    have b5 := blk_set B5.out 37 (.int .i64 (wrap64 (wrap64 (burst * seg) * 1000000)))
    have b2' := blk_far (p := ⟨g, 37, none⟩) B2.out N2.out (.int .i64 (wrap64 (wrap64 (burst * seg) * 1000000)))
    have hb' := HB.out.setCell (p := ⟨g, 37, none⟩) G5.out (.int .i64 (wrap64 (wrap64 (burst * seg) * 1000000)))
    replace B5 := Aside0.mk b5; replace B2 := Aside0.mk b2'; replace HB := Aside0.mk hb'
    clear b5 b2' hb' z0 z6 y37 f37 B1
    generalize World.setCell wz ⟨g, 37, none⟩ (.int .i64 (wrap64 (wrap64 (burst * seg) * 1000000))) = wy at B2 B5 HB ⊢
    replace B5 : Aside0 (wy.heap[g]? = some (.cells (Ln.cells { Ln.zero with seg := seg, mx := mx, fst := fst, grain := grain, least := least, great := great, burst := burst, win := win, thresh := 68719476736, bhave := wrap64 (wrap64 (burst * seg) * 1000000) }) 48 (0, 0))) := B5
    go_wp2_with (first
      | ((with_reducible refine gate_dst (N := 24) rfl ?_); refine wpList_load_row rfl 48 (.tmp 5) rfl g rfl 48 (Ln.cells { Ln.zero with seg := seg, mx := mx, fst := fst, grain := grain, least := least, great := great, burst := burst, win := win, thresh := 68719476736, bhave := wrap64 (wrap64 (burst * seg) * 1000000) }) (0, 0) _ B5.out Tryz.underlying48 rfl info48 ?_)
      | (refine put_row rfl 48 (.tmp 2) (.tmp 24) rfl rfl b2 (Ln.cells { Ln.zero with seg := seg, mx := mx, fst := fst, grain := grain, least := least, great := great, burst := burst, win := win, thresh := 68719476736, bhave := wrap64 (wrap64 (burst * seg) * 1000000) }) rfl rfl 48 Ln.zero.cells B2.out info48 rfl (Ln.one _ rfl) ?_; intro wx hbz hwz; replace B2 := Aside0.mk hbz; replace HB := Aside0.mk (hwz.to_below HB.out G2.out HB.out.size); clear hbz hwz B5)
      | fail)
    refine bodyPost_ret (results_new (g := b2) rfl rfl rfl B2.out rfl) rfl ⟨rfl, HB.out⟩

end Go.Proofs.YtfahbgkoldoflaaGreatDoor.Px
