/- By hand. Conditions: none beside the theorems' own. -/
import Derived.Great.BuildSlice
import Derived.Defers
import Derived.Recover
import Derived.Test.YtfahbgkoldoflaaGreatDoorPx0
import Derived.Test.YtfahbgkoldoflaaGreatDoorPx7
import Derived.Test.YtfahbgkoldoflaaGreatDoorPx8
import Derived.Test.YtfahbgkoldoflaaGreatDoorPx11
import Derived.Test.YtfahbgkoldoflaaGreatDoorPx12
import Derived.Test.YtfahbgkoldoflaaGreatDoorPx14
import Derived.Test.YtfahbgkoldoflaaGreatDoorPx22
import Derived.Test.YtfahbgkoldoflaaGreatDoorPx24
namespace Go.Proofs.YtfahbgkoldoflaaGreatDoor.Px
open Go.RowKit Go.Proofs.YtfahbgkoldoflaaGreatDoorW.PrintWords Go.Proofs.YtfahbgkoldoflaaGreatDoorW.PrintLast Go.Proofs.YtfahbgkoldoflaaGreatDoorW.PrintMore
attribute [local go_sem] max2_int min2_int max_two min_two max_three min_three max_four min_four   -- for this text's walks alone
set_option linter.unusedVariables false
set_option linter.unusedSimpArgs false

/-! ### top_do: function 13 -/
/-! top: by hand -/
set_option maxRecDepth 100000 in
set_option maxHeartbeats 2000000 in
theorem do_idle (a b c : Addr) (w : World) :
    CallsD Tryz.prog 28 #[.pointer (some a), .pointer (some b), .pointer (some c)] .returning w fun e u' w' => e = .returned (.tuple #[]) ∧ u' = .returning ∧ w' = w := by
  have hta : ∀ w : World, (Instr.typeAssert .nilIface 20 26 true).run Tryz.prog w = .ok (.tuple #[.int .i64 0, .bool false]) w := fun w => by kernel_rfl
  refine callsD_of_wpS Tryz.func28 rfl fun c₀ cs hu => ?_
  apply wpS_seq
  apply wpS_region
  simp [wpOpsS, go_sem, recoverD, hu, Tryz.ntmps28, Exit.thenS, hta]
  apply wpS_seq
  apply wpS_region
  simp [wpOpsS, go_sem, Exit.thenS, Array.replicate]
  refine wpS_cond (t := false) (by simp [Act.eval, Array.replicate]) ?_
  simp only [Bool.false_eq_true, if_false]
  refine wpS_of_wp (wp_skip ?_)
  cases c₀
  simp_all [bodyPostS, results, Tryz.results28]
def do_map : Array MapEntry := #[⟨.int .i64 6, .func (.func 38) #[] #[], 0⟩, ⟨.int .i64 1, .func (.func 39) #[] #[], 1⟩, ⟨.int .i64 2, .func (.func 40) #[] #[], 2⟩, ⟨.int .i64 3, .func (.func 41) #[] #[], 3⟩, ⟨.int .i64 4, .func (.func 42) #[] #[], 4⟩, ⟨.int .i64 5, .func (.func 43) #[] #[], 5⟩, ⟨.int .i64 7, .func (.func 44) #[] #[], 6⟩]
theorem results_do {tmps : Array Value} {W : World} {go gb : Nat} {cs : Array Value} {x : Value} (h4 : tmps.getD 4 undef = .pointer (some ⟨go, 0, none⟩)) (h5 : tmps.getD 5 undef = .pointer (some ⟨gb, 0, none⟩)) (h1 : W.heap[go]? = some (.cells cs 48 (0, 0))) (h2 : W.heap[gb]? = some (.cells #[x] 26 (0, 0))) (hs : cs.size = 39) :
    (results Tryz.f13 tmps).run Tryz.prog W = .ok (.tuple #[.agg cs, x]) W := by
  have h4' : tmps[4]?.getD undef = .pointer (some ⟨go, 0, none⟩) := by simpa using h4
  have h5' : tmps[5]?.getD undef = .pointer (some ⟨gb, 0, none⟩) := by simpa using h5
  have c := blk_cell h2 0
  have hl := run_loadVar_row (P := Tryz.prog) W go 48 48 cs (0, 0) _ h1 Tryz.underlying48 rfl (by rw [info48, hs])
  simp [results, show Tryz.f13.results = #[.cell 4 48, .cell 5 26] from rfl, h4', h5', asAddr, hl]
  go_simp
theorem run_zero26 (W : World) : (Instr.alloc 26 true (.tuple #[])).run Tryz.prog W = .ok (.pointer (some ⟨W.heap.size, 0, none⟩)) (W.alloc (.cells #[.int .i64 0] 26)) := by kernel_rfl
set_option maxRecDepth 100000 in
set_option maxHeartbeats 8000000 in
theorem engine_Do_ok (s : Ln) (R : Ln → Prop) (ek ea eb er nw rt bu c1 c2 : Int) (sl : Bool) (i F : Nat) (w : World) (hL : Tens w) (hs : Aside0 (s.lv = .slice none 0 0))
    (hCk : Aside0 (∀ W : World, Below w.heap.size w W → Calls Tryz.prog 30 #[.agg s.cells] W fun e w' => e = .returned (.bool true) ∧ Below W.heap.size W w'))
    (hEv : Aside0 (∀ W : World, Calls Tryz.prog 27 #[.agg #[.int .i64 ek, .int .i64 ea, .int .i64 eb, .int .i64 er]] W fun e w' => e = .returned (.int .i64 0) ∧ Below W.heap.size W w'))
    (hSt : Aside0 (clock_Step.f s.now ea = some (nw, 0))) (hSl : Aside0 (decide (s.win < s.thresh) = sl)) (hRt : Aside0 (rate_OfS.f s.win s.seg s.has s.mean s.far sl = some rt)) (hBu : Aside0 (wrap64 (s.burst * s.seg) = bu)) (hFi : Aside0 (bucket_FillS.f s.bat s.bhave nw rt bu = some (c1, c2, 0)))
    (hf : Aside0 (Instr.findNow (.int .i64) (.int .i64 ek) do_map.toList 0 = some (some (i, .func (.func F) #[] #[])))) (hen : Aside0 (∀ (args : Array Value) (W : World), (callFunc F args).run Tryz.prog W = .ok (.enter F args) W))
    (hM : Aside0 (∀ (W : World) (g : Nat), LnAt W g { s with now := nw, bat := c1, bhave := c2 } → Below w.heap.size w W → Calls Tryz.prog F #[.pointer (some ⟨g, 0, none⟩), .agg #[.int .i64 ek, .int .i64 ea, .int .i64 eb, .int .i64 er]] W fun e w' => e = .returned (.tuple #[]) ∧ ∃ s2, R s2 ∧ LnAt w' g s2 ∧ WrB g W w'))
    (hR1 : Aside0 (∀ s2, R s2 → s2.lv.oneCell' = true)) :
    Calls Tryz.prog 13 #[.agg s.cells, .agg #[.int .i64 ek, .int .i64 ea, .int .i64 eb, .int .i64 er]] w fun e w' => ∃ s2, R s2 ∧ e = .returned (.tuple #[.agg s2.cells, .int .i64 0]) ∧ Below w.heap.size w w' := by
  have HB := Aside0.mk (Below.refl w.heap.size w)
  have hmf : ∀ (fn : Fn) (first cap : Array Value) (w : World), (Instr.makeFunc fn first cap).run Tryz.prog w = .ok (.func fn first cap) w := fun _ _ _ _ => rfl
  have HT := Aside0.mk hL
  have H1 := Aside0.mk (s.one (by rw [hs.out]; rfl))
  clear hL
  go_enter_defers Tryz.func13, Tryz.ntmps13
  go_upto_region 5 with (first
    | ((with_reducible refine gate_dst (N := 2) rfl ?_); refine new_box rfl 48 (.tmp 0) rfl (some 2) rfl s.cells rfl (run_box48 _ _) ?_; intro b2 hg wb hbox hb; have B2 := Aside0.mk hbox; obtain ⟨G2, nHB⟩ := geA hg hb; replace HB := nHB; clear nHB; clear hg hb hbox)
    | ((with_reducible refine gate_dst (N := 3) rfl ?_); refine box_event ?hg (N := 3) ?hd (cs := #[.int .i64 ek, .int .i64 ea, .int .i64 eb, .int .i64 er]) (t := 52) ?hr ?_; (case hd => rfl); (case hg => rfl); (case hr => first | (go_simp; done) | (go_simp; rfl)); intro b3 hg wb hbox hb; have B3 := Aside0.mk hbox; obtain ⟨N23, M23, nB⟩ := nbA B2 hg hb; replace B2 := nB; clear nB; obtain ⟨G3, nHB⟩ := geA hg hb; replace HB := nHB; clear nHB; clear hg hb hbox)
    | ((with_reducible refine gate_dst (N := 4) rfl ?_); refine new_var rfl 48 rfl (some 4) rfl Ln.zero.cells (run_alloc48 _) ?_; intro b4 hg wb hbox hb; have B4 := Aside0.mk hbox; obtain ⟨N24, M24, nB⟩ := nbA B2 hg hb; replace B2 := nB; clear nB; obtain ⟨N34, M34, nB⟩ := nbA B3 hg hb; replace B3 := nB; clear nB; obtain ⟨G4, nHB⟩ := geA hg hb; replace HB := nHB; clear nHB; clear hg hb hbox)
    | ((with_reducible refine gate_dst (N := 5) rfl ?_); refine new_var rfl 26 rfl (some 5) rfl #[.int .i64 0] (run_zero26 _) ?_; intro b5 hg wb hbox hb; have B5 := Aside0.mk hbox; obtain ⟨N25, M25, nB⟩ := nbA B2 hg hb; replace B2 := nB; clear nB; obtain ⟨N35, M35, nB⟩ := nbA B3 hg hb; replace B3 := nB; clear nB; obtain ⟨N45, M45, nB⟩ := nbA B4 hg hb; replace B4 := nB; clear nB; obtain ⟨G5, nHB⟩ := geA hg hb; replace HB := nHB; clear nHB; clear hg hb hbox)
    | ((with_reducible refine gate_dst (N := 10) rfl ?_); refine wpList_load_row rfl 48 (.tmp 2) rfl b2 rfl 48 s.cells (0, 0) _ B2.out Tryz.underlying48 rfl info48 ?_)
    | (go_at_call 30; (with_reducible refine (hCk.out _ HB.out).mono ?_); rintro e wc ⟨rfl, hb9⟩; replace B2 := bbZ B2 hb9; replace B3 := bbZ B3 hb9; replace B4 := bbZ B4 hb9; replace B5 := bbZ B5 hb9; replace HB := Aside0.mk (below_step HB.out hb9); clear hb9; have y0 := czZ B3 0 (.int .i64 ek); have y1 := czZ B3 1 (.int .i64 ea); have y2 := czZ B3 2 (.int .i64 eb); have y3 := czZ B3 3 (.int .i64 er))
    | (go_at_call 27; (with_reducible refine (hEv.out _).mono ?_); rintro e we ⟨rfl, hb9⟩; clear y0 y1 y2 y3; replace B2 := bbZ B2 hb9; replace B3 := bbZ B3 hb9; replace B4 := bbZ B4 hb9; replace B5 := bbZ B5 hb9; replace HB := Aside0.mk (below_step HB.out hb9); clear hb9)
    | (go_at_call 31; refine (must_ok _).mono ?_; rintro e wm ⟨rfl, rfl⟩)
    | fail)
  go_upto_region 6 with (first
    | ((with_reducible refine gate_dst (N := 17) rfl ?_); refine wpList_load_row rfl 48 (.tmp 2) rfl b2 rfl 48 s.cells (0, 0) _ B2.out Tryz.underlying48 rfl info48 ?_)
    | (go_at_call 29; (with_reducible refine (engine_own_nil s hs.out _).mono ?_); rintro e wo ⟨rfl, hb9⟩; replace B2 := bbZ B2 hb9; replace B3 := bbZ B3 hb9; replace B4 := bbZ B4 hb9; replace B5 := bbZ B5 hb9; replace HB := Aside0.mk (below_step HB.out hb9); clear hb9)
    | ((with_reducible refine gate_dst (N := 6) rfl ?_); refine new_var rfl 83 rfl (some 6) rfl Ln.zero.cells (run_alloc83 _) ?_; intro g hg wb hbox hb; have BG := Aside0.mk hbox; obtain ⟨N2g, M2g, nB⟩ := nbA B2 hg hb; replace B2 := nB; clear nB; obtain ⟨N3g, M3g, nB⟩ := nbA B3 hg hb; replace B3 := nB; clear nB; obtain ⟨N4g, M4g, nB⟩ := nbA B4 hg hb; replace B4 := nB; clear nB; obtain ⟨N5g, M5g, nB⟩ := nbA B5 hg hb; replace B5 := nB; clear nB; obtain ⟨Gg, nHB⟩ := geA hg hb; replace HB := nHB; clear nHB; clear hg hb hbox)
    | (refine put_row rfl 83 (.tmp 6) (.tmp 18) rfl rfl g s.cells rfl rfl 83 Ln.zero.cells BG.out info83 rfl H1.out ?_; intro wz hbz hwz; have HA := Aside0.mk (show LnAt wz g s from hbz); have HW0 := Aside0.mk hwz; replace HB := Aside0.mk (hwz.to_below HB.out Gg.out HB.out.size); replace B2 := Aside0.mk (hwz.blk B2.out N2g.out); replace B3 := Aside0.mk (hwz.blk B3.out N3g.out); replace B4 := Aside0.mk (hwz.blk B4.out N4g.out); replace B5 := Aside0.mk (hwz.blk B5.out N5g.out); clear hbz hwz BG HW0)
    | fail)
  have x7 := czZ B2 7 (.int .i64 s.now) rfl; have y1 := czZ B3 1 (.int .i64 ea)
  go_upto_region 7 with (first | (go_at_call 33; (with_reducible refine (clock_Step.calls s.now ea nw 0 _ hSt.out).mono ?_); rintro e ws ⟨rfl, hb9⟩; clear x7 y1; replace HA := Aside0.mk (HA.out.below hb9); replace B2 := bbZ B2 hb9; replace B3 := bbZ B3 hb9; replace B4 := bbZ B4 hb9; replace B5 := bbZ B5 hb9; replace HB := Aside0.mk (below_step HB.out hb9); clear hb9) | (go_at_call 32; refine (got_int_ok (.int .i64 nw) _).mono ?_; rintro e wt ⟨rfl, rfl⟩) | fail)
  refine wp_region_noPanic ?_
  replace HA := Aside0.mk HA.out.drew
  replace HB := Aside0.mk (below_drew1 HB.out)
  replace B2 := Aside0.mk (blk_drew B2.out)
  replace B3 := Aside0.mk (blk_drew B3.out)
  replace B4 := Aside0.mk (blk_drew B4.out)
  replace B5 := Aside0.mk (blk_drew B5.out)
  refine start_ (n := 13) (S := fun w' => w'.cell? ⟨g, 36, none⟩ = some (.int .i64 s.bat) ∧ w'.cell? ⟨g, 37, none⟩ = some (.int .i64 s.bhave)) (ds := [12]) #[N,N,N,N,N,N,N,N,N,N,N,N,N] (by kernel_rfl) rfl rfl ⟨LnAt.cell HA 36 (.int .i64 s.bat), LnAt.cell HA 37 (.int .i64 s.bhave)⟩ (fun hHeld => ?_)
  generalize wt.drew = w1 at HA HB B2 B3 B4 B5 hHeld ⊢
  refine pureA_ (i := 0) (N := some 27) #[Y,N,N,N,N,N,N,N,N,N,N,N,N] rfl rfl (by kernel_rfl) ?_
  refine pureA_ (i := 1) (N := some 28) #[Y,Y,N,N,N,N,N,N,N,N,N,N,N] rfl rfl (by kernel_rfl) ?_
  refine take_ (i := 2) (N := some 29) (v := ?_) (a' := ?_) #[Y,Y,Y,N,N,N,N,N,N,N,N,N,N] rfl rfl (by kernel_rfl) (fun _ _ _ h => h) (Or.inl ⟨by rfl, ?_⟩) hHeld ?_ ?_; rotate_left
  · rintro w' ⟨s0, s1⟩; go_simp
    with_reducible rfl
  rotate_left
  · simp only [Act.put, sA, sB, sC, i64_w, i32_w]
    rfl
  refine pureA_ (i := 3) (N := some 30) #[Y,Y,Y,Y,N,N,N,N,N,N,N,N,N] rfl rfl (by kernel_rfl) ?_
  refine one_ (i := 4) (N := some 31) #[Y,Y,Y,Y,Y,N,N,N,N,N,N,N,N] rfl rfl (by kernel_rfl) (by decide) (fun K hK => ?_)
  refine goesA_ Tryz.func36 rfl #[.pointer (some ⟨g, 0, none⟩)] (by rfl) rfl rfl ?_
  (with_reducible refine (line_rate g s sl rt hSl hRt _ HA.out).mono ?_); rintro e w2 ⟨rfl, hb⟩; refine ⟨_, rfl, ?_⟩; replace HA := Aside0.mk (HA.out.below hb); replace HB := Aside0.mk (below_step HB.out hb); replace B2 := bbZ B2 hb; replace B3 := bbZ B3 hb; replace B4 := bbZ B4 hb; replace B5 := bbZ B5 hb; clear hb
  refine hK.out _ _ ⟨LnAt.cell HA 36 (.int .i64 s.bat), LnAt.cell HA 37 (.int .i64 s.bhave)⟩ (fun hHeld => ?_); clear hK K; refine normA_ (some 31) ?_
  refine one_ (i := 5) (N := some 32) #[Y,Y,Y,Y,Y,Y,N,N,N,N,N,N,N] rfl rfl (by kernel_rfl) (by decide) (fun K hK => ?_)
  refine goesA_ Tryz.func37 rfl #[.pointer (some ⟨g, 0, none⟩)] (by rfl) rfl rfl ?_
  (with_reducible refine (line_burst g s bu hBu.out _ HA.out).mono ?_); rintro e w3 ⟨rfl, hb⟩; refine ⟨_, rfl, ?_⟩; replace HA := Aside0.mk (HA.out.below hb); replace HB := Aside0.mk (below_step HB.out hb); replace B2 := bbZ B2 hb; replace B3 := bbZ B3 hb; replace B4 := bbZ B4 hb; replace B5 := bbZ B5 hb; clear hb
  refine hK.out _ _ ⟨LnAt.cell HA 36 (.int .i64 s.bat), LnAt.cell HA 37 (.int .i64 s.bhave)⟩ (fun hHeld => ?_); clear hK K; refine normA_ (some 32) ?_
  refine one_ (i := 6) (N := some 33) #[Y,Y,Y,Y,Y,Y,Y,N,N,N,N,N,N] rfl rfl (by kernel_rfl) (by decide) (fun K hK => ?_)
  refine goesA_ Tryz.func35 rfl #[.agg #[.int .i64 s.bat, .int .i64 s.bhave], .int .i64 nw, .int .i64 rt, .int .i64 bu] (by rfl) rfl rfl ?_
  (with_reducible refine (bucket_FillS.calls s.bat s.bhave nw rt bu c1 c2 0 _ hFi.out).mono ?_); rintro e w4 ⟨rfl, hb⟩; refine ⟨_, rfl, ?_⟩; replace HA := Aside0.mk (HA.out.below hb); replace HB := Aside0.mk (below_step HB.out hb); replace B2 := bbZ B2 hb; replace B3 := bbZ B3 hb; replace B4 := bbZ B4 hb; replace B5 := bbZ B5 hb; clear hb
  refine hK.out _ _ ⟨LnAt.cell HA 36 (.int .i64 s.bat), LnAt.cell HA 37 (.int .i64 s.bhave)⟩ (fun hHeld => ?_); clear hK K; refine normA_ (some 33) ?_
  refine pureA_ (i := 7) (N := some 34) #[Y,Y,Y,Y,Y,Y,Y,Y,N,N,N,N,N] rfl rfl (by kernel_rfl) ?_
  refine pureA_ (i := 8) (N := some 35) #[Y,Y,Y,Y,Y,Y,Y,Y,Y,N,N,N,N] rfl rfl (by kernel_rfl) ?_
  refine one_ (i := 9) (N := some 36) #[Y,Y,Y,Y,Y,Y,Y,Y,Y,Y,N,N,N] rfl rfl (by kernel_rfl) (by decide) (fun K hK => ?_)
  refine goesA_ Tryz.func34 rfl #[.agg #[.int .i64 c1, .int .i64 c2], .int .i64 0] (by rfl) rfl rfl ?_
  (with_reducible refine (got_bucket_ok c1 c2 _).mono ?_); rintro e w5 ⟨rfl, hb⟩; refine ⟨_, rfl, ?_⟩; replace HA := Aside0.mk (HA.out.below hb); replace HB := Aside0.mk (below_step HB.out hb); replace B2 := bbZ B2 hb; replace B3 := bbZ B3 hb; replace B4 := bbZ B4 hb; replace B5 := bbZ B5 hb; clear hb
  refine hK.out _ _ ⟨LnAt.cell HA 36 (.int .i64 s.bat), LnAt.cell HA 37 (.int .i64 s.bhave)⟩ (fun hHeld => ?_); clear hK K; refine normA_ (some 36) ?_
  refine pureA_ (i := 10) (N := some 37) #[Y,Y,Y,Y,Y,Y,Y,Y,Y,Y,Y,N,N] rfl rfl (by kernel_rfl) ?_
  refine pureA_ (i := 11) (N := some 38) #[Y,Y,Y,Y,Y,Y,Y,Y,Y,Y,Y,Y,N] rfl rfl (by kernel_rfl) ?_
  refine last_ (i := 12) (N := none) #[Y,Y,Y,Y,Y,Y,Y,Y,Y,Y,Y,Y,Y] rfl rfl (by kernel_rfl) (by decide) (fun K hK => ?_); have z36 := LnAt.cell HA 36 (.int .i64 s.bat); have z36f := LnAt.frozen HA 36; have z37 := LnAt.cell HA 37 (.int .i64 s.bhave); have z37f := LnAt.frozen HA 37; refine skip_ (w1 := ?_) (by rfl) rfl ?_ ?_; rotate_left
  · go_simp
    rfl
  refine hK.out _ _ ?_; clear hK K; clear z36 z37 z36f z37f
  (try clear hHeld)
  replace HA := Aside0.mk (LnAt.set (t := { s with bat := c1, bhave := c2 }) (LnAt.set (t := { s with bat := c1 }) HA.out 36 (.int .i64 c1)) 37 (.int .i64 c2))
  replace HB := Aside0.mk ((HB.out.setCell (p := ⟨g, 36, none⟩) Gg.out (.int .i64 c1)).setCell (p := ⟨g, 37, none⟩) Gg.out (.int .i64 c2))
  replace B2 := Aside0.mk (blk_far (p := ⟨g, 37, none⟩) (blk_far (p := ⟨g, 36, none⟩) B2.out N2g.out (.int .i64 c1)) N2g.out (.int .i64 c2))
  replace B3 := Aside0.mk (blk_far (p := ⟨g, 37, none⟩) (blk_far (p := ⟨g, 36, none⟩) B3.out N3g.out (.int .i64 c1)) N3g.out (.int .i64 c2))
  replace B4 := Aside0.mk (blk_far (p := ⟨g, 37, none⟩) (blk_far (p := ⟨g, 36, none⟩) B4.out N4g.out (.int .i64 c1)) N4g.out (.int .i64 c2))
  replace B5 := Aside0.mk (blk_far (p := ⟨g, 37, none⟩) (blk_far (p := ⟨g, 36, none⟩) B5.out N5g.out (.int .i64 c1)) N5g.out (.int .i64 c2))
  generalize (World.setCell (World.setCell w5 ⟨g, 36, none⟩ (.int .i64 c1)) ⟨g, 37, none⟩ (.int .i64 c2)) = w6 at HA HB B2 B3 B4 B5 ⊢
  refine done_ (by kernel_rfl) ?_
  refine NoPanic.normal ?_
  have z7 := LnAt.cell HA 7 (.int .i64 s.now); have z7f := LnAt.frozen HA 7
  go_upto_region 9 with fail
  clear z7 z7f
  replace HA := Aside0.mk (LnAt.set (t := { s with now := nw, bat := c1, bhave := c2 }) HA.out 7 (.int .i64 nw))
  replace HB := Aside0.mk (HB.out.setCell (p := ⟨g, 7, none⟩) Gg.out (.int .i64 nw))
  replace B2 := Aside0.mk (blk_far (p := ⟨g, 7, none⟩) B2.out N2g.out (.int .i64 nw))
  replace B3 := Aside0.mk (blk_far (p := ⟨g, 7, none⟩) B3.out N3g.out (.int .i64 nw))
  replace B4 := Aside0.mk (blk_far (p := ⟨g, 7, none⟩) B4.out N4g.out (.int .i64 nw))
  replace B5 := Aside0.mk (blk_far (p := ⟨g, 7, none⟩) B5.out N5g.out (.int .i64 nw))
  generalize (World.setCell w6 ⟨g, 7, none⟩ (.int .i64 nw)) = w7 at HA HB B2 B3 B4 B5 ⊢
  go_upto_region 10 with (first
    | ((with_reducible refine gate_dst (N := 42) rfl ?_); refine map_made rfl 95 rfl ?_; intro r hg wr hm hb; obtain ⟨N2r, M2r, nB⟩ := nbA B2 hg hb; replace B2 := nB; clear nB; obtain ⟨N3r, M3r, nB⟩ := nbA B3 hg hb; replace B3 := nB; clear nB; obtain ⟨N4r, M4r, nB⟩ := nbA B4 hg hb; replace B4 := nB; clear nB; obtain ⟨N5r, M5r, nB⟩ := nbA B5 hg hb; replace B5 := nB; clear nB; obtain ⟨Ngr, Mgr, nB⟩ := nbA (o := .cells (Ln.cells { s with now := nw, bat := c1, bhave := c2 }) 83 (0, 0)) HA hg hb; replace HA : Aside0 (LnAt wr g { s with now := nw, bat := c1, bhave := c2 }) := nB; clear nB; obtain ⟨GR, nHB⟩ := geA hg hb; replace HB := nHB; clear nHB hg hb; have BM := Aside0.mk hm; clear hm)
    | (refine map_entry rfl 95 3 92 (.tmp 42) (.const (.int .i64 _)) (.func _) rfl rfl Tryz.underlying95 Tryz.underlying3 r _ _ _ rfl rfl BM.out (by rfl) ?_; intro wr hm hm2; replace HB := Aside0.mk (hm2.to_below HB.out GR.out HB.out.size); replace B2 := Aside0.mk (hm2.blk B2.out N2r.out); replace B3 := Aside0.mk (hm2.blk B3.out N3r.out); replace B4 := Aside0.mk (hm2.blk B4.out N4r.out); replace B5 := Aside0.mk (hm2.blk B5.out N5r.out); replace HA : Aside0 (LnAt _ g { s with now := nw, bat := c1, bhave := c2 }) := ⟨hm2.blk HA.out Ngr.out⟩; replace BM := Aside0.mk hm; clear hm hm2)
    | fail)
  replace BM : Aside0 (wr.heap[r]? = some (.map do_map 7)) := BM
  have y0 := czZ B3 0 (.int .i64 ek)
  have y1 := czZ B3 1 (.int .i64 ea); have y2 := czZ B3 2 (.int .i64 eb); have y3 := czZ B3 3 (.int .i64 er)
  have hlk := run_found (ok := false) Tryz.underlying95 Tryz.underlying3 BM.out hf.out
  simp only [Bool.false_eq_true, if_false] at hlk
  have hen1 := hen.out
  go_upto_region 11 with (first | ((with_reducible refine (hM.out _ g HA.out HB.out).mono ?_); rintro e wv ⟨rfl, s2, hr2, ha2, hw2⟩; clear y0 y1 y2 y3 hlk; replace HA := Aside0.mk ha2; replace HB := Aside0.mk (hw2.to_below HB.out Gg.out HB.out.size); replace B4 := Aside0.mk (hw2.blk B4.out N4g.out); replace B5 := Aside0.mk (hw2.blk B5.out N5g.out); replace B2 := Aside0.mk (hw2.blk B2.out N2g.out); clear ha2 hw2 BM B3) | fail)
  have HR2 := Aside0.mk hr2
  have H2 := Aside0.mk (Ln.one s2 (hR1.out s2 hr2))
  clear hr2 hen1
  go_wp2_with (first
    | ((with_reducible refine gate_dst (N := 51) rfl ?_); refine wpList_load_row rfl 48 (.tmp 50) rfl g rfl 83 s2.cells (0, 0) _ HA.out Tryz.underlying48 rfl info48 ?_)
    | (refine put_row rfl 48 (.tmp 4) (.tmp 51) rfl rfl b4 s2.cells rfl rfl 48 Ln.zero.cells B4.out info48 rfl H2.out ?_; intro wz hbz hwz; replace B4 := Aside0.mk hbz; replace HB := Aside0.mk (hwz.to_below HB.out G4.out HB.out.size); replace B5 := Aside0.mk (hwz.blk B5.out M45.out); replace B2 := Aside0.mk (hwz.blk B2.out N24.out); clear hbz hwz HA; have v0 := czZ B5 0 (.int .i64 0); have v0f := blk_frozen B5.out 0)
    | fail)
  refine leaves_cons (f := 28) (args := #[.pointer (some ⟨b2, 0, none⟩), .pointer (some ⟨b4, 0, none⟩), .pointer (some ⟨b5, 0, none⟩)]) (by simp) (by simp [go_sem]) ?_
  refine (do_idle _ _ _ _).mono ?_
  rintro e u' w'' ⟨rfl, rfl, rfl⟩
  have r1 := blk_far (p := ⟨b5, 0, none⟩) B4.out N45.out (.int .i64 0)
  have r2 := blk_set B5.out 0 (.int .i64 0)
  have r3 := HB.out.setCell (p := ⟨b5, 0, none⟩) G5.out (.int .i64 0)
  exact ⟨_, results_do (x := .int .i64 0) rfl rfl r1 r2 (Ln.size s2), s2, HR2.out, rfl, r3⟩

end Go.Proofs.YtfahbgkoldoflaaGreatDoor.Px
