/- By hand. Conditions: none beside the theorems' own. -/
import Derived.Test.YtfahbgkoldoflaaGreatDoorPx0
namespace Go.Proofs.YtfahbgkoldoflaaGreatDoor.Px
open Go.RowKit Go.Proofs.YtfahbgkoldoflaaGreatDoorW.PrintWords Go.Proofs.YtfahbgkoldoflaaGreatDoorW.PrintLast Go.Proofs.YtfahbgkoldoflaaGreatDoorW.PrintMore
attribute [local go_sem] max2_int min2_int max_two min_two max_three min_three max_four min_four   -- for this text's walks alone
set_option linter.unusedVariables false
set_option linter.unusedSimpArgs false

/-! ### top_must: function 31 -/
/-! top: by hand -/
/-- A connection's 39 numbers, as they lie in memory; 'lv' is the slice of its marks. -/
structure Ln where
  seg : Int
  mx : Int
  fst : Int
  grain : Int
  least : Int
  great : Int
  burst : Int
  now : Int
  last : Int
  win : Int
  thresh : Int
  high : Int
  sent : Int
  told : Int
  out : Int
  has : Bool
  mean : Int
  far : Int
  lv : Value
  rid : Int
  rend : Int
  hlast : Int
  hleast : Int
  hmany : Int
  hgentle : Bool
  hdone : Bool
  hbase : Int
  hrounds : Int
  eon : Bool
  estart : Int
  efirst : Int
  emax : Int
  ek : Int
  eest : Int
  recov : Int
  back : Int
  bat : Int
  bhave : Int
  lim : Bool
def Ln.list (s : Ln) : List Value := [.int .i64 s.seg, .int .i64 s.mx, .int .i64 s.fst, .int .i64 s.grain, .int .i64 s.least, .int .i64 s.great, .int .i64 s.burst, .int .i64 s.now, .int .i64 s.last, .int .i64 s.win, .int .i64 s.thresh, .int .i64 s.high, .int .i64 s.sent, .int .i64 s.told, .int .i64 s.out, .bool s.has, .int .i64 s.mean, .int .i64 s.far, s.lv, .int .i64 s.rid, .int .i64 s.rend, .int .i64 s.hlast, .int .i64 s.hleast, .int .i64 s.hmany, .bool s.hgentle, .bool s.hdone, .int .i64 s.hbase, .int .i64 s.hrounds, .bool s.eon, .int .i64 s.estart, .int .i64 s.efirst, .int .i64 s.emax, .int .i64 s.ek, .int .i64 s.eest, .int .i64 s.recov, .int .i64 s.back, .int .i64 s.bat, .int .i64 s.bhave, .bool s.lim]
def Ln.cells (s : Ln) : Array Value := #[.int .i64 s.seg, .int .i64 s.mx, .int .i64 s.fst, .int .i64 s.grain, .int .i64 s.least, .int .i64 s.great, .int .i64 s.burst, .int .i64 s.now, .int .i64 s.last, .int .i64 s.win, .int .i64 s.thresh, .int .i64 s.high, .int .i64 s.sent, .int .i64 s.told, .int .i64 s.out, .bool s.has, .int .i64 s.mean, .int .i64 s.far, s.lv, .int .i64 s.rid, .int .i64 s.rend, .int .i64 s.hlast, .int .i64 s.hleast, .int .i64 s.hmany, .bool s.hgentle, .bool s.hdone, .int .i64 s.hbase, .int .i64 s.hrounds, .bool s.eon, .int .i64 s.estart, .int .i64 s.efirst, .int .i64 s.emax, .int .i64 s.ek, .int .i64 s.eest, .int .i64 s.recov, .int .i64 s.back, .int .i64 s.bat, .int .i64 s.bhave, .bool s.lim]
/-- The connection s lies at block g of W. -/
def LnAt (W : World) (g : Nat) (s : Ln) : Prop := W.heap[g]? = some (.cells s.cells 83 (0, 0))
/-- What has turned is block g alone, and what is new. -/
structure WrB (g : Nat) (w w' : World) : Prop where
  os : w'.os = w.os
  tape : w'.tape = w.tape
  output : w'.output = w.output
  size : w.heap.size ≤ w'.heap.size
  block : ∀ k, k < w.heap.size → k ≠ g → w'.heap[k]? = w.heap[k]?
theorem WrB.refl (g : Nat) (w : World) : WrB g w w := ⟨rfl, rfl, rfl, Nat.le_refl _, fun _ _ _ => rfl⟩
theorem WrB.of_below {g : Nat} {w w' : World} (h : Below w.heap.size w w') : WrB g w w' := ⟨h.os, h.tape, h.output, h.size, fun k hk _ => h.block k hk⟩
theorem WrB.trans {g : Nat} {a b c : World} (h : WrB g a b) (k : WrB g b c) : WrB g a c := ⟨k.os.trans h.os, k.tape.trans h.tape, k.output.trans h.output, Nat.le_trans h.size k.size, fun i hi hg => (k.block i (Nat.lt_of_lt_of_le hi h.size) hg).trans (h.block i hi hg)⟩
theorem WrB.below {g : Nat} {a b c : World} (h : WrB g a b) (k : Below b.heap.size b c) : WrB g a c := h.trans (WrB.of_below k)
theorem WrB.drew {g : Nat} {a b : World} (h : WrB g a b) : WrB g a b.drew := ⟨h.os, h.tape, h.output, h.size, h.block⟩
theorem WrB.drewN {g : Nat} {a b : World} (h : WrB g a b) (n : Nat) : WrB g a (b.drewN n) := ⟨h.os, h.tape, h.output, h.size, h.block⟩
theorem WrB.set {g : Nat} {a b : World} (h : WrB g a b) (i : Nat) (v : Value) : WrB g a (b.setCell ⟨g, i, none⟩ v) := by
  have q := (Below.refl g b).setCell (p := ⟨g, i, none⟩) (Nat.le_refl _) v
  exact h.trans ⟨q.os, q.tape, q.output, q.size, fun k _ hk => Below.heap_setCell b _ v k hk⟩
theorem WrB.to_below {g B : Nat} {w0 a b : World} (h : WrB g a b) (hb : Below B w0 a) (hg : B ≤ g) (hB : B ≤ a.heap.size) : Below B w0 b :=
  ⟨h.os.trans hb.os, h.tape.trans hb.tape, h.output.trans hb.output, Nat.le_trans hb.size h.size, fun k hk => (h.block k (Nat.lt_of_lt_of_le hk hB) (by omega)).trans (hb.block k hk)⟩
theorem WrB.blk {g k : Nat} {a b : World} {o : Obj} (h : WrB g a b) (hk : a.heap[k]? = some o) (hn : k ≠ g) : b.heap[k]? = some o := (h.block k (blk_lt hk) hn).trans hk
theorem LnAt.below {g : Nat} {w w' : World} {s : Ln} (h : LnAt w g s) (hb : Below w.heap.size w w') : LnAt w' g s := blk_below h hb
theorem LnAt.drew {g : Nat} {w : World} {s : Ln} (h : LnAt w g s) : LnAt w.drew g s := h
theorem LnAt.set {g : Nat} {w : World} {s t : Ln} (h : LnAt w g s) (i : Nat) (v : Value) (e : s.cells.setIfInBounds i v = t.cells := by rfl) : LnAt (w.setCell ⟨g, i, none⟩ v) g t := blk_put h i v e
theorem LnAt.cell {g : Nat} {w : World} {s : Ln} (h : Aside0 (LnAt w g s)) (i : Nat) (v : Value) (e : s.cells[i]? = some v := by rfl) : w.cell? ⟨g, i, none⟩ = some v := (blk_cell h.out i).trans e
theorem LnAt.frozen {g : Nat} {w : World} {s : Ln} (h : Aside0 (LnAt w g s)) (i : Nat) : w.frozen? ⟨g, i, none⟩ = false := blk_frozen h.out i
theorem LnAt.alloc {g : Nat} {w : World} {s : Ln} (h : LnAt w g s) (o : Obj) : LnAt (w.alloc o) g s := blk_alloc h o
theorem val_step {P : Program} {ops : Array Oper} {Q : Exit → Act → World → Prop} {oi : Oper} {N : Option Tmp} {a : Act} {w w1 : World} {v : Value} {K : Act → World → Prop} (hw : Region.wanted oi (yielded ops a.tmps) = true) (hN : oi.dst = N) (hrun : (execOp a.eval oi).run P w = .ok (.value v) w1)
    (h : K (a.put N v) w1) : if Region.wanted oi (yielded ops a.tmps) = true then Oper.wp P oi a w K Q else K (a.put N undef) w := by
  subst hN
  rw [if_pos hw]
  unfold Oper.wp
  rw [hrun]
  exact h
structure S119 where
 f0 : Int
 f1 : Int
def z119 : S119 := ⟨(0 : Int), (0 : Int)⟩
def k119 : Kd S119 := Kd.iso (Kd.pair (Kd.int .i64) (Kd.int .i64)) (fun x : S119 => (x.f0, x.f1))
theorem k119_open {w : World} {x : S119} {cs : List Value} (h : k119.K w x cs) : cs = [.int .i64 x.f0, .int .i64 x.f1] := by
 obtain ⟨_, _, rfl, rfl, rfl⟩ := h; exact rfl
theorem k119_openM {w : World} {base : Nat} {ok : Nat → Prop} {x : S119} {cs : List Value} (h : k119.M w base ok x cs) : cs = [.int .i64 x.f0, .int .i64 x.f1] := by
 obtain ⟨_, _, rfl, rfl, rfl⟩ := h; exact rfl
theorem k119_mk (w : World) (x : S119)  : k119.K w x [.int .i64 x.f0, .int .i64 x.f1] := ⟨[.int .i64 x.f0], [.int .i64 x.f1], rfl, rfl, rfl⟩
theorem k119_mkM (w : World) (base : Nat) (ok : Nat → Prop) (x : S119)  : k119.M w base ok x [.int .i64 x.f0, .int .i64 x.f1] := ⟨[.int .i64 x.f0], [.int .i64 x.f1], rfl, rfl, rfl⟩
def rd_T119 (xs : List S119) (i : Int) : S119 := xs.getD i.toNat z119
theorem at_T119 {w : World} {A : Option Addr} {n : Nat} {xs : List S119} (h : Kd.C k119 w A n xs) (i : Int) (h0 : 0 ≤ i) (h1 : i < n) : ∃ ad , A = some ad ∧ w.cell? (ad.add (i.toNat * 2)) = some (.int .i64 (rd_T119 xs i).f0) ∧ w.cell? ⟨(ad.add (i.toNat * 2)).block, (ad.add (i.toNat * 2)).off + 1, none⟩ = some (.int .i64 (rd_T119 xs i).f1) := by
 obtain ⟨ad, c, e, _, hK, hc0⟩ := Kd.C_get h z119 i h0 h1; have hc : ∀ j u, c[j]? = some u → w.cell? (ad.add (i.toNat * 2 + j)) = some u := hc0; obtain rfl := k119_open hK; exact ⟨ad, e, hc 0 _ rfl, by rw [← add_field _ _ 1 (by omega)]; exact hc 1 _ rfl⟩
theorem must_ok (w : World) : Calls Tryz.prog 31 #[.int .i64 0] w fun e w' => e = .returned (.tuple #[]) ∧ w' = w := by
  go_enter Tryz.func31, Tryz.ntmps31
  go_wp2
  go_end0
  exact ⟨rfl, rfl⟩
theorem got_int_ok (v : Value) (w : World) : Calls Tryz.prog 32 #[v, .int .i64 0] w fun e w' => e = .returned v ∧ w' = w := by
  go_enter Tryz.func32, Tryz.ntmps32
  go_wp2_with (first | (go_at_call 31; refine (must_ok _).mono ?_; rintro e w' ⟨rfl, rfl⟩) | fail)
  go_ret
  exact ⟨rfl, rfl⟩
theorem got_marks_ok (v : Value) (w : World) : Calls Tryz.prog 135 #[v, .int .i64 0] w fun e w' => e = .returned v ∧ w' = w := by
  go_enter Tryz.func135, Tryz.ntmps135
  go_wp2_with (first | (go_at_call 31; refine (must_ok _).mono ?_; rintro e w' ⟨rfl, rfl⟩) | fail)
  go_ret
  exact ⟨rfl, rfl⟩
set_option maxHeartbeats 1000000 in
theorem got_bucket_ok (x0 : Int) (x1 : Int) (w : World) : Calls Tryz.prog 34 #[.agg #[.int .i64 x0, .int .i64 x1], .int .i64 0] w fun e w' => e = .returned (.agg #[.int .i64 x0, .int .i64 x1]) ∧ Below w.heap.size w w' := by
  have HB := Aside0.mk (Below.refl w.heap.size w)
  have hu := Tryz.underlying46
  go_enter Tryz.func34, Tryz.ntmps34
  go_wp2_with (first
    | ((with_reducible refine gate_dst (N := 2) rfl ?_); refine box_event ?hg (N := 2) ?hd (cs := #[.int .i64 x0, .int .i64 x1]) (t := 46) ?hr ?_; (case hd => rfl); (case hg => rfl); (case hr => first | (go_simp; done) | (go_simp; rfl)); intro b2 hg w2 hbox hb; have BK2 := Aside0.mk hbox; obtain ⟨G2, nHB⟩ := geA hg hb; replace HB := nHB; clear nHB hb hbox hg)
    | ((with_reducible refine gate_dst (N := 4) rfl ?_); refine box_event ?hg (N := 4) ?hd (cs := #[.int .i64 0, .int .i64 0]) (t := 46) ?hr ?_; (case hd => rfl); (case hg => rfl); (case hr => first | (go_simp; done) | (go_simp; rfl)); intro b4 hg w4 hbox hb; have BK4 := Aside0.mk hbox; obtain ⟨G4, nHB⟩ := geA hg hb; obtain ⟨N24, N42, nBK⟩ := nbA BK2 hg hb; replace BK2 := nBK; replace HB := nHB; clear nBK nHB hb hbox hg; have n1 := N24.out; have n2 := N42.out; have z0 := czZ BK2 0 (.int .i64 x0); have z1 := czZ BK2 1 (.int .i64 x1); have y0 := czZ BK4 0 (.int .i64 0); have y1 := czZ BK4 1 (.int .i64 0); have f0 := blk_frozen BK4.out 0; have f1 := blk_frozen BK4.out 1)
    | (go_at_call 31; refine (must_ok _).mono ?_; rintro e w' ⟨rfl, rfl⟩)
    | fail)
  have pf := (blk_set (blk_set BK4.out 0 (.int .i64 x0)) 1 (.int .i64 x1))
  refine bodyPost_ret (results_cell_row (fn := Tryz.f34) (p := 4) (ty := 46) rfl _ _ b4 46 #[.int .i64 x0, .int .i64 x1] (0, 0) _ rfl pf hu rfl (by kernel_rfl)) rfl ⟨rfl, ((HB.out.setCell (p := ⟨b4, 0, none⟩) G4.out (.int .i64 x0)).setCell (p := ⟨b4, 1, none⟩) G4.out (.int .i64 x1))⟩
set_option maxHeartbeats 1000000 in
theorem got_flight_ok (x0 : Int) (x1 : Int) (x2 : Int) (w : World) : Calls Tryz.prog 79 #[.agg #[.int .i64 x0, .int .i64 x1, .int .i64 x2], .int .i64 0] w fun e w' => e = .returned (.agg #[.int .i64 x0, .int .i64 x1, .int .i64 x2]) ∧ Below w.heap.size w w' := by
  have HB := Aside0.mk (Below.refl w.heap.size w)
  have hu := Tryz.underlying37
  go_enter Tryz.func79, Tryz.ntmps79
  go_wp2_with (first
    | ((with_reducible refine gate_dst (N := 2) rfl ?_); refine box_event ?hg (N := 2) ?hd (cs := #[.int .i64 x0, .int .i64 x1, .int .i64 x2]) (t := 37) ?hr ?_; (case hd => rfl); (case hg => rfl); (case hr => first | (go_simp; done) | (go_simp; rfl)); intro b2 hg w2 hbox hb; have BK2 := Aside0.mk hbox; obtain ⟨G2, nHB⟩ := geA hg hb; replace HB := nHB; clear nHB hb hbox hg)
    | ((with_reducible refine gate_dst (N := 4) rfl ?_); refine box_event ?hg (N := 4) ?hd (cs := #[.int .i64 0, .int .i64 0, .int .i64 0]) (t := 37) ?hr ?_; (case hd => rfl); (case hg => rfl); (case hr => first | (go_simp; done) | (go_simp; rfl)); intro b4 hg w4 hbox hb; have BK4 := Aside0.mk hbox; obtain ⟨G4, nHB⟩ := geA hg hb; obtain ⟨N24, N42, nBK⟩ := nbA BK2 hg hb; replace BK2 := nBK; replace HB := nHB; clear nBK nHB hb hbox hg; have n1 := N24.out; have n2 := N42.out; have z0 := czZ BK2 0 (.int .i64 x0); have z1 := czZ BK2 1 (.int .i64 x1); have z2 := czZ BK2 2 (.int .i64 x2); have y0 := czZ BK4 0 (.int .i64 0); have y1 := czZ BK4 1 (.int .i64 0); have y2 := czZ BK4 2 (.int .i64 0); have f0 := blk_frozen BK4.out 0; have f1 := blk_frozen BK4.out 1; have f2 := blk_frozen BK4.out 2)
    | (go_at_call 31; refine (must_ok _).mono ?_; rintro e w' ⟨rfl, rfl⟩)
    | fail)
  have pf := (blk_set (blk_set (blk_set BK4.out 0 (.int .i64 x0)) 1 (.int .i64 x1)) 2 (.int .i64 x2))
  refine bodyPost_ret (results_cell_row (fn := Tryz.f79) (p := 4) (ty := 37) rfl _ _ b4 37 #[.int .i64 x0, .int .i64 x1, .int .i64 x2] (0, 0) _ rfl pf hu rfl (by kernel_rfl)) rfl ⟨rfl, (((HB.out.setCell (p := ⟨b4, 0, none⟩) G4.out (.int .i64 x0)).setCell (p := ⟨b4, 1, none⟩) G4.out (.int .i64 x1)).setCell (p := ⟨b4, 2, none⟩) G4.out (.int .i64 x2))⟩
set_option maxHeartbeats 1000000 in
theorem got_rtt_ok (x0 : Bool) (x1 : Int) (x2 : Int) (w : World) : Calls Tryz.prog 133 #[.agg #[.bool x0, .int .i64 x1, .int .i64 x2], .int .i64 0] w fun e w' => e = .returned (.agg #[.bool x0, .int .i64 x1, .int .i64 x2]) ∧ Below w.heap.size w w' := by
  have HB := Aside0.mk (Below.refl w.heap.size w)
  have hu := Tryz.underlying39
  go_enter Tryz.func133, Tryz.ntmps133
  go_wp2_with (first
    | ((with_reducible refine gate_dst (N := 2) rfl ?_); refine box_event ?hg (N := 2) ?hd (cs := #[.bool x0, .int .i64 x1, .int .i64 x2]) (t := 39) ?hr ?_; (case hd => rfl); (case hg => rfl); (case hr => first | (go_simp; done) | (go_simp; rfl)); intro b2 hg w2 hbox hb; have BK2 := Aside0.mk hbox; obtain ⟨G2, nHB⟩ := geA hg hb; replace HB := nHB; clear nHB hb hbox hg)
    | ((with_reducible refine gate_dst (N := 4) rfl ?_); refine box_event ?hg (N := 4) ?hd (cs := #[.bool false, .int .i64 0, .int .i64 0]) (t := 39) ?hr ?_; (case hd => rfl); (case hg => rfl); (case hr => first | (go_simp; done) | (go_simp; rfl)); intro b4 hg w4 hbox hb; have BK4 := Aside0.mk hbox; obtain ⟨G4, nHB⟩ := geA hg hb; obtain ⟨N24, N42, nBK⟩ := nbA BK2 hg hb; replace BK2 := nBK; replace HB := nHB; clear nBK nHB hb hbox hg; have n1 := N24.out; have n2 := N42.out; have z0 := czZ BK2 0 (.bool x0); have z1 := czZ BK2 1 (.int .i64 x1); have z2 := czZ BK2 2 (.int .i64 x2); have y0 := czZ BK4 0 (.bool false); have y1 := czZ BK4 1 (.int .i64 0); have y2 := czZ BK4 2 (.int .i64 0); have f0 := blk_frozen BK4.out 0; have f1 := blk_frozen BK4.out 1; have f2 := blk_frozen BK4.out 2)
    | (go_at_call 31; refine (must_ok _).mono ?_; rintro e w' ⟨rfl, rfl⟩)
    | fail)
  have pf := (blk_set (blk_set (blk_set BK4.out 0 (.bool x0)) 1 (.int .i64 x1)) 2 (.int .i64 x2))
  refine bodyPost_ret (results_cell_row (fn := Tryz.f133) (p := 4) (ty := 39) rfl _ _ b4 39 #[.bool x0, .int .i64 x1, .int .i64 x2] (0, 0) _ rfl pf hu rfl (by kernel_rfl)) rfl ⟨rfl, (((HB.out.setCell (p := ⟨b4, 0, none⟩) G4.out (.bool x0)).setCell (p := ⟨b4, 1, none⟩) G4.out (.int .i64 x1)).setCell (p := ⟨b4, 2, none⟩) G4.out (.int .i64 x2))⟩
set_option maxHeartbeats 1000000 in
theorem got_hystart_ok (x0 : Int) (x1 : Int) (x2 : Int) (x3 : Bool) (x4 : Bool) (x5 : Int) (x6 : Int) (w : World) : Calls Tryz.prog 87 #[.agg #[.int .i64 x0, .int .i64 x1, .int .i64 x2, .bool x3, .bool x4, .int .i64 x5, .int .i64 x6], .int .i64 0] w fun e w' => e = .returned (.agg #[.int .i64 x0, .int .i64 x1, .int .i64 x2, .bool x3, .bool x4, .int .i64 x5, .int .i64 x6]) ∧ Below w.heap.size w w' := by
  have HB := Aside0.mk (Below.refl w.heap.size w)
  have hu := Tryz.underlying44
  go_enter Tryz.func87, Tryz.ntmps87
  go_wp2_with (first
    | ((with_reducible refine gate_dst (N := 2) rfl ?_); refine box_event ?hg (N := 2) ?hd (cs := #[.int .i64 x0, .int .i64 x1, .int .i64 x2, .bool x3, .bool x4, .int .i64 x5, .int .i64 x6]) (t := 44) ?hr ?_; (case hd => rfl); (case hg => rfl); (case hr => first | (go_simp; done) | (go_simp; rfl)); intro b2 hg w2 hbox hb; have BK2 := Aside0.mk hbox; obtain ⟨G2, nHB⟩ := geA hg hb; replace HB := nHB; clear nHB hb hbox hg)
    | ((with_reducible refine gate_dst (N := 4) rfl ?_); refine box_event ?hg (N := 4) ?hd (cs := #[.int .i64 0, .int .i64 0, .int .i64 0, .bool false, .bool false, .int .i64 0, .int .i64 0]) (t := 44) ?hr ?_; (case hd => rfl); (case hg => rfl); (case hr => first | (go_simp; done) | (go_simp; rfl)); intro b4 hg w4 hbox hb; have BK4 := Aside0.mk hbox; obtain ⟨G4, nHB⟩ := geA hg hb; obtain ⟨N24, N42, nBK⟩ := nbA BK2 hg hb; replace BK2 := nBK; replace HB := nHB; clear nBK nHB hb hbox hg; have n1 := N24.out; have n2 := N42.out; have z0 := czZ BK2 0 (.int .i64 x0); have z1 := czZ BK2 1 (.int .i64 x1); have z2 := czZ BK2 2 (.int .i64 x2); have z3 := czZ BK2 3 (.bool x3); have z4 := czZ BK2 4 (.bool x4); have z5 := czZ BK2 5 (.int .i64 x5); have z6 := czZ BK2 6 (.int .i64 x6); have y0 := czZ BK4 0 (.int .i64 0); have y1 := czZ BK4 1 (.int .i64 0); have y2 := czZ BK4 2 (.int .i64 0); have y3 := czZ BK4 3 (.bool false); have y4 := czZ BK4 4 (.bool false); have y5 := czZ BK4 5 (.int .i64 0); have y6 := czZ BK4 6 (.int .i64 0); have f0 := blk_frozen BK4.out 0; have f1 := blk_frozen BK4.out 1; have f2 := blk_frozen BK4.out 2; have f3 := blk_frozen BK4.out 3; have f4 := blk_frozen BK4.out 4; have f5 := blk_frozen BK4.out 5; have f6 := blk_frozen BK4.out 6)
    | (go_at_call 31; refine (must_ok _).mono ?_; rintro e w' ⟨rfl, rfl⟩)
    | fail)
  have pf := (blk_set (blk_set (blk_set (blk_set (blk_set (blk_set (blk_set BK4.out 0 (.int .i64 x0)) 1 (.int .i64 x1)) 2 (.int .i64 x2)) 3 (.bool x3)) 4 (.bool x4)) 5 (.int .i64 x5)) 6 (.int .i64 x6))
  refine bodyPost_ret (results_cell_row (fn := Tryz.f87) (p := 4) (ty := 44) rfl _ _ b4 44 #[.int .i64 x0, .int .i64 x1, .int .i64 x2, .bool x3, .bool x4, .int .i64 x5, .int .i64 x6] (0, 0) _ rfl pf hu rfl (by kernel_rfl)) rfl ⟨rfl, (((((((HB.out.setCell (p := ⟨b4, 0, none⟩) G4.out (.int .i64 x0)).setCell (p := ⟨b4, 1, none⟩) G4.out (.int .i64 x1)).setCell (p := ⟨b4, 2, none⟩) G4.out (.int .i64 x2)).setCell (p := ⟨b4, 3, none⟩) G4.out (.bool x3)).setCell (p := ⟨b4, 4, none⟩) G4.out (.bool x4)).setCell (p := ⟨b4, 5, none⟩) G4.out (.int .i64 x5)).setCell (p := ⟨b4, 6, none⟩) G4.out (.int .i64 x6))⟩

end Go.Proofs.YtfahbgkoldoflaaGreatDoor.Px
