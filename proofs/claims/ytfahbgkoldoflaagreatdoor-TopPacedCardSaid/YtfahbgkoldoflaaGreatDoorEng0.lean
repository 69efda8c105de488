/- Words for walks with boxes of one's own. Conditions: none beside the theorems' own. -/
import Derived.Test.YtfahbgkoldoflaaGreatDoorVMore
import Derived.Test.YtfahbgkoldoflaaGreatDoorPx0
import Derived.Test.YtfahbgkoldoflaaGreatDoorPx1
import Derived.Test.YtfahbgkoldoflaaGreatDoorPx2
import Derived.WalkSmall
import Derived.Great.BuildSlice
import Derived.Laws.Tables
import Derived.Deep.RegionHeld3
import Derived.Deep.QuietTactic
import Derived.BigQuiet
import Derived.MapKept
import Derived.LoopN
import Derived.WalkMore
import Derived.Defers
import Derived.Recover
import Derived.Deep.CutBlock
namespace Go.Proofs.YtfahbgkoldoflaaGreatDoor.Px
open Go.RowKit Go.Proofs.YtfahbgkoldoflaaGreatDoorW.PrintWords Go.Proofs.YtfahbgkoldoflaaGreatDoorW.PrintLast Go.Proofs.YtfahbgkoldoflaaGreatDoorW.PrintMore
attribute [local go_sem] max2_int min2_int max_two min_two max_three min_three max_four min_four
set_option linter.unusedVariables false
set_option linter.unusedSimpArgs false
/-- What has turned is block g alone, and what is new. -/
structure Wr (g : Nat) (w w' : World) : Prop where
  os : w'.os = w.os
  tape : w'.tape = w.tape
  output : w'.output = w.output
  size : w.heap.size ≤ w'.heap.size
  block : ∀ k, k < w.heap.size → k ≠ g → w'.heap[k]? = w.heap[k]?
theorem Wr.refl (g : Nat) (w : World) : Wr g w w := ⟨rfl, rfl, rfl, Nat.le_refl _, fun _ _ _ => rfl⟩
theorem Wr.of_below {g : Nat} {w w' : World} (h : Below w.heap.size w w') : Wr g w w' := ⟨h.os, h.tape, h.output, h.size, fun k hk _ => h.block k hk⟩
theorem Wr.trans {g : Nat} {a b c : World} (h : Wr g a b) (k : Wr g b c) : Wr g a c := ⟨k.os.trans h.os, k.tape.trans h.tape, k.output.trans h.output, Nat.le_trans h.size k.size, fun i hi hg => (k.block i (Nat.lt_of_lt_of_le hi h.size) hg).trans (h.block i hi hg)⟩
theorem Wr.below {g : Nat} {a b c : World} (h : Wr g a b) (k : Below b.heap.size b c) : Wr g a c := h.trans (Wr.of_below k)
theorem Wr.drewN {g : Nat} {a b : World} (h : Wr g a b) (n : Nat) : Wr g a (b.drewN n) := ⟨h.os, h.tape, h.output, h.size, h.block⟩
theorem Wr.set {g : Nat} {a b : World} (h : Wr g a b) (i : Nat) (v : Value) : Wr g a (b.setCell ⟨g, i, none⟩ v) := by
  have q := (Below.refl g b).setCell (p := ⟨g, i, none⟩) (Nat.le_refl _) v
  exact h.trans ⟨q.os, q.tape, q.output, q.size, fun k _ hk => Below.heap_setCell b _ v k hk⟩
theorem Wr.to_below {g B : Nat} {w0 a b : World} (h : Wr g a b) (hb : Below B w0 a) (hg : B ≤ g) (hB : B ≤ a.heap.size) : Below B w0 b :=
  ⟨h.os.trans hb.os, h.tape.trans hb.tape, h.output.trans hb.output, Nat.le_trans hb.size h.size, fun k hk => (h.block k (Nat.lt_of_lt_of_le hk hB) (by omega)).trans (hb.block k hk)⟩
theorem Wr.blk {g k : Nat} {a b : World} {o : Obj} (h : Wr g a b) (hk : a.heap[k]? = some o) (hn : k ≠ g) : b.heap[k]? = some o := (h.block k (blk_lt hk) hn).trans hk
theorem val_step {P : Program} {ops : Array Oper} {Q : Exit → Act → World → Prop} {oi : Oper} {N : Option Tmp} {a : Act} {w w1 : World} {v : Value} {K : Act → World → Prop} (hw : Region.wanted oi (yielded ops a.tmps) = true) (hN : oi.dst = N) (hrun : (execOp a.eval oi).run P w = .ok (.value v) w1)
    (h : K (a.put N v) w1) : if Region.wanted oi (yielded ops a.tmps) = true then Oper.wp P oi a w K Q else K (a.put N undef) w := by
  subst hN
  rw [if_pos hw]
  unfold Oper.wp
  rw [hrun]
  exact h
section
variable {P : Program} {ops : Array Oper} {rest : List Oper} {o : Oper} {a : Act} {W : World} {Q : Exit → Act → World → Prop}
/-- A new variable, whole. -/
theorem new_var (hg : o.guard = none) (t : TypeId) (hop : o.op = .alloc t) (d : Option Tmp) (hd : o.dst = d) (cs : Array Value) (hrun : (Instr.alloc t true (.tuple #[])).run P W = .ok (.pointer (some ⟨W.heap.size, 0, none⟩)) (W.alloc (.cells cs t)))
    (h : ∀ g, g = W.heap.size → ∀ w1, w1.heap[g]? = some (.cells cs t (0, 0)) → Below W.heap.size W w1 → wpList P ops Q rest (a.put d (.pointer (some ⟨g, 0, none⟩))) w1) : wpList P ops Q (o :: rest) a W := by
  subst hd
  refine wpList_plain hg fun K hK => ?_
  unfold Oper.wp
  simp only [execOp, hop, hrun, Sem.run_bind, Sem.run_pure, Result.andThen, Oper.upon]
  exact hK _ _ (h _ rfl _ (blk_new W _) (below_alloc (Below.refl _ _) _))
/-- An argument's box, whole. -/
theorem new_box (hg : o.guard = none) (t : TypeId) (x : Operand) (hop : o.op = .box t x) (d : Option Tmp) (hd : o.dst = d) (cs : Array Value) (hx : a.eval x = .agg cs) (hrun : (Instr.box t (.agg cs)).run P W = .ok (.pointer (some ⟨W.heap.size, 0, none⟩)) (W.alloc (.cells cs t)))
    (h : ∀ g, g = W.heap.size → ∀ w1, w1.heap[g]? = some (.cells cs t (0, 0)) → Below W.heap.size W w1 → wpList P ops Q rest (a.put d (.pointer (some ⟨g, 0, none⟩))) w1) : wpList P ops Q (o :: rest) a W := by
  subst hd
  refine wpList_plain hg fun K hK => ?_
  unfold Oper.wp
  simp only [execOp, hop, hx, hrun, Sem.run_bind, Sem.run_pure, Result.andThen, Oper.upon]
  exact hK _ _ (h _ rfl _ (blk_new W _) (below_alloc (Below.refl _ _) _))
/-- A whole row is stored. -/
theorem put_row (hg : o.guard = none) (t : TypeId) (x y : Operand) (hop : o.op = .store t x y) (hd : o.dst = none) (g : Nat) (cs : Array Value) (hx : a.eval x = .pointer (some ⟨g, 0, none⟩)) (hy : a.eval y = .agg cs) (t' : TypeId) (old : Array Value) (hb : W.heap[g]? = some (.cells old t' (0, 0)))
    (hi : (P.info? t).map (·.size) = some cs.size) (ho : old.size = cs.size) (h1 : cs.all (·.oneCell') = true)
    (h : ∀ w1, w1.heap[g]? = some (.cells cs t' (0, 0)) → Wr g W w1 → wpList P ops Q rest a w1) : wpList P ops Q (o :: rest) a W :=
  wpList_store_rowTo hg t x y hop hd g cs hx hy t' old hb hi ho h1 (h _ (setRow_heap W g old cs t' (0, 0) hb) ⟨rfl, rfl, rfl, by simp, fun k _ hk => setRow_other W g k cs hk⟩)
end
section
/-! ### Maps of whole numbers that a function makes for itself: each 'insert' adds an entry behind; a lookup finds it -/
section
open Go.MapKept
def putMap (w : World) (r : Nat) (ob : Obj) : World := { w with heap := w.heap.setIfInBounds r ob }
variable {P : Program} {ops : Array Oper} {rest : List Oper} {o : Oper} {a : Act} {W : World} {Q : Exit → Act → World → Prop}
theorem map_made (hg : o.guard = none) (t : TypeId) (hop : o.op = .makeMap t none)
    (h : ∀ r, r = W.heap.size → ∀ w1, w1.heap[r]? = some (.map #[] 0) → Below W.heap.size W w1 → wpList P ops Q rest (a.put o.dst (.map (some r))) w1) : wpList P ops Q (o :: rest) a W := by
  refine wpList_plain hg fun K hK => ?_
  unfold Oper.wp
  simp only [execOp, hop, Option.map, Instr.makeMap, Sem.run_bind, Sem.run_pure, Result.andThen]
  exact hK _ _ (h _ rfl _ (blk_new W _) (below_alloc (Below.refl _ _) _))
theorem run_entry {t kt et : TypeId} {r n : Nat} {es : Array MapEntry} {k : Int} {v : Value} (ht : P.underlying t = some (.map kt et)) (hk : P.underlying kt = some (.int .i64)) (hr : W.heap[r]? = some (.map es n)) (hn : Instr.findNow (.int .i64) (.int .i64 k) es.toList 0 = some none) :
    (Instr.mapUpdate t (.map (some r)) (.int .i64 k) v).run P W = .ok () (putMap W r (.map (es.push { key := .int .i64 k, val := v, born := n }) (n + 1))) := by
  simp [Instr.mapUpdate, run_underlying ht, MapKept.run_getObj_map hr, MapKept.run_checkKey hk (k := .int .i64 k) rfl, MapKept.run_findKey hk hn, MapKept.run_setObj_map _ hr, Result.andThen, putMap]
theorem wr_putObj {g : Nat} {es : Array MapEntry} {n : Nat} (w : World) (ob : Obj) : Wr g w (putMap w g ob) :=
  ⟨rfl, rfl, rfl, by simp [putMap], fun k hk hne => by simp [putMap, Ne.symm hne]⟩
theorem map_entry (hg : o.guard = none) (t kt et : TypeId) (m x y : Operand) (hop : o.op = .insert t m x y) (hd : o.dst = none) (ht : P.underlying t = some (.map kt et)) (hk : P.underlying kt = some (.int .i64))
    (r n : Nat) (es : Array MapEntry) (k : Int) (hm : a.eval m = .map (some r)) (hx : a.eval x = .int .i64 k) (hr : W.heap[r]? = some (.map es n)) (hn : Instr.findNow (.int .i64) (.int .i64 k) es.toList 0 = some none)
    (h : ∀ w1, w1.heap[r]? = some (.map (es.push { key := .int .i64 k, val := a.eval y, born := n }) (n + 1)) → Wr r W w1 → wpList P ops Q rest a w1) : wpList P ops Q (o :: rest) a W := by
  refine wpList_plain hg fun K hK => ?_
  unfold Oper.wp
  simp only [execOp, hop, hm, hx, run_entry ht hk hr hn, Sem.run_bind, Sem.run_pure, Result.andThen]
  have q := hK a _ (h _ (heap_set hr).1 (wr_putObj (es := es) (n := n) W _))
  simp only [Oper.upon]
  rw [hd]
  exact q
theorem run_found {t kt et : TypeId} {r n i : Nat} {es : Array MapEntry} {k : Int} {v : Value} {ok : Bool} (ht : P.underlying t = some (.map kt et)) (hk : P.underlying kt = some (.int .i64)) (hr : W.heap[r]? = some (.map es n)) (hn : Instr.findNow (.int .i64) (.int .i64 k) es.toList 0 = some (some (i, v))) :
    (Instr.lookup t (.map (some r)) (.int .i64 k) ok).run P W = .ok (if ok = true then .tuple #[v, .bool true] else v) W := by
  cases ok <;> simp [Instr.lookup, run_underlying ht, MapKept.run_getObj_map hr, MapKept.run_checkKey hk (k := .int .i64 k) rfl, MapKept.run_findKey hk hn, Result.andThen]
end
end
section
variable {ops : Array Oper} {Q : Exit → Act → World → Prop} {ds : List Nat} {fuel : Nat} {l : Array Bool} {a a' : Act} {W : World} {S : World → Prop}
theorem ev_tmp {x : Tmp} {v : Value} (hx : a.tmps.getD x undef = v) : a.eval (.tmp x) = v := by simpa [Act.eval] using hx
theorem y_load {o : Oper} {x : Operand} {t : TypeId} {p v : Value} (hop : o.op = .load t x) (hx : a.eval x = p) {W : World} (hk : (Instr.loadAt t p).run Tryz.prog W = .ok v W) : (execOp a.eval o).run Tryz.prog W = .ok (.value v) W := by simp [execOp, hop, hx, hk]
end
theorem results_row_tmp {fn : Func} {p q : Tmp} {ty : TypeId} {tmps : Array Value} {W : World} {o : Value} (hf : fn.results = #[.cell p ty, .tmp q]) (g : Nat) (t : TypeId) (cs : Array Value) (fs : Array Field) (h6 : tmps.getD p undef = .pointer (some ⟨g, 0, none⟩)) (h7 : tmps.getD q undef = o) (hg : W.heap[g]? = some (.cells cs t (0, 0)))
    (hu : Tryz.prog.underlying ty = some (.struct fs)) (hi : (Tryz.prog.info? ty).map (·.size) = some cs.size) : (results fn tmps).run Tryz.prog W = .ok (.tuple #[.agg cs, o]) W := by
  have h6' : tmps[p]?.getD undef = .pointer (some ⟨g, 0, none⟩) := by simpa using h6
  have h7' : tmps[q]?.getD undef = o := by simpa using h7
  simp [results, hf, h6', h7', asAddr, run_loadVar_row W g t ty cs (0, 0) (.struct fs) hg hu rfl hi]
/-- Boxes of one's own: they lie apart from each other, and from all that was. -/
structure Bx (w0 : World) (L : List (Nat × Obj)) (W : World) : Prop where
  lo : Below w0.heap.size w0 W
  ge : ∀ p ∈ L, w0.heap.size ≤ p.1
  at_ : ∀ p ∈ L, W.heap[p.1]? = some p.2
  nd : (L.map (·.1)).Nodup
section
variable {w0 W W' : World} {L L' : List (Nat × Obj)} {b : Nat} {ob ob' : Obj}
theorem Bx.start (w : World) : Bx w [] w := ⟨Below.refl _ _, by simp, by simp, by simp⟩
theorem Bx.below (h : Bx w0 L W) (hb : Below W.heap.size W W') : Bx w0 L W' := ⟨below_step h.lo hb, h.ge, fun p hp => blk_below (h.at_ p hp) hb, h.nd⟩
theorem Bx.drewN (h : Bx w0 L W) (n : Nat) : Bx w0 L (W.drewN n) := h.below (pw_below_drewN (Below.refl _ _) n)
theorem Bx.get (h : Bx w0 L W) (i : Nat) (hi : L[i]? = some (b, ob)) : W.heap[b]? = some ob := h.at_ _ (List.mem_of_getElem? hi)
theorem Bx.new (h : Bx w0 L W) (hg : b = W.heap.size) (hbox : W'.heap[b]? = some ob) (hb : Below W.heap.size W W') : Bx w0 (L ++ [(b, ob)]) W' := by
  refine ⟨below_step h.lo hb, fun p hp => ?_, fun p hp => ?_, ?_⟩
  · rcases List.mem_append.1 hp with hp | hp
    · exact h.ge p hp
    · obtain rfl := List.mem_singleton.1 hp
      show w0.heap.size ≤ b
      rw [hg]; exact h.lo.size
  · rcases List.mem_append.1 hp with hp | hp
    · exact blk_below (h.at_ p hp) hb
    · obtain rfl := List.mem_singleton.1 hp
      exact hbox
  · rw [List.map_append, List.nodup_append]
    refine ⟨h.nd, by simp, fun x hx y hy => ?_⟩
    obtain ⟨p, hp, rfl⟩ := List.mem_map.1 hx
    have hy' : y = b := by simpa using hy
    have := blk_lt (h.at_ p hp)
    omega
theorem Bx.turn (h : Bx w0 L W) (i : Nat) (hi : L[i]? = some (b, ob)) (hw : Wr b W W') (hn : W'.heap[b]? = some ob') : Bx w0 (L.set i (b, ob')) W' := by
  have hl : i < L.length := (List.getElem?_eq_some_iff.1 hi).1
  have hx : L[i] = (b, ob) := (List.getElem?_eq_some_iff.1 hi).2
  have hm : (b, ob) ∈ L := List.mem_of_getElem? hi
  have e : (L.set i (b, ob')).map (·.1) = L.map (·.1) := by
    apply List.ext_getElem (by simp)
    intro j h1 h2
    simp only [List.getElem_map, List.getElem_set]
    split
    · next q => subst q; rw [hx]
    · rfl
  have ne : ∀ j (hj : j < L.length), j ≠ i → (L[j]).1 ≠ b := fun j hj hji q => by
    have hq : (L.map (·.1))[j]'(by simpa using hj) = (L.map (·.1))[i]'(by simpa using hl) := by simp [hx, q]
    exact hji ((List.getElem_inj h.nd).1 hq)
  refine ⟨hw.to_below h.lo (h.ge _ hm) h.lo.size, fun p hp => ?_, fun p hp => ?_, e ▸ h.nd⟩
  · rcases List.mem_or_eq_of_mem_set hp with hp | rfl
    · exact h.ge p hp
    · exact h.ge (b, ob) hm
  · obtain ⟨j, hj, rfl⟩ := List.mem_iff_getElem.1 hp
    simp only [List.getElem_set]
    split
    · exact hn
    · next q =>
      have hj' : j < L.length := by simpa using hj
      exact hw.blk (h.at_ _ (List.getElem_mem hj')) (ne j hj' (fun z => q z.symm))
end
section
variable {ops : Array Oper} {rest : List Oper} {Q : Exit → Act → World → Prop} {a : Act} {W w0 : World} {L : List (Nat × Obj)} {o : Oper} {v : Value} {b : Nat} {t t' : TypeId} {cs : Array Value}
/-- What is read, what is written: a whole number, a bool. -/
def Ld1 (t : TypeId) (v : Value) : Prop := ∀ (W : World) (p : Addr), W.cell? p = some v → (Instr.loadAt t (.pointer (some p))).run Tryz.prog W = .ok v W
def Sd1 (t : TypeId) (v : Value) : Prop := ∀ (W : World) (p : Addr) (u : Value), W.cell? p = some u → W.frozen? p = false → (Instr.storeAt t (.pointer (some p)) v).run Tryz.prog W = .ok () (W.setCell p v)
theorem l3 {n : Int} : Ld1 3 (.int .i64 n) := fun W p z => by go_simp
theorem l4 {n : Bool} : Ld1 4 (.bool n) := fun W p z => by go_simp
theorem s3 {n : Int} : Sd1 3 (.int .i64 n) := fun W p u z f => by go_simp
theorem s4 {n : Bool} : Sd1 4 (.bool n) := fun W p u z f => by go_simp
/-- A box, a variable. -/
theorem bxB (n : Tmp) (t : TypeId) (x : Operand) {cs : Array Value} {F : Nat → List (Nat × Obj)} (H : Aside0 (Bx w0 L W))
    (h : ∀ b W', Aside0 (Bx w0 (F b) W') → wpList Tryz.prog ops Q rest (a.put (some n) (.pointer (some ⟨b, 0, none⟩))) W') (hop : o.op = .box t x := by rfl) (hg : o.guard = none := by rfl) (hd : o.dst = some n := by rfl) (hx : a.eval x = .agg cs := by rfl)
    (hrun : ∀ W, (Instr.box t (.agg cs)).run Tryz.prog W = .ok (.pointer (some ⟨W.heap.size, 0, none⟩)) (W.alloc (.cells cs t)) := by intro _; kernel_rfl) (hs : ∀ b, L ++ [(b, .cells cs t (0, 0))] = F b := by intro b; simp only [List.nil_append, List.cons_append]; rfl) : wpList Tryz.prog ops Q (o :: rest) a W :=
  new_box hg t x hop (some n) hd cs hx (hrun W) fun g e w1 h1 h2 => h g w1 ⟨hs g ▸ H.out.new e h1 h2⟩
theorem bxV (n : Tmp) (t : TypeId) (cs : Array Value) {F : Nat → List (Nat × Obj)} (H : Aside0 (Bx w0 L W)) (hrun : ∀ W, (Instr.alloc t true (.tuple #[])).run Tryz.prog W = .ok (.pointer (some ⟨W.heap.size, 0, none⟩)) (W.alloc (.cells cs t)))
    (h : ∀ b W', Aside0 (Bx w0 (F b) W') → wpList Tryz.prog ops Q rest (a.put (some n) (.pointer (some ⟨b, 0, none⟩))) W') (hop : o.op = .alloc t := by rfl) (hg : o.guard = none := by rfl) (hd : o.dst = some n := by rfl) (hs : ∀ b, L ++ [(b, .cells cs t (0, 0))] = F b := by intro b; simp only [List.nil_append, List.cons_append]; rfl) : wpList Tryz.prog ops Q (o :: rest) a W :=
  new_var hg t hop (some n) hd cs (hrun W) fun g e w1 h1 h2 => h g w1 ⟨hs g ▸ H.out.new e h1 h2⟩
/-- A field of box i is read, is written. -/
theorem bxL (x n : Tmp) (i c : Nat) (hL : Ld1 t v) (H : Aside0 (Bx w0 L W)) (h : wpList Tryz.prog ops Q rest (a.put (some n) v) W) (hop : o.op = .load t (.tmp x) := by rfl) (hd : o.dst = some n := by rfl) (hw : Region.wanted o (yielded ops a.tmps) = true := by first | rfl | (simp [Region.wanted, yielded, *]; done) | fail) (hi : L[i]? = some (b, .cells cs t' (0, 0)) := by rfl) (hc : cs[c]? = some v := by rfl)
    (hx : a.tmps.getD x undef = .pointer (some ⟨b, c, none⟩) := by kernel_rfl) : wpList Tryz.prog ops Q (o :: rest) a W := by
  refine wpList_step fun K hK => ?_
  rw [if_pos hw]
  unfold Oper.wp
  rw [y_load hop (ev_tmp hx) (hL W _ ((blk_cell (H.out.get i hi) c).trans hc)), Oper.upon_value, hd]
  exact hK _ _ h
theorem bxS1 (x : Tmp) (y : Operand) (i c : Nat) {u : Value} {L' : List (Nat × Obj)} (hL : Sd1 t v) (H : Aside0 (Bx w0 L W)) (h : ∀ W', Aside0 (Wr b W W') → Aside0 (Bx w0 L' W') → wpList Tryz.prog ops Q rest a W') (hi : L[i]? = some (b, .cells cs t' (0, 0)) := by rfl) (hc : cs[c]? = some u := by rfl)
    (hop : o.op = .store t (.tmp x) y := by rfl) (hg : o.guard = none := by rfl) (hd : o.dst = none := by rfl)
    (hx : a.tmps.getD x undef = .pointer (some ⟨b, c, none⟩) := by kernel_rfl) (hy : a.eval y = v := by rfl) (hs : L.set i (b, .cells (cs.setIfInBounds c v) t' (0, 0)) = L' := by simp only [List.set, sA, sB, sC]; rfl) : wpList Tryz.prog ops Q (o :: rest) a W := by
  subst hs
  refine wpList_plain hg fun K hK => ?_
  have hb := H.out.get i hi
  have hr : (execOp a.eval o).run Tryz.prog W = .ok .skip (W.setCell ⟨b, c, none⟩ v) := by simp [execOp, hop, ev_tmp hx, hy, hL W _ u ((blk_cell hb c).trans hc) (blk_frozen hb c)]
  unfold Oper.wp
  rw [hr, Oper.upon_skip, hd]
  exact hK _ _ (h _ ⟨(Wr.refl b W).set c v⟩ ⟨H.out.turn i hi ((Wr.refl b W).set c v) (blk_set hb c v)⟩)
theorem bxS (x : Tmp) (y : Operand) (i c : Nat) {u : Value} {L' : List (Nat × Obj)} (hL : Sd1 t v) (H : Aside0 (Bx w0 L W)) (h : ∀ W', Aside0 (Bx w0 L' W') → wpList Tryz.prog ops Q rest a W') (hi : L[i]? = some (b, .cells cs t' (0, 0)) := by rfl) (hc : cs[c]? = some u := by rfl)
    (hop : o.op = .store t (.tmp x) y := by rfl) (hg : o.guard = none := by rfl) (hd : o.dst = none := by rfl)
    (hx : a.tmps.getD x undef = .pointer (some ⟨b, c, none⟩) := by kernel_rfl) (hy : a.eval y = v := by rfl) (hs : L.set i (b, .cells (cs.setIfInBounds c v) t' (0, 0)) = L' := by simp only [List.set, sA, sB, sC]; rfl) : wpList Tryz.prog ops Q (o :: rest) a W :=
  bxS1 x y i c hL H (fun W' _ => h W') hi hc hop hg hd hx hy hs
/-- Box i is read, is written, whole. -/
theorem bxR (t : TypeId) (x n : Tmp) (i : Nat) {fs : Array Field} (hu : Tryz.prog.underlying t = some (.struct fs)) (H : Aside0 (Bx w0 L W)) (h : wpList Tryz.prog ops Q rest (a.put (some n) (.agg cs)) W) (hi : L[i]? = some (b, .cells cs t' (0, 0)) := by rfl) (hz : (Tryz.prog.info? t).map (·.size) = some cs.size := by kernel_rfl)
    (hop : o.op = .load t (.tmp x) := by rfl) (hg : o.guard = none := by rfl) (hd : o.dst = some n := by rfl) (hx : a.tmps.getD x undef = .pointer (some ⟨b, 0, none⟩) := by kernel_rfl) : wpList Tryz.prog ops Q (o :: rest) a W := by
  refine wpList_load_row hg t (.tmp x) hop b (ev_tmp hx) t' cs (0, 0) _ (H.out.get i hi) hu rfl hz ?_
  rw [hd]; exact h
theorem bxP1 (t : TypeId) (x y : Tmp) (i : Nat) {cs' : Array Value} {L' : List (Nat × Obj)} (H : Aside0 (Bx w0 L W)) (h : ∀ W', Aside0 (Wr b W W') → Aside0 (Bx w0 L' W') → wpList Tryz.prog ops Q rest a W') (hi : L[i]? = some (b, .cells cs t' (0, 0)) := by rfl)
    (hy : a.tmps.getD y undef = .agg cs' := by rfl) (hz : (Tryz.prog.info? t).map (·.size) = some cs'.size := by kernel_rfl) (ho : cs.size = cs'.size := by rfl) (h1 : cs'.all (·.oneCell') = true := by kernel_rfl)
    (hop : o.op = .store t (.tmp x) (.tmp y) := by rfl) (hg : o.guard = none := by rfl) (hd : o.dst = none := by rfl) (hx : a.tmps.getD x undef = .pointer (some ⟨b, 0, none⟩) := by kernel_rfl)
    (hs : L.set i (b, .cells cs' t' (0, 0)) = L' := by simp only [List.set]; rfl) : wpList Tryz.prog ops Q (o :: rest) a W := by
  subst hs
  exact put_row hg t (.tmp x) (.tmp y) hop hd b cs' (ev_tmp hx) (ev_tmp hy) t' cs (H.out.get i hi) hz ho h1 fun w1 h1 h2 => h w1 ⟨h2⟩ ⟨H.out.turn i hi h2 h1⟩
theorem bxP (t : TypeId) (x y : Tmp) (i : Nat) {cs' : Array Value} {L' : List (Nat × Obj)} (H : Aside0 (Bx w0 L W)) (h : ∀ W', Aside0 (Bx w0 L' W') → wpList Tryz.prog ops Q rest a W') (hi : L[i]? = some (b, .cells cs t' (0, 0)) := by rfl)
    (hy : a.tmps.getD y undef = .agg cs' := by rfl) (hz : (Tryz.prog.info? t).map (·.size) = some cs'.size := by kernel_rfl) (ho : cs.size = cs'.size := by rfl) (h1 : cs'.all (·.oneCell') = true := by kernel_rfl)
    (hop : o.op = .store t (.tmp x) (.tmp y) := by rfl) (hg : o.guard = none := by rfl) (hd : o.dst = none := by rfl) (hx : a.tmps.getD x undef = .pointer (some ⟨b, 0, none⟩) := by kernel_rfl)
    (hs : L.set i (b, .cells cs' t' (0, 0)) = L' := by simp only [List.set]; rfl) : wpList Tryz.prog ops Q (o :: rest) a W :=
  bxP1 t x y i H (fun W' _ => h W') hi hy hz ho h1 hop hg hd hx hs
end
theorem Bx.z {w0 W : World} {L : List (Nat × Obj)} (h : Bx w0 L W) (i c : Nat) (v : Value) {b : Nat} {t : TypeId} {cs : Array Value} (hi : L[i]? = some (b, .cells cs t (0, 0)) := by rfl) (hc : cs[c]? = some v := by rfl) : W.cell? ⟨b, c, none⟩ = some v := (blk_cell (h.get i hi) c).trans hc
section
variable {ops : Array Oper} {Q : Exit → Act → World → Prop} {ds : List Nat} {fuel : Nat} {l : Array Bool} {a a' : Act} {W w0 : World} {L : List (Nat × Obj)} {oi : Oper} {v : Value} {t t' : TypeId} {x y : Tmp} {b : Nat} {cs : Array Value} {S : World → Prop}
/-- The same, for boxes of one's own. -/
theorem rgB {id n : Nat} (l : Array Bool) (ds : List Nat) (H : Aside0 (Bx w0 L W)) (h : ∀ W, Aside0 (Bx w0 L W) → wpAnyLast Tryz.prog .any ops Q (Bx w0 L) ds n l a W) (hm : Tryz.prog.follows .mixedOrders = true := by kernel_rfl) (hn : ops.size = n := by rfl)
    (hl : Array.replicate n false = l := by rfl) : (Code.region id ops true).wp Tryz.prog Q a W := start_ l hm hn hl (H.out.below (below_drew1 (Below.refl _ _))) fun hS => h _ ⟨hS⟩
theorem pG (i : Nat) (N : Option Tmp) (l' : Array Bool) (h : wpAnyLast Tryz.prog .any ops Q S ds fuel l' a' W) (hi : ops[i]? = some oi := by rfl) (hN : oi.dst = N := by rfl) (hc : anyB .any ops l l' i = true := by kernel_rfl)
    (hy : Yields Tryz.prog ops oi v a := by refine Or.inl ⟨by rfl, ?_⟩; intro w'; go_simp; first | done | with_reducible rfl) (hQ : ∀ c a w, Q (.panic c) (a.put oi.dst v) w → Q (.panic c) a w := by exact fun _ _ _ h => h) (ha : a.put N v = a' := by simp only [Act.put, sA, sB, sC, i64_w, i32_w]; rfl) :
    wpAnyLast Tryz.prog .any ops Q S ds (fuel + 1) l a W := pure_ l' hi hN hc hQ hy ha h
/-- What a guard leaves out. -/
theorem uG (i : Nat) (N : Option Tmp) (l' : Array Bool) (h : wpAnyLast Tryz.prog .any ops Q S ds fuel l' a' W) (hi : ops[i]? = some oi := by rfl) (hN : oi.dst = N := by rfl) (hc : anyB .any ops l l' i = true := by kernel_rfl)
    (hy : Yields Tryz.prog ops oi undef a := by exact .inr ⟨by rfl, rfl⟩) (hQ : ∀ c a w, Q (.panic c) (a.put oi.dst undef) w → Q (.panic c) a w := by exact fun _ _ _ h => h) (ha : a.put N undef = a' := by simp only [Act.put, sA, sB, sC]; rfl) :
    wpAnyLast Tryz.prog .any ops Q S ds (fuel + 1) l a W := pure_ l' hi hN hc hQ hy ha h
theorem lB (i : Nat) (N : Option Tmp) (l' : Array Bool) (j c : Nat) (hL : Ld1 t v) (H : Aside0 (Bx w0 L W)) (h : wpAnyLast Tryz.prog .any ops Q (Bx w0 L) ds fuel l' a' W) (hi : ops[i]? = some oi := by rfl) (hN : oi.dst = N := by rfl) (hop : oi.op = .load t (.tmp x) := by rfl)
    (hj : L[j]? = some (b, .cells cs t' (0, 0)) := by rfl) (hc1 : cs[c]? = some v := by rfl) (hx : a.tmps.getD x undef = .pointer (some ⟨b, c, none⟩) := by kernel_rfl) (hw : Region.wanted oi (yielded ops a.tmps) = true := by rfl) (hc : takeB .any ops ds l l' i = true := by kernel_rfl)
    (hQ : ∀ c a w, Q (.panic c) (a.put oi.dst v) w → Q (.panic c) a w := by exact fun _ _ _ h => h) (ha : a.put N v = a' := by simp only [Act.put, sA, sB, sC, i64_w, i32_w]; rfl) : wpAnyLast Tryz.prog .any ops Q (Bx w0 L) ds (fuel + 1) l a W :=
  take_ l' hi hN hc hQ (.inl ⟨hw, fun w hS => y_load hop (ev_tmp hx) (hL w _ ((blk_cell (hS.get j hj) c).trans hc1))⟩) H.out ha h
theorem rB (i : Nat) (N : Option Tmp) (l' : Array Bool) (j : Nat) {fs : Array Field} (hu : Tryz.prog.underlying t = some (.struct fs)) (H : Aside0 (Bx w0 L W)) (h : wpAnyLast Tryz.prog .any ops Q (Bx w0 L) ds fuel l' a' W) (hi : ops[i]? = some oi := by rfl) (hN : oi.dst = N := by rfl) (hop : oi.op = .load t (.tmp x) := by rfl)
    (hj : L[j]? = some (b, .cells cs t' (0, 0)) := by rfl) (hz : (Tryz.prog.info? t).map (·.size) = some cs.size := by kernel_rfl) (hx : a.tmps.getD x undef = .pointer (some ⟨b, 0, none⟩) := by kernel_rfl) (hw : Region.wanted oi (yielded ops a.tmps) = true := by rfl) (hc : takeB .any ops ds l l' i = true := by kernel_rfl)
    (hQ : ∀ c a w, Q (.panic c) (a.put oi.dst (.agg cs)) w → Q (.panic c) a w := by exact fun _ _ _ h => h) (ha : a.put N (.agg cs) = a' := by simp only [Act.put, sA, sB, sC, i64_w, i32_w]; rfl) : wpAnyLast Tryz.prog .any ops Q (Bx w0 L) ds (fuel + 1) l a W :=
  take_ l' hi hN hc hQ (.inl ⟨hw, fun w hS => y_load hop (ev_tmp hx) (by simp [Instr.loadAt, Instr.sureAddr, Sem.run_bind, Sem.run_pure, Result.andThen, run_loadVar_row w b t' t cs (0, 0) _ (hS.get j hj) hu rfl hz])⟩) H.out ha h
theorem cB (i : Nat) (N : Option Tmp) (l' : Array Bool) {f : FuncId} {fn : Func} {args : Array Value} {xs : Array Operand} {ts : Array TypeId} (hf : Tryz.prog.funcs[f]? = some fn) (H : Aside0 (Bx w0 L W)) (hC : Calls Tryz.prog f args W fun e W' => e = .returned v ∧ Below W.heap.size W W')
    (h : ∀ W', Aside0 (Bx w0 L W') → wpAnyLast Tryz.prog .any ops Q (Bx w0 L) ds fuel l' a' W') (hi : ops[i]? = some oi := by rfl) (hN : oi.dst = N := by rfl) (hop : oi.op = .call { callee := .value (.func f), args := xs, argTypes := ts } := by rfl) (hc : readyB .any ops l l' i = true := by kernel_rfl)
    (hd : i ∉ ds := by decide) (hw : Region.wanted oi (yielded ops a.tmps) = true := by rfl) (hb : fn.body.isSome = true := by rfl) (hname : (fn.name == "runtime.NumGoroutine") = false := by kernel_rfl)
    (hargs : xs.map a.eval = args := by kernel_rfl) (ha : a.put N v = a' := by simp only [Act.put, sA, sB, sC, i64_w, i32_w]; rfl) : wpAnyLast Tryz.prog .any ops Q (Bx w0 L) ds (fuel + 1) l a W := by
  subst ha
  refine one_ l' hi hN hc hd fun K hK => goes_ hf hname hb args hw hN hop hargs (hC.mono ?_)
  rintro e W' ⟨rfl, hb'⟩
  have S' := H.out.below hb'
  exact ⟨v, rfl, hK.out _ _ S' fun _ => h W' ⟨S'⟩⟩
/-- A call of a function value. -/
theorem fB (i : Nat) (N : Option Tmp) (l' : Array Bool) {f : FuncId} {fn : Func} {args first cap : Array Value} {xs : Array Operand} {ts : Array TypeId} (hf : Tryz.prog.funcs[f]? = some fn) (H : Aside0 (Bx w0 L W)) (hC : Calls Tryz.prog f args W fun e W' => e = .returned v ∧ Below W.heap.size W W')
    (h : ∀ W', Aside0 (Bx w0 L W') → wpAnyLast Tryz.prog .any ops Q (Bx w0 L) ds fuel l' a' W') (hi : ops[i]? = some oi := by rfl) (hN : oi.dst = N := by rfl) (hop : oi.op = .call { callee := .value (.tmp x), args := xs, argTypes := ts } := by rfl) (hv : a.tmps.getD x undef = .func (.func f) first cap := by rfl) (hc : readyB .any ops l l' i = true := by kernel_rfl)
    (hd : i ∉ ds := by decide) (hw : Region.wanted oi (yielded ops a.tmps) = true := by rfl) (hb : fn.body.isSome = true := by rfl) (hname : (fn.name == "runtime.NumGoroutine") = false := by kernel_rfl)
    (hargs : first ++ xs.map a.eval ++ cap = args := by kernel_rfl) (ha : a.put N v = a' := by simp only [Act.put, sA, sB, sC, i64_w, i32_w]; rfl) : wpAnyLast Tryz.prog .any ops Q (Bx w0 L) ds (fuel + 1) l a W := by
  subst ha
  refine one_ l' hi hN hc hd fun K hK => goesF_ hf hb args hw hN hop (hC.mono ?_) hname hv hargs
  rintro e W' ⟨rfl, hb'⟩
  have S' := H.out.below hb'
  exact ⟨v, rfl, hK.out _ _ S' fun _ => h W' ⟨S'⟩⟩
/-- Box j is written whole, last. -/
theorem sB' (i : Nat) (l' : Array Bool) (j : Nat) {cs' : Array Value} {L' : List (Nat × Obj)} (H : Aside0 (Bx w0 L W)) (h : ∀ W', Aside0 (Bx w0 L' W') → wpAnyLast Tryz.prog .any ops Q S ds fuel l' a W') (hi : ops[i]? = some oi := by rfl) (hN : oi.dst = none := by rfl) (hop : oi.op = .store t (.tmp x) (.tmp y) := by rfl)
    (hj : L[j]? = some (b, .cells cs t' (0, 0)) := by rfl) (hy : a.tmps.getD y undef = .agg cs' := by rfl) (hz : (Tryz.prog.info? t).map (·.size) = some cs'.size := by kernel_rfl) (ho : cs.size = cs'.size := by rfl) (h1 : cs'.all (·.oneCell') = true := by kernel_rfl)
    (hx : a.tmps.getD x undef = .pointer (some ⟨b, 0, none⟩) := by kernel_rfl) (hw : Region.wanted oi (yielded ops a.tmps) = true := by rfl) (hc : readyB .any ops l l' i = true := by kernel_rfl) (hd : i ∈ ds := by decide) (hs : L.set j (b, .cells cs' t' (0, 0)) = L' := by simp only [List.set]; rfl) : wpAnyLast Tryz.prog .any ops Q S ds (fuel + 1) l a W := by
  subst hs
  refine last_ (N := none) l' hi hN hc hd fun K hK => ?_
  have hb := H.out.get j hj
  rw [if_pos hw]
  refine wp_store_row t (.tmp x) (.tmp y) hop b cs' (ev_tmp hx) (ev_tmp hy) t' cs hb hz ho h1 ?_
  rw [hN]
  exact hK.out _ _ (h _ ⟨H.out.turn j hj ⟨rfl, rfl, rfl, by simp, fun k _ hk => setRow_other W b k cs' hk⟩ (setRow_heap W b cs cs' t' (0, 0) hb)⟩)
/-- Maps of one's own. -/
theorem bxM {rest : List Oper} {o : Oper} (n : Tmp) (t : TypeId) {F : Nat → List (Nat × Obj)} (H : Aside0 (Bx w0 L W)) (h : ∀ r W', Aside0 (Bx w0 (F r) W') → wpList Tryz.prog ops Q rest (a.put (some n) (.map (some r))) W')
    (hop : o.op = .makeMap t none := by rfl) (hg : o.guard = none := by rfl) (hd : o.dst = some n := by rfl) (hs : ∀ b, L ++ [(b, .map #[] 0)] = F b := by intro b; simp only [List.nil_append, List.cons_append]; rfl) : wpList Tryz.prog ops Q (o :: rest) a W :=
  map_made hg t hop fun r e w1 h1 h2 => by rw [hd]; exact h r w1 ⟨hs r ▸ H.out.new e h1 h2⟩
theorem bxI {rest : List Oper} {o : Oper} (t kt et : TypeId) (x : Tmp) (y z : Operand) (i : Nat) (k : Int) {r n : Nat} {es : Array MapEntry} {L' : List (Nat × Obj)} (ht : Tryz.prog.underlying t = some (.map kt et)) (hk : Tryz.prog.underlying kt = some (.int .i64)) (H : Aside0 (Bx w0 L W)) (h : ∀ W', Aside0 (Bx w0 L' W') → wpList Tryz.prog ops Q rest a W')
    (hop : o.op = .insert t (.tmp x) y z := by rfl) (hg : o.guard = none := by rfl) (hd : o.dst = none := by rfl) (hi : L[i]? = some (r, .map es n) := by rfl) (hm : a.eval (.tmp x) = .map (some r) := by rfl) (hx : a.eval y = .int .i64 k := by rfl) (hn : Instr.findNow (.int .i64) (.int .i64 k) es.toList 0 = some none := by rfl)
    (hs : L.set i (r, .map (es.push { key := .int .i64 k, val := a.eval z, born := n }) (n + 1)) = L' := by simp only [List.set]; rfl) : wpList Tryz.prog ops Q (o :: rest) a W :=
  map_entry hg t kt et (.tmp x) y z hop hd ht hk r n es k hm hx (H.out.get i hi) hn fun w1 h1 h2 => h w1 ⟨hs ▸ H.out.turn i hi h2 h1⟩
theorem kB (i : Nat) (N : Option Tmp) (l' : Array Bool) (j : Nat) {k : Int} {kt et : TypeId} {r n ix : Nat} {es : Array MapEntry} (ht : Tryz.prog.underlying t = some (.map kt et)) (hk : Tryz.prog.underlying kt = some (.int .i64)) (H : Aside0 (Bx w0 L W)) (h : wpAnyLast Tryz.prog .any ops Q (Bx w0 L) ds fuel l' a' W) (hi : ops[i]? = some oi := by rfl) (hN : oi.dst = N := by rfl)
    (hop : oi.op = .lookup t (.tmp x) (.tmp y) false := by rfl) (hj : L[j]? = some (r, .map es n) := by rfl) (hx : a.tmps.getD x undef = .map (some r) := by kernel_rfl) (hy : a.tmps.getD y undef = .int .i64 k := by rfl) (hn : Instr.findNow (.int .i64) (.int .i64 k) es.toList 0 = some (some (ix, v)) := by rfl)
    (hw : Region.wanted oi (yielded ops a.tmps) = true := by rfl) (hc : takeB .any ops ds l l' i = true := by kernel_rfl)
    (hQ : ∀ c a w, Q (.panic c) (a.put oi.dst v) w → Q (.panic c) a w := by exact fun _ _ _ h => h) (ha : a.put N v = a' := by simp only [Act.put, sA, sB, sC, i64_w, i32_w]; rfl) : wpAnyLast Tryz.prog .any ops Q (Bx w0 L) ds (fuel + 1) l a W :=
  take_ l' hi hN hc hQ (.inl ⟨hw, fun w hS => by simp [execOp, hop, ev_tmp hx, ev_tmp hy, run_found (ok := false) ht hk (hS.get j hj) hn, Result.andThen]⟩) H.out ha h
end
theorem Bx.perm {w0 W : World} {L L' : List (Nat × Obj)} (h : Bx w0 L W) (hp : L.Perm L') : Bx w0 L' W := ⟨h.lo, fun p q => h.ge p (hp.mem_iff.2 q), fun p q => h.at_ p (hp.mem_iff.2 q), (hp.map _).nodup_iff.1 h.nd⟩
section
variable {ops : Array Oper} {Q : Exit → Act → World → Prop} {ds : List Nat} {fuel : Nat} {l : Array Bool} {a : Act} {W w0 : World} {L : List (Nat × Obj)} {oi oj : Oper}
theorem Bx.head {L' : List (Nat × Obj)} (h : Bx w0 (L ++ L') W) : Bx w0 L W := ⟨h.lo, fun p q => h.ge p (List.mem_append_left _ q), fun p q => h.at_ p (List.mem_append_left _ q), by have := h.nd; rw [List.map_append, List.nodup_append] at this; exact this.1⟩
end
end Go.Proofs.YtfahbgkoldoflaaGreatDoor.Px
