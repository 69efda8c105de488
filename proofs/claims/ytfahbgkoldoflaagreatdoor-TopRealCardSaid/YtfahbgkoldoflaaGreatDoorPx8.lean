/- By hand. Conditions: none beside the theorems' own. -/
import Derived.Great.BuildSlice
import Derived.Great.BuildSlice
import Derived.Test.YtfahbgkoldoflaaGreatDoorPx0
import Derived.Test.YtfahbgkoldoflaaGreatDoorPx7
namespace Go.Proofs.YtfahbgkoldoflaaGreatDoor.Px
open Go.RowKit Go.Proofs.YtfahbgkoldoflaaGreatDoorW.PrintWords Go.Proofs.YtfahbgkoldoflaaGreatDoorW.PrintLast Go.Proofs.YtfahbgkoldoflaaGreatDoorW.PrintMore
attribute [local go_sem] max2_int min2_int max_two min_two max_three min_three max_four min_four   -- for this text's walks alone
set_option linter.unusedVariables false
set_option linter.unusedSimpArgs false

/-! ### top_own: function 157 -/
/-! top: by hand -/
/-- What a row of marks holds, number by number. -/
def flatM : List S119 → List Value
  | [] => []
  | m :: l => .int .i64 m.f0 :: .int .i64 m.f1 :: flatM l
theorem flatM_length : ∀ l : List S119, (flatM l).length = l.length * 2
  | [] => rfl
  | m :: l => by simp only [flatM, List.length_cons, flatM_length l]; omega
theorem flatM_one : ∀ l : List S119, ∀ v ∈ flatM l, v.oneCell' = true
  | [], v, h => by cases h
  | m :: l, v, h => by
    simp only [flatM, List.mem_cons] at h
    rcases h with rfl | rfl | h
    · rfl
    · rfl
    · exact flatM_one l v h
theorem flatM_get : ∀ (l : List S119) (j : Nat) (v : Value), (flatM l)[j]? = some v → ∃ i m, l[i]? = some m ∧ ((j = i * 2 ∧ v = .int .i64 m.f0) ∨ (j = i * 2 + 1 ∧ v = .int .i64 m.f1))
  | [], j, v, h => by simp [flatM] at h
  | m :: l, 0, v, h => ⟨0, m, rfl, .inl ⟨rfl, by simpa [flatM] using h.symm⟩⟩
  | m :: l, 1, v, h => ⟨0, m, rfl, .inr ⟨rfl, by simpa [flatM] using h.symm⟩⟩
  | m :: l, j + 2, v, h => by
    have h' : (flatM l)[j]? = some v := by simpa [flatM] using h
    obtain ⟨i, m', h1, h2⟩ := flatM_get l j v h'
    refine ⟨i + 1, m', by simpa using h1, ?_⟩
    rcases h2 with ⟨a, b⟩ | ⟨a, b⟩
    · exact .inl ⟨by omega, b⟩
    · exact .inr ⟨by omega, b⟩
theorem flatM_reads {w : World} {A : Option Addr} {l : List S119} (h : Kd.C k119 w A l.length l) : 0 < l.length → ∃ ad, A = some ad ∧ ∀ j v, (flatM l)[j]? = some v → w.cell? (ad.add j) = some v := fun h0 => by
  obtain ⟨_, _, h3⟩ := h
  obtain ⟨ad, e, hc⟩ := h3 h0
  refine ⟨ad, e, fun j v hv => ?_⟩
  obtain ⟨i, m, h1, h2⟩ := flatM_get l j v hv
  obtain ⟨c, _, hk, hr⟩ := hc i m h1
  have hk' := k119_open hk
  subst hk'
  rcases h2 with ⟨rfl, rfl⟩ | ⟨rfl, rfl⟩
  · exact hr 0 _ rfl
  · exact hr 1 _ rfl
theorem C_of_flat {w : World} {g c : Nat} {l : List S119} (hl : l.length ≤ 9223372036854775807) (hg : w.heap[g]? = some (.cells (flatM l).toArray 119 (0, 0))) : Kd.C k119 w (some ⟨g, 0, none⟩) l.length l := by
  refine ⟨rfl, hl, fun _ => ⟨_, rfl, fun j p hp => ⟨[.int .i64 p.f0, .int .i64 p.f1], rfl, k119_mk w p, fun i u hu => ?_⟩⟩⟩
  have key : ∀ (l : List S119) (j : Nat) (p : S119), l[j]? = some p → (flatM l)[j * 2]? = some (.int .i64 p.f0) ∧ (flatM l)[j * 2 + 1]? = some (.int .i64 p.f1) := by
    intro l
    induction l with
    | nil => intro j p h; simp at h
    | cons m l ih =>
      intro j p h
      cases j with
      | zero => obtain rfl : m = p := by simpa using h
                exact ⟨rfl, rfl⟩
      | succ j =>
        have := ih j p (by simpa using h)
        rw [Nat.succ_mul]
        exact ⟨by simpa [flatM] using this.1, by simpa [flatM] using this.2⟩
  have kk := key l j p hp
  have e : ∀ n, w.cell? ((⟨g, 0, none⟩ : Addr).add n) = (flatM l)[n]? := fun n => by
    have := blk_cell hg n
    by_cases h0 : n = 0
    · subst h0; simpa [Addr.add] using this
    · simpa [Addr.add, h0] using this
  match i, hu with
  | 0, hu => obtain rfl : _ = u := by simpa using hu
             rw [Nat.add_zero, e]; exact kk.1
  | 1, hu => obtain rfl : _ = u := by simpa using hu
             rw [e]; exact kk.2
theorem run_copy_all {P : Program} {w : World} {T ty e : TypeId} {size n g c : Nat} {A : Option Addr} {old : Array Value} {cs : List Value} (hu : P.underlying T = some (.slice e)) (hs : (P.info? e).map (·.size) = some size) (hg : w.heap[g]? = some (.cells old e (0, 0))) (ho : old.size = n * size) (hc : cs.length = n * size)
    (hA : 0 < n → ∃ ad, A = some ad ∧ ∀ j v, cs[j]? = some v → w.cell? (ad.add j) = some v) (h1 : ∀ v ∈ cs, v.oneCell' = true) :
    (Builtin.copy_ #[T, T] ty #[.slice (some ⟨g, 0, none⟩) n n, .slice A n c]).run P w = .ok (goInt n) (w.setRow g cs.toArray) := by
  have hst := run_storeCells_from (P := P) g e cs 0 old w hg (by omega) h1
  have hcur : old.toList.take 0 ++ cs ++ old.toList.drop (0 + cs.length) = cs := by
    rw [List.take_zero, List.nil_append, List.drop_eq_nil_of_le (by simp; omega), List.append_nil]
  cases hq : P.info? e with
  | none => simp [hq] at hs
  | some i =>
    have hi : i.size = size := by simpa [hq] using hs
    cases n with
    | zero =>
      obtain rfl : cs = [] := List.eq_nil_of_length_eq_zero (by omega)
      have hl : ∀ (x : Addr), (loadCells x 0).run P w = .ok #[] w := fun x => by simpa using run_loadCells_list (P := P) w x [] (by simp)
      have hself : w.setRow g #[] = w := by
        have : old = #[] := Array.eq_empty_of_size_eq_zero (by omega)
        subst this
        exact setRow_self w g #[] e (0, 0) hg
      cases A <;> simp [Builtin.copy_, run_underlying hu, Builtin.lenOf, Builtin.firstCells, sizeOf, typeInfo, hq, hi, storeCells, hl, hself]
    | succ n =>
      obtain ⟨ad, rfl, hr⟩ := hA (Nat.succ_pos n)
      have hl := run_loadCells_list (P := P) w ad cs hr
      rw [hc] at hl
      simp only [Nat.zero_add] at hst hcur
      simp [Builtin.copy_, run_underlying hu, Builtin.lenOf, Builtin.firstCells, sizeOf, typeInfo, hq, hi, hl]
      rw [hst]
      simp
theorem info119' : (Tryz.prog.info? 119).map (fun i => (i.zero, i.size, i.bytes)) = some (some (.agg #[.int .i64 0, .int .i64 0]), 2, 16) := by kernel_rfl
theorem alloc_new_ (w : World) (o : Obj) : (w.alloc o).heap[w.heap.size]? = some o := blk_new w o
theorem size_made (z : Array Value) (n : Nat) : (madeCells z n).size = n := by unfold madeCells; (repeat' split) <;> simp_all
set_option maxHeartbeats 1000000 in
theorem least_own_w (A : Option Addr) (c : Nat) (l : List S119) (w : World) (hC : Kd.C k119 w A l.length l) (hl : l.length ≤ 1000000) :
    Calls Tryz.prog 157 #[.slice A l.length c] w fun e w' => ∃ g, e = .returned (.slice (some ⟨g, 0, none⟩) l.length l.length) ∧ w.heap.size ≤ g ∧ w'.heap[g]? = some (.cells (flatM l).toArray 119 (0, 0)) ∧ Below w.heap.size w w' := by
  have HR := Aside0.mk (flatM_reads hC)
  have HL := Aside0.mk (flatM_length l)
  have H1 := Aside0.mk (flatM_one l)
  have HX := Aside0.mk hl
  clear hC hl
  generalize flatM l = cs at *
  generalize l.length = n at *
  obtain ⟨i0, hi0, hzz⟩ := Option.map_eq_some_iff.1 info119'
  simp only [Prod.mk.injEq] at hzz
  obtain ⟨hz0, hz1, hz2⟩ := hzz
  have HM := Aside0.mk (run_make (P := Tryz.prog) w 40 119 i0 _ Tryz.underlying40 hi0 hz0 .i64 .i64 (n : Int) (n : Int) (by omega) (by omega) (by rw [hz2]; have := HX.out; omega) (by have := HX.out; omega))
  have HS : Aside0 ((Tryz.prog.info? 119).map (·.size) = some 2) := ⟨by rw [hi0]; exact congrArg some hz1⟩
  rw [hz1] at HM
  clear hi0 hz0 hz1 hz2
  go_enter Tryz.func157, Tryz.ntmps157
  have hm := HM.out
  simp only [Int.toNat_natCast] at hm
  go_upto_region 2 with fail
  have HG := Aside0.mk (alloc_new_ w (.cells (madeCells #[Value.int .i64 0, Value.int .i64 0] (n * 2)) 119))
  have HB := Aside0.mk (below_alloc (Below.refl w.heap.size w) (.cells (madeCells #[Value.int .i64 0, Value.int .i64 0] (n * 2)) 119))
  have HK := Aside0.mk (Nat.le_refl w.heap.size)
  clear hm HM
  obtain ⟨g, hg⟩ : ∃ g, w.heap.size = g := ⟨_, rfl⟩
  generalize w.alloc (.cells (madeCells #[Value.int .i64 0, Value.int .i64 0] (n * 2)) 119) = W at HG HB ⊢
  have HR2 : Aside0 (0 < n → ∃ ad, A = some ad ∧ ∀ (j : Nat) (v : Value), cs[j]? = some v → W.cell? (ad.add j) = some v) := ⟨fun h0 => by
    obtain ⟨ad, e1, h1⟩ := HR.out h0
    exact ⟨ad, e1, fun j v hv => (HB.out.cell (World.block_lt_of_cell? w _ (h1 j v hv))).trans (h1 j v hv)⟩⟩
  have hcopy := run_copy_all (P := Tryz.prog) (w := W) (ty := 3) (n := n) (c := c) Tryz.underlying40 HS.out HG.out (by rw [size_made]) HL.out HR2.out H1.out
  rw [hg] at hcopy ⊢
  go_wp2
  go_ret
  refine ⟨g, rfl, by omega, ?_, ?_⟩
  · have := HG.out
    rw [hg] at this
    exact setRow_heap W g _ cs.toArray 119 (0, 0) this
  · exact HB.out.trans ⟨rfl, rfl, rfl, by simp, fun k hk => setRow_other W g k _ (by omega)⟩
theorem built83 (s : Ln) : Tryz.prog.built 83 [(0, .agg s.cells)] = some s.cells := by kernel_rfl
theorem info48 : (Tryz.prog.info? 48).map (·.size) = some 39 := by kernel_rfl
theorem info83 : (Tryz.prog.info? 83).map (·.size) = some 39 := by kernel_rfl
theorem Ln.size (s : Ln) : s.cells.size = 39 := rfl
theorem Ln.one (s : Ln) (h : s.lv.oneCell' = true) : s.cells.all (·.oneCell') = true := by
  have e : s.cells.all (·.oneCell') = (s.lv.oneCell' && true) := by simp [Ln.cells, Value.oneCell']
  rw [e, h]; rfl
/-- Nothing yet. -/
def Ln.zero : Ln := ⟨0, 0, 0, 0, 0, 0, 0, 0, 0, 0, 0, 0, 0, 0, 0, false, 0, 0, .slice none 0 0, 0, 0, 0, 0, 0, false, false, 0, 0, false, 0, 0, 0, 0, 0, 0, 0, 0, 0, false⟩
theorem run_alloc83 (W : World) : (Instr.alloc 83 true (.tuple #[])).run Tryz.prog W = .ok (.pointer (some ⟨W.heap.size, 0, none⟩)) (W.alloc (.cells Ln.zero.cells 83)) := by kernel_rfl
theorem run_alloc48 (W : World) : (Instr.alloc 48 true (.tuple #[])).run Tryz.prog W = .ok (.pointer (some ⟨W.heap.size, 0, none⟩)) (W.alloc (.cells Ln.zero.cells 48)) := by kernel_rfl
theorem run_box48 (cs : Array Value) (W : World) : (Instr.box 48 (.agg cs)).run Tryz.prog W = .ok (.pointer (some ⟨W.heap.size, 0, none⟩)) (W.alloc (.cells cs 48)) := by kernel_rfl
section
variable {P : Program} {ops : Array Oper} {rest : List Oper} {o : Oper} {a : Act} {W : World} {Q : Exit → Act → World → Prop}
/-- A new variable, whole. -/
theorem new_var (hg : o.guard = none) (t : TypeId) (hop : o.op = .alloc t) (d : Option Tmp) (hd : o.dst = d) (cs : Array Value) (hrun : (Instr.alloc t true (.tuple #[])).run P W = .ok (.pointer (some ⟨W.heap.size, 0, none⟩)) (W.alloc (.cells cs t)))
    (h : ∀ g, g = W.heap.size → ∀ w1, w1.heap[g]? = some (.cells cs t (0, 0)) → Below W.heap.size W w1 → wpList P ops Q rest (a.put d (.pointer (some ⟨g, 0, none⟩))) w1) : wpList P ops Q (o :: rest) a W := by
  subst hd
  refine wpList_plain hg fun K hK => ?_
  unfold Oper.wp
  simp only [execOp, hop, hrun, Sem.run_bind, Sem.run_pure, Result.andThen, Oper.upon]
  exact hK _ _ (h _ rfl _ (blk_new W _) (below_alloc (Below.refl _ _) _))
/-- An argument's box, whole. -/
theorem new_box (hg : o.guard = none) (t : TypeId) (x : Operand) (hop : o.op = .box t x) (d : Option Tmp) (hd : o.dst = d) (cs : Array Value) (hx : a.eval x = .agg cs) (hrun : (Instr.box t (.agg cs)).run P W = .ok (.pointer (some ⟨W.heap.size, 0, none⟩)) (W.alloc (.cells cs t)))
    (h : ∀ g, g = W.heap.size → ∀ w1, w1.heap[g]? = some (.cells cs t (0, 0)) → Below W.heap.size W w1 → wpList P ops Q rest (a.put d (.pointer (some ⟨g, 0, none⟩))) w1) : wpList P ops Q (o :: rest) a W := by
  subst hd
  refine wpList_plain hg fun K hK => ?_
  unfold Oper.wp
  simp only [execOp, hop, hx, hrun, Sem.run_bind, Sem.run_pure, Result.andThen, Oper.upon]
  exact hK _ _ (h _ rfl _ (blk_new W _) (below_alloc (Below.refl _ _) _))
/-- A whole row is stored. -/
theorem put_row (hg : o.guard = none) (t : TypeId) (x y : Operand) (hop : o.op = .store t x y) (hd : o.dst = none) (g : Nat) (cs : Array Value) (hx : a.eval x = .pointer (some ⟨g, 0, none⟩)) (hy : a.eval y = .agg cs) (t' : TypeId) (old : Array Value) (hb : W.heap[g]? = some (.cells old t' (0, 0)))
    (hi : (P.info? t).map (·.size) = some cs.size) (ho : old.size = cs.size) (h1 : cs.all (·.oneCell') = true)
    (h : ∀ w1, w1.heap[g]? = some (.cells cs t' (0, 0)) → WrB g W w1 → wpList P ops Q rest a w1) : wpList P ops Q (o :: rest) a W :=
  wpList_store_rowTo hg t x y hop hd g cs hx hy t' old hb hi ho h1 (h _ (setRow_heap W g old cs t' (0, 0) hb) ⟨rfl, rfl, rfl, by simp, fun k _ hk => setRow_other W g k cs hk⟩)
end
set_option maxRecDepth 100000 in
set_option maxHeartbeats 1000000 in
theorem clone_nil (w : World) : Calls Tryz.prog 62 #[.slice none 0 0] w fun e w' => e = .returned (.slice none 0 0) ∧ Below w.heap.size w w' := by
  have heq : ∀ w : World, (binOp BinOp.eql 40 (.slice none 0 0) (.slice none 0 0)).run Tryz.prog w = .ok (.bool true) w := fun w => by kernel_rfl
  go_enter Tryz.func62, Tryz.ntmps62
  go_wp2
  go_ret
  exact ⟨rfl, Below.refl _ _⟩
set_option maxRecDepth 100000 in
set_option maxHeartbeats 2000000 in
theorem engine_own_nil (s : Ln) (hs : s.lv = .slice none 0 0) (w : World) : Calls Tryz.prog 29 #[.agg s.cells] w fun e w' => e = .returned (.agg s.cells) ∧ Below w.heap.size w w' := by
  have HB := Aside0.mk (Below.refl w.heap.size w)
  have HS := Aside0.mk hs
  have H18 : Aside0 (s.cells[18]? = some (.slice none 0 0)) := ⟨by rw [← hs]; rfl⟩
  have HT : Aside0 (s.cells.setIfInBounds 18 (.slice none 0 0) = s.cells) := ⟨by rw [← hs]; rfl⟩
  have H1 := Aside0.mk (s.one (by rw [hs]; rfl))
  clear hs
  go_enter Tryz.func29, Tryz.ntmps29
  go_upto_region 2 with (first
    | ((with_reducible refine gate_dst (N := 1) rfl ?_); refine new_box rfl 48 (.tmp 0) rfl (some 1) rfl s.cells rfl (run_box48 _ _) ?_; intro b1 hg wb hbox hb; have B1 := Aside0.mk hbox; obtain ⟨G1, nHB⟩ := geA hg hb; replace HB := nHB; clear nHB hg hb hbox)
    | ((with_reducible refine gate_dst (N := 2) rfl ?_); refine new_var rfl 83 rfl (some 2) rfl Ln.zero.cells (run_alloc83 _) ?_; intro b2 hg wb hbox hb; have B2 := Aside0.mk hbox; obtain ⟨G2, nHB⟩ := geA hg hb; obtain ⟨N1, N2, nB⟩ := nbA B1 hg hb; replace B1 := nB; replace HB := nHB; clear nHB nB hg hb hbox; have z18 := czZ B1 18 (.slice none 0 0) H18.out)
    | (go_at_call 62; (with_reducible refine (clone_nil _).mono ?_); rintro e w9 ⟨rfl, hb9⟩; clear z18; replace B1 := bbZ B1 hb9; replace B2 := bbZ B2 hb9; replace HB := Aside0.mk (below_step HB.out hb9); clear hb9; have z18 := czZ B1 18 (.slice none 0 0) H18.out; have f18 := blk_frozen B1.out 18)
    | fail)
  have b1' := blk_set B1.out 18 (.slice none 0 0)
  rw [HT.out] at b1'
  have b2' := blk_far (p := ⟨b1, 18, none⟩) B2.out N2.out (.slice none 0 0)
  have hb' := HB.out.setCell (p := ⟨b1, 18, none⟩) G1.out (.slice none 0 0)
  replace B1 := Aside0.mk b1'; replace B2 := Aside0.mk b2'; replace HB := Aside0.mk hb'
  clear z18 f18 b1' b2' hb'
  generalize World.setCell w9 ⟨b1, 18, none⟩ (.slice none 0 0) = wn at B1 B2 HB ⊢
  go_wp2_with (first
    | ((with_reducible refine gate_dst (N := 7) rfl ?_); refine wpList_load_row rfl 48 (.tmp 1) rfl b1 rfl 48 s.cells (0, 0) _ B1.out Tryz.underlying48 rfl info48 ?_)
    | ((with_reducible refine gate_dst (N := 8) rfl ?_); refine wpList_buildTo rfl 83 _ rfl (some 8) rfl s.cells (by kernel_rfl) ?_)
    | (refine put_row rfl 83 (.tmp 2) (.tmp 8) rfl rfl b2 s.cells rfl rfl 83 Ln.zero.cells B2.out info83 rfl H1.out ?_; intro wz hbz hwz; have BZ := Aside0.mk hbz; replace HB := Aside0.mk (hwz.to_below HB.out G2.out HB.out.size); clear hbz hwz)
    | fail)
  refine bodyPost_ret (results_cell_row (fn := Tryz.f29) (p := 2) (ty := 83) rfl _ _ b2 83 s.cells (0, 0) _ rfl BZ.out Tryz.underlying83 rfl info83) rfl ⟨rfl, HB.out⟩

end Go.Proofs.YtfahbgkoldoflaaGreatDoor.Px
