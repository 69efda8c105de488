/- The engine, by hand: part A. Conditions: none beside the theorems' own. -/
import Derived.Test.YtfahbgkoldoflaaGreatDoorEng0
import Derived.Test.YtfahbgkoldoflaaGreatDoorPx16
import Derived.Test.YtfahbgkoldoflaaGreatDoorPx17
import Derived.Test.YtfahbgkoldoflaaGreatDoorPx18
namespace Go.Proofs.YtfahbgkoldoflaaGreatDoor.Px
open Go.RowKit Go.Proofs.YtfahbgkoldoflaaGreatDoorW.PrintWords Go.Proofs.YtfahbgkoldoflaaGreatDoorW.PrintLast Go.Proofs.YtfahbgkoldoflaaGreatDoorW.PrintMore
attribute [local go_sem] max2_int min2_int max_two min_two max_three min_three max_four min_four
set_option linter.unusedVariables false
set_option linter.unusedSimpArgs false
/-! Marks, as the print says them. -/
structure S119 where
 f0 : Int
 f1 : Int
def z119 : S119 := ⟨(0 : Int), (0 : Int)⟩
def k119 : Kd S119 := Kd.iso (Kd.pair (Kd.int .i64) (Kd.int .i64)) (fun x : S119 => (x.f0, x.f1))
theorem k119_open {w : World} {x : S119} {cs : List Value} (h : k119.K w x cs) : cs = [.int .i64 x.f0, .int .i64 x.f1] := by
 obtain ⟨_, _, rfl, rfl, rfl⟩ := h; exact rfl
theorem k119_mk (w : World) (x : S119)  : k119.K w x [.int .i64 x.f0, .int .i64 x.f1] := ⟨[.int .i64 x.f0], [.int .i64 x.f1], rfl, rfl, rfl⟩
def rd_T119 (xs : List S119) (i : Int) : S119 := xs.getD i.toNat z119
theorem at_T119 {w : World} {A : Option Addr} {n : Nat} {xs : List S119} (h : Kd.C k119 w A n xs) (i : Int) (h0 : 0 ≤ i) (h1 : i < n) : ∃ ad , A = some ad ∧ w.cell? (ad.add (i.toNat * 2)) = some (.int .i64 (rd_T119 xs i).f0) ∧ w.cell? ⟨(ad.add (i.toNat * 2)).block, (ad.add (i.toNat * 2)).off + 1, none⟩ = some (.int .i64 (rd_T119 xs i).f1) := by
 obtain ⟨ad, c, e, _, hK, hc0⟩ := Kd.C_get h z119 i h0 h1; have hc : ∀ j u, c[j]? = some u → w.cell? (ad.add (i.toNat * 2 + j)) = some u := hc0; obtain rfl := k119_open hK; exact ⟨ad, e, hc 0 _ rfl, by rw [← add_field _ _ 1 (by omega)]; exact hc 1 _ rfl⟩
/-- A connection's 39 numbers, as they lie in memory; 'lv' is the slice of its marks. -/
structure Ln where
  seg : Int
  mx : Int
  fst : Int
  grain : Int
  least : Int
  great : Int
  burst : Int
  now : Int
  last : Int
  win : Int
  thresh : Int
  high : Int
  sent : Int
  told : Int
  out : Int
  has : Bool
  mean : Int
  far : Int
  lv : Value
  rid : Int
  rend : Int
  hlast : Int
  hleast : Int
  hmany : Int
  hgentle : Bool
  hdone : Bool
  hbase : Int
  hrounds : Int
  eon : Bool
  estart : Int
  efirst : Int
  emax : Int
  ek : Int
  eest : Int
  recov : Int
  back : Int
  bat : Int
  bhave : Int
  lim : Bool
def Ln.cells (s : Ln) : Array Value := #[.int .i64 s.seg, .int .i64 s.mx, .int .i64 s.fst, .int .i64 s.grain, .int .i64 s.least, .int .i64 s.great, .int .i64 s.burst, .int .i64 s.now, .int .i64 s.last, .int .i64 s.win, .int .i64 s.thresh, .int .i64 s.high, .int .i64 s.sent, .int .i64 s.told, .int .i64 s.out, .bool s.has, .int .i64 s.mean, .int .i64 s.far, s.lv, .int .i64 s.rid, .int .i64 s.rend, .int .i64 s.hlast, .int .i64 s.hleast, .int .i64 s.hmany, .bool s.hgentle, .bool s.hdone, .int .i64 s.hbase, .int .i64 s.hrounds, .bool s.eon, .int .i64 s.estart, .int .i64 s.efirst, .int .i64 s.emax, .int .i64 s.ek, .int .i64 s.eest, .int .i64 s.recov, .int .i64 s.back, .int .i64 s.bat, .int .i64 s.bhave, .bool s.lim]
/-- The connection s lies at block g of W. -/
def At (W : World) (g : Nat) (s : Ln) : Prop := W.heap[g]? = some (.cells s.cells 83 (0, 0))
theorem Wr.drew {g : Nat} {a b : World} (h : Wr g a b) : Wr g a b.drew := ⟨h.os, h.tape, h.output, h.size, h.block⟩
theorem At.below {g : Nat} {w w' : World} {s : Ln} (h : At w g s) (hb : Below w.heap.size w w') : At w' g s := blk_below h hb
theorem At.drew {g : Nat} {w : World} {s : Ln} (h : At w g s) : At w.drew g s := h
theorem At.set {g : Nat} {w : World} {s t : Ln} (h : At w g s) (i : Nat) (v : Value) (e : s.cells.setIfInBounds i v = t.cells := by rfl) : At (w.setCell ⟨g, i, none⟩ v) g t := blk_put h i v e
theorem At.cell {g : Nat} {w : World} {s : Ln} (h : Aside0 (At w g s)) (i : Nat) (v : Value) (e : s.cells[i]? = some v := by rfl) : w.cell? ⟨g, i, none⟩ = some v := (blk_cell h.out i).trans e
theorem At.frozen {g : Nat} {w : World} {s : Ln} (h : Aside0 (At w g s)) (i : Nat) : w.frozen? ⟨g, i, none⟩ = false := blk_frozen h.out i
theorem At.alloc {g : Nat} {w : World} {s : Ln} (h : At w g s) (o : Obj) : At (w.alloc o) g s := blk_alloc h o
/-- Where the first one is, or -1. -/
noncomputable def firstIx (p : S119 → Bool) (l : List S119) : Int := if l.findIdx p < l.length then (l.findIdx p : Int) else -1
theorem firstIx_hit {p : S119 → Bool} {l : List S119} {i : Nat} (h : i < l.length) (hp : p l[i] = true) (hn : ∀ j (hj : j < i), p (l[j]'(Nat.lt_trans hj h)) = false) : firstIx p l = i := by
  have e : l.findIdx p = i := (List.findIdx_eq h).2 ⟨hp, hn⟩
  unfold firstIx
  rw [e, if_pos h]
theorem firstIx_miss {p : S119 → Bool} {l : List S119} (hn : ∀ j (hj : j < l.length), p l[j] = false) : firstIx p l = -1 := by
  unfold firstIx
  rw [if_neg]
  intro h
  have := List.findIdx_getElem (w := h)
  rw [hn _ h] at this
  cases this
theorem rd119 {l : List S119} {i : Nat} (h : i < l.length) : rd_T119 l (i : Int) = l[i] := by
  unfold rd_T119
  simp [List.getD_eq_getElem?_getD, List.getElem?_eq_getElem h]
set_option maxRecDepth 100000 in
set_option maxHeartbeats 2000000 in
theorem marks_index (p : S119 → Bool) (cf : Nat) (fn : Func) (hcf : Tryz.prog.funcs[cf]? = some fn) (hfb : fn.body.isSome = true) (hnm : (fn.name == "runtime.NumGoroutine") = false) (cap : Array Value) (A0 : Option Addr) (c0 : Nat) (l0 : List S119) (w : World) (hr0 : Kd.C k119 w A0 l0.length l0) (hlen : Aside0 (l0.length ≤ 4611686018427387904))
    (hf : ∀ (W : World) (m : S119), Below w.heap.size w W → Calls Tryz.prog cf (#[.agg #[.int .i64 m.f0, .int .i64 m.f1]] ++ cap) W fun e W' => e = .returned (.bool (p m)) ∧ Below W.heap.size W W') :
    Calls Tryz.prog 120 #[.slice A0 l0.length c0, .func (.func cf) #[] cap] w fun e w' => e = .returned (.int .i64 (firstIx p l0)) ∧ Below w.heap.size w w' := by
  have HR0 := Aside0.mk hr0
  have HF := Aside0.mk hf
  have hen : ∀ (args : Array Value) (W : World), (callFunc cf args).run Tryz.prog W = .ok (.enter cf args) W := fun args W => enters_ hcf hnm hfb args W
  clear hr0 hf hcf hfb hnm
  go_enter Tryz.func120, Tryz.ntmps120
  go_wp2
  go_loopg [8] l0.length (fun kq v8 wr => ∃ i : Nat, v8 = .int .i64 i ∧ Aside0 (i + kq = l0.length) ∧ Aside0 (∀ j (hj : j < l0.length), j < i → p l0[j] = false) ∧ Aside0 (Below w.heap.size w wr))
  case atStart => exact ⟨0, rfl, ⟨by omega⟩, ⟨fun j _ h => absurd h (Nat.not_lt_zero j)⟩, ⟨Below.refl _ _⟩⟩
  case round =>
    obtain ⟨i, rfl, HI, HN, HB⟩ := hrel
    cases gk with
    | zero =>
      have hi : i = l0.length := by have := HI.out; omega
      subst hi
      have c1 : decide ((l0.length : Int) < (l0.length : Int)) = false := decide_eq_false (by omega)
      go_wp2
      go_ret
      exact ⟨by rw [firstIx_miss (fun j hj => HN.out j hj hj)]; rfl, HB.out⟩
    | succ k1 =>
      have hi : i < l0.length := by have := HI.out; omega
      have c1 : decide ((i : Int) < (l0.length : Int)) = true := decide_eq_true (by omega)
      have p363 : 0 ≤ (i : Int) := by omega
      have q363 : (i : Int) < (l0.length : Int) := by omega
      obtain ⟨ad, e363, hx_0, hx_1⟩ := at_T119 HR0.out i p363 q363
      cases e363
      rw [rd119 hi] at hx_0 hx_1
      have hin : ((i : Int)).toNat = i := by omega
      rw [hin] at hx_0 hx_1
      replace hx_0 := (HB.out.cell (World.block_lt_of_cell? w _ hx_0)).trans hx_0; replace hx_1 := (HB.out.cell (World.block_lt_of_cell? w _ hx_1)).trans hx_1
      replace p363 := eq_true p363
      replace q363 := eq_true q363
      cases hp : p l0[i] with
      | true =>
        have HP := Aside0.mk hp
        clear hp
        go_wp2_with (first | (with_reducible refine (HF.out _ l0[i] HB.out).mono ?_; rintro en w9 ⟨rfl, hb9⟩; replace HB := Aside0.mk (below_step HB.out hb9); clear hb9; simp only [HP.out]) | fail)
        go_ret
        exact ⟨by rw [firstIx_hit hi HP.out (fun j hj => HN.out j (Nat.lt_trans hj hi) hj)]; rfl, HB.out⟩
      | false =>
        have HP := Aside0.mk hp
        clear hp
        go_wp2_with (first | (with_reducible refine (HF.out _ l0[i] HB.out).mono ?_; rintro en w9 ⟨rfl, hb9⟩; replace HB := Aside0.mk (below_step HB.out hb9); clear hb9; simp only [HP.out]) | fail)
        go_roundg k1
        case rel =>
          refine ⟨i + 1, congrArg (Value.int .i64) (by rw [Sp.w64 (x := (i : Int) + 1) (by have := hlen.out; omega)]; rfl), ⟨by have := HI.out; omega⟩, ⟨fun j hj hji => ?_⟩, HB⟩
          rcases Nat.lt_or_ge j i with x | x
          · exact HN.out j hj x
          · have : j = i := by omega
            subst this
            exact HP.out
        case measure => omega
theorem marks_contains (p : S119 → Bool) (cf : Nat) (fn : Func) (hcf : Tryz.prog.funcs[cf]? = some fn) (hfb : fn.body.isSome = true) (hnm : (fn.name == "runtime.NumGoroutine") = false) (cap : Array Value) (A0 : Option Addr) (c0 : Nat) (l0 : List S119) (w : World) (hr0 : Kd.C k119 w A0 l0.length l0) (hlen : Aside0 (l0.length ≤ 4611686018427387904))
    (hf : ∀ (W : World) (m : S119), Below w.heap.size w W → Calls Tryz.prog cf (#[.agg #[.int .i64 m.f0, .int .i64 m.f1]] ++ cap) W fun e W' => e = .returned (.bool (p m)) ∧ Below W.heap.size W W') :
    Calls Tryz.prog 68 #[.slice A0 l0.length c0, .func (.func cf) #[] cap] w fun e w' => e = .returned (.bool (decide (firstIx p l0 ≥ 0))) ∧ Below w.heap.size w w' := by
  have HX := Aside0.mk (marks_index p cf fn hcf hfb hnm cap A0 c0 l0 w hr0 hlen hf)
  clear hr0 hf hcf hfb hnm
  generalize firstIx p l0 = x at *
  go_enter Tryz.func68, Tryz.ntmps68
  go_wp2_with (first | (go_at_call 120; (with_reducible refine HX.out.mono ?_); rintro en w9 ⟨rfl, hb9⟩; have HB := Aside0.mk hb9; clear hb9) | fail)
  go_ret
  exact ⟨rfl, HB.out⟩
set_option maxHeartbeats 1000000 in
/-- The number of a mark is at least n, which lies at block b. -/
theorem put_ge (b : Nat) (n : Int) (m : S119) (w : World) (hb : w.heap[b]? = some (.cells #[.int .i64 n] 3 (0, 0))) :
    Calls Tryz.prog 158 (#[.agg #[.int .i64 m.f0, .int .i64 m.f1]] ++ #[.pointer (some ⟨b, 0, none⟩)]) w fun e w' => e = .returned (.bool (decide (m.f1 ≥ n))) ∧ Below w.heap.size w w' := by
  have HB := Aside0.mk (Below.refl w.heap.size w)
  have BN := Aside0.mk hb
  clear hb
  go_enter Tryz.func158, Tryz.ntmps158
  go_wp2_with (first | ((with_reducible refine gate_dst (N := 2) rfl ?_); refine box_event ?hg (N := 2) ?hd (cs := #[.int .i64 m.f0, .int .i64 m.f1]) (t := 119) ?hr ?_; (case hd => rfl); (case hg => rfl); (case hr => first | (go_simp; done) | (go_simp; rfl)); intro b2 hg w2 hbox hb; have BK2 := Aside0.mk hbox; obtain ⟨N1, N2, nBN⟩ := nbA BN hg hb; replace BN := nBN; obtain ⟨G2, nHB⟩ := geA hg hb; replace HB := nHB; clear nHB nBN hb hbox hg; have z1 := czZ BK2 1 (.int .i64 m.f1); have y0 := czZ BN 0 (.int .i64 n)) | fail)
  go_ret
  exact ⟨rfl, HB.out⟩
set_option maxHeartbeats 1000000 in
theorem put_since (ba bw : Nat) (at_ window : Int) (m : S119) (w : World) (ha : w.heap[ba]? = some (.cells #[.int .i64 at_] 3 (0, 0))) (hw : w.heap[bw]? = some (.cells #[.int .i64 window] 3 (0, 0))) :
    Calls Tryz.prog 159 (#[.agg #[.int .i64 m.f0, .int .i64 m.f1]] ++ #[.pointer (some ⟨ba, 0, none⟩), .pointer (some ⟨bw, 0, none⟩)]) w fun e w' => e = .returned (.bool (decide (m.f0 ≥ wrap64 (at_ - window)))) ∧ Below w.heap.size w w' := by
  have HB := Aside0.mk (Below.refl w.heap.size w)
  have BA := Aside0.mk ha
  have BW := Aside0.mk hw
  clear ha hw
  go_enter Tryz.func159, Tryz.ntmps159
  go_wp2_with (first | ((with_reducible refine gate_dst (N := 3) rfl ?_); refine box_event ?hg (N := 3) ?hd (cs := #[.int .i64 m.f0, .int .i64 m.f1]) (t := 119) ?hr ?_; (case hd => rfl); (case hg => rfl); (case hr => first | (go_simp; done) | (go_simp; rfl)); intro b2 hg w2 hbox hb; have BK2 := Aside0.mk hbox; obtain ⟨N1, N2, nBA⟩ := nbA BA hg hb; replace BA := nBA; obtain ⟨N3, N4, nBW⟩ := nbA BW hg hb; replace BW := nBW; obtain ⟨G2, nHB⟩ := geA hg hb; replace HB := nHB; clear nHB nBA nBW hb hbox hg; have z0 := czZ BK2 0 (.int .i64 m.f0); have y0 := czZ BA 0 (.int .i64 at_); have x0 := czZ BW 0 (.int .i64 window)) | fail)
  go_ret
  exact ⟨rfl, HB.out⟩
set_option maxHeartbeats 2000000 in
set_option maxRecDepth 100000 in
theorem check_late (g : Nat) (cs : Array Value) (now : Int) (m : S119) (w : World) (hg : w.heap[g]? = some (.cells cs 48 (0, 0))) (h7 : cs[7]? = some (.int .i64 now)) :
    Calls Tryz.prog 63 (#[.agg #[.int .i64 m.f0, .int .i64 m.f1]] ++ #[.pointer (some ⟨g, 0, none⟩)]) w fun e w' => e = .returned (.bool (decide (m.f0 > now) || !(decide (m.f1 ≥ 1) && decide (m.f1 ≤ 1073741824)))) ∧ Below w.heap.size w w' := by
  have HB := Aside0.mk (Below.refl w.heap.size w)
  have BN := Aside0.mk hg
  have H7 := Aside0.mk h7
  clear hg h7
  by_cases c : m.f0 > now
  · have c1 := decide_eq_true c
    rw [c1]
    clear c
    go_enter Tryz.func63, Tryz.ntmps63
    go_wp2_with (first | ((with_reducible refine gate_dst (N := 2) rfl ?_); refine box_event ?hg (N := 2) ?hd (cs := #[.int .i64 m.f0, .int .i64 m.f1]) (t := 119) ?hr ?_; (case hd => rfl); (case hg => rfl); (case hr => first | (go_simp; done) | (go_simp; rfl)); intro b2 hg w2 hbox hb; have BK2 := Aside0.mk hbox; obtain ⟨N1, N2, nBN⟩ := nbA BN hg hb; replace BN := nBN; obtain ⟨G2, nHB⟩ := geA hg hb; replace HB := nHB; clear nHB nBN hb hbox hg; have z0 := czZ BK2 0 (.int .i64 m.f0); have z1 := czZ BK2 1 (.int .i64 m.f1); have y7 := czZ BN 7 (.int .i64 now) H7.out) | fail)
    go_ret
    exact ⟨rfl, HB.out⟩
  · have c1 := decide_eq_false c
    rw [c1]
    clear c
    obtain ⟨b, hb⟩ : ∃ b, (decide (m.f1 ≥ 1) && decide (m.f1 ≤ 1073741824)) = b := ⟨_, rfl⟩
    have hbt : engine_between.f m.f1 1 1073741824 = some b := by
      unfold engine_between.f
      by_cases q : m.f1 ≥ 1
      · rw [if_pos q, ← hb, decide_eq_true q, Bool.true_and]
      · rw [if_neg q, ← hb, decide_eq_false q, Bool.false_and]
    have HT := Aside0.mk hbt
    rw [hb]
    clear hb hbt
    go_enter Tryz.func63, Tryz.ntmps63
    go_wp2_with (first
      | ((with_reducible refine gate_dst (N := 2) rfl ?_); refine box_event ?hg (N := 2) ?hd (cs := #[.int .i64 m.f0, .int .i64 m.f1]) (t := 119) ?hr ?_; (case hd => rfl); (case hg => rfl); (case hr => first | (go_simp; done) | (go_simp; rfl)); intro b2 hg w2 hbox hb; have BK2 := Aside0.mk hbox; obtain ⟨N1, N2, nBN⟩ := nbA BN hg hb; replace BN := nBN; obtain ⟨G2, nHB⟩ := geA hg hb; replace HB := nHB; clear nHB nBN hb hbox hg; have z0 := czZ BK2 0 (.int .i64 m.f0); have z1 := czZ BK2 1 (.int .i64 m.f1); have y7 := czZ BN 7 (.int .i64 now) H7.out)
      | (go_at_call 64; (with_reducible refine (engine_between.calls m.f1 1 1073741824 b _ HT.out).mono ?_); rintro e w' ⟨rfl, ⟨nd, rfl⟩⟩) | fail)
    go_ret
    exact ⟨rfl, by repeat (first | exact HB.out | apply pw_below_drewN | apply below_drew1)⟩
/-- What a row of marks holds, number by number. -/
def flatM : List S119 → List Value
  | [] => []
  | m :: l => .int .i64 m.f0 :: .int .i64 m.f1 :: flatM l
theorem flatM_length : ∀ l : List S119, (flatM l).length = l.length * 2
  | [] => rfl
  | m :: l => by simp only [flatM, List.length_cons, flatM_length l]; omega
theorem flatM_one : ∀ l : List S119, ∀ v ∈ flatM l, v.oneCell' = true
  | [], v, h => by cases h
  | m :: l, v, h => by
    simp only [flatM, List.mem_cons] at h
    rcases h with rfl | rfl | h
    · rfl
    · rfl
    · exact flatM_one l v h
theorem flatM_get : ∀ (l : List S119) (j : Nat) (v : Value), (flatM l)[j]? = some v → ∃ i m, l[i]? = some m ∧ ((j = i * 2 ∧ v = .int .i64 m.f0) ∨ (j = i * 2 + 1 ∧ v = .int .i64 m.f1))
  | [], j, v, h => by simp [flatM] at h
  | m :: l, 0, v, h => ⟨0, m, rfl, .inl ⟨rfl, by simpa [flatM] using h.symm⟩⟩
  | m :: l, 1, v, h => ⟨0, m, rfl, .inr ⟨rfl, by simpa [flatM] using h.symm⟩⟩
  | m :: l, j + 2, v, h => by
    have h' : (flatM l)[j]? = some v := by simpa [flatM] using h
    obtain ⟨i, m', h1, h2⟩ := flatM_get l j v h'
    refine ⟨i + 1, m', by simpa using h1, ?_⟩
    rcases h2 with ⟨a, b⟩ | ⟨a, b⟩
    · exact .inl ⟨by omega, b⟩
    · exact .inr ⟨by omega, b⟩
theorem flatM_reads {w : World} {A : Option Addr} {l : List S119} (h : Kd.C k119 w A l.length l) : 0 < l.length → ∃ ad, A = some ad ∧ ∀ j v, (flatM l)[j]? = some v → w.cell? (ad.add j) = some v := fun h0 => by
  obtain ⟨_, _, h3⟩ := h
  obtain ⟨ad, e, hc⟩ := h3 h0
  refine ⟨ad, e, fun j v hv => ?_⟩
  obtain ⟨i, m, h1, h2⟩ := flatM_get l j v hv
  obtain ⟨c, _, hk, hr⟩ := hc i m h1
  have hk' := k119_open hk
  subst hk'
  rcases h2 with ⟨rfl, rfl⟩ | ⟨rfl, rfl⟩
  · exact hr 0 _ rfl
  · exact hr 1 _ rfl
theorem C_of_flat {w : World} {g c : Nat} {l : List S119} (hl : l.length ≤ 9223372036854775807) (hg : w.heap[g]? = some (.cells (flatM l).toArray 119 (0, 0))) : Kd.C k119 w (some ⟨g, 0, none⟩) l.length l := by
  refine ⟨rfl, hl, fun _ => ⟨_, rfl, fun j p hp => ⟨[.int .i64 p.f0, .int .i64 p.f1], rfl, k119_mk w p, fun i u hu => ?_⟩⟩⟩
  have key : ∀ (l : List S119) (j : Nat) (p : S119), l[j]? = some p → (flatM l)[j * 2]? = some (.int .i64 p.f0) ∧ (flatM l)[j * 2 + 1]? = some (.int .i64 p.f1) := by
    intro l
    induction l with
    | nil => intro j p h; simp at h
    | cons m l ih =>
      intro j p h
      cases j with
      | zero => obtain rfl : m = p := by simpa using h
                exact ⟨rfl, rfl⟩
      | succ j =>
        have := ih j p (by simpa using h)
        rw [Nat.succ_mul]
        exact ⟨by simpa [flatM] using this.1, by simpa [flatM] using this.2⟩
  have kk := key l j p hp
  have e : ∀ n, w.cell? ((⟨g, 0, none⟩ : Addr).add n) = (flatM l)[n]? := fun n => by
    have := blk_cell hg n
    by_cases h0 : n = 0
    · subst h0; simpa [Addr.add] using this
    · simpa [Addr.add, h0] using this
  match i, hu with
  | 0, hu => obtain rfl : _ = u := by simpa using hu
             rw [Nat.add_zero, e]; exact kk.1
  | 1, hu => obtain rfl : _ = u := by simpa using hu
             rw [e]; exact kk.2
theorem run_copy_all {P : Program} {w : World} {T ty e : TypeId} {size n g c : Nat} {A : Option Addr} {old : Array Value} {cs : List Value} (hu : P.underlying T = some (.slice e)) (hs : (P.info? e).map (·.size) = some size) (hg : w.heap[g]? = some (.cells old e (0, 0))) (ho : old.size = n * size) (hc : cs.length = n * size)
    (hA : 0 < n → ∃ ad, A = some ad ∧ ∀ j v, cs[j]? = some v → w.cell? (ad.add j) = some v) (h1 : ∀ v ∈ cs, v.oneCell' = true) :
    (Builtin.copy_ #[T, T] ty #[.slice (some ⟨g, 0, none⟩) n n, .slice A n c]).run P w = .ok (goInt n) (w.setRow g cs.toArray) := by
  have hst := run_storeCells_from (P := P) g e cs 0 old w hg (by omega) h1
  have hcur : old.toList.take 0 ++ cs ++ old.toList.drop (0 + cs.length) = cs := by
    rw [List.take_zero, List.nil_append, List.drop_eq_nil_of_le (by simp; omega), List.append_nil]
  cases hq : P.info? e with
  | none => simp [hq] at hs
  | some i =>
    have hi : i.size = size := by simpa [hq] using hs
    cases n with
    | zero =>
      obtain rfl : cs = [] := List.eq_nil_of_length_eq_zero (by omega)
      have hl : ∀ (x : Addr), (loadCells x 0).run P w = .ok #[] w := fun x => by simpa using run_loadCells_list (P := P) w x [] (by simp)
      have hself : w.setRow g #[] = w := by
        have : old = #[] := Array.eq_empty_of_size_eq_zero (by omega)
        subst this
        exact setRow_self w g #[] e (0, 0) hg
      cases A <;> simp [Builtin.copy_, run_underlying hu, Builtin.lenOf, Builtin.firstCells, sizeOf, typeInfo, hq, hi, storeCells, hl, hself]
    | succ n =>
      obtain ⟨ad, rfl, hr⟩ := hA (Nat.succ_pos n)
      have hl := run_loadCells_list (P := P) w ad cs hr
      rw [hc] at hl
      simp only [Nat.zero_add] at hst hcur
      simp [Builtin.copy_, run_underlying hu, Builtin.lenOf, Builtin.firstCells, sizeOf, typeInfo, hq, hi, hl]
      rw [hst]
      simp
theorem info119' : (Tryz.prog.info? 119).map (fun i => (i.zero, i.size, i.bytes)) = some (some (.agg #[.int .i64 0, .int .i64 0]), 2, 16) := by kernel_rfl
theorem alloc_new_ (w : World) (o : Obj) : (w.alloc o).heap[w.heap.size]? = some o := blk_new w o
theorem size_made (z : Array Value) (n : Nat) : (madeCells z n).size = n := by unfold madeCells; (repeat' split) <;> simp_all
set_option maxHeartbeats 1000000 in
theorem least_own_w (A : Option Addr) (c : Nat) (l : List S119) (w : World) (hC : Kd.C k119 w A l.length l) (hl : l.length ≤ 1000000) :
    Calls Tryz.prog 157 #[.slice A l.length c] w fun e w' => ∃ g, e = .returned (.slice (some ⟨g, 0, none⟩) l.length l.length) ∧ w.heap.size ≤ g ∧ w'.heap[g]? = some (.cells (flatM l).toArray 119 (0, 0)) ∧ Below w.heap.size w w' := by
  have HR := Aside0.mk (flatM_reads hC)
  have HL := Aside0.mk (flatM_length l)
  have H1 := Aside0.mk (flatM_one l)
  have HX := Aside0.mk hl
  clear hC hl
  generalize flatM l = cs at *
  generalize l.length = n at *
  obtain ⟨i0, hi0, hzz⟩ := Option.map_eq_some_iff.1 info119'
  simp only [Prod.mk.injEq] at hzz
  obtain ⟨hz0, hz1, hz2⟩ := hzz
  have HM := Aside0.mk (run_make (P := Tryz.prog) w 40 119 i0 _ Tryz.underlying40 hi0 hz0 .i64 .i64 (n : Int) (n : Int) (by omega) (by omega) (by rw [hz2]; have := HX.out; omega) (by have := HX.out; omega))
  have HS : Aside0 ((Tryz.prog.info? 119).map (·.size) = some 2) := ⟨by rw [hi0]; exact congrArg some hz1⟩
  rw [hz1] at HM
  clear hi0 hz0 hz1 hz2
  go_enter Tryz.func157, Tryz.ntmps157
  have hm := HM.out
  simp only [Int.toNat_natCast] at hm
  go_upto_region 2 with fail
  have HG := Aside0.mk (alloc_new_ w (.cells (madeCells #[Value.int .i64 0, Value.int .i64 0] (n * 2)) 119))
  have HB := Aside0.mk (below_alloc (Below.refl w.heap.size w) (.cells (madeCells #[Value.int .i64 0, Value.int .i64 0] (n * 2)) 119))
  have HK := Aside0.mk (Nat.le_refl w.heap.size)
  clear hm HM
  obtain ⟨g, hg⟩ : ∃ g, w.heap.size = g := ⟨_, rfl⟩
  generalize w.alloc (.cells (madeCells #[Value.int .i64 0, Value.int .i64 0] (n * 2)) 119) = W at HG HB ⊢
  have HR2 : Aside0 (0 < n → ∃ ad, A = some ad ∧ ∀ (j : Nat) (v : Value), cs[j]? = some v → W.cell? (ad.add j) = some v) := ⟨fun h0 => by
    obtain ⟨ad, e1, h1⟩ := HR.out h0
    exact ⟨ad, e1, fun j v hv => (HB.out.cell (World.block_lt_of_cell? w _ (h1 j v hv))).trans (h1 j v hv)⟩⟩
  have hcopy := run_copy_all (P := Tryz.prog) (w := W) (ty := 3) (n := n) (c := c) Tryz.underlying40 HS.out HG.out (by rw [size_made]) HL.out HR2.out H1.out
  rw [hg] at hcopy ⊢
  go_wp2
  go_ret
  refine ⟨g, rfl, by omega, ?_, ?_⟩
  · have := HG.out
    rw [hg] at this
    exact setRow_heap W g _ cs.toArray 119 (0, 0) this
  · exact HB.out.trans ⟨rfl, rfl, rfl, by simp, fun k hk => setRow_other W g k _ (by omega)⟩
theorem info48 : (Tryz.prog.info? 48).map (·.size) = some 39 := by kernel_rfl
theorem Ln.size (s : Ln) : s.cells.size = 39 := rfl
theorem Ln.one (s : Ln) (h : s.lv.oneCell' = true) : s.cells.all (·.oneCell') = true := by
  have e : s.cells.all (·.oneCell') = (s.lv.oneCell' && true) := by simp [Ln.cells, Value.oneCell']
  rw [e, h]; rfl
/-- Nothing yet. -/
def Ln.zero : Ln := ⟨0, 0, 0, 0, 0, 0, 0, 0, 0, 0, 0, 0, 0, 0, 0, false, 0, 0, .slice none 0 0, 0, 0, 0, 0, 0, false, false, 0, 0, false, 0, 0, 0, 0, 0, 0, 0, 0, 0, false⟩
theorem run_alloc83 (W : World) : (Instr.alloc 83 true (.tuple #[])).run Tryz.prog W = .ok (.pointer (some ⟨W.heap.size, 0, none⟩)) (W.alloc (.cells Ln.zero.cells 83)) := by kernel_rfl
theorem run_alloc48 (W : World) : (Instr.alloc 48 true (.tuple #[])).run Tryz.prog W = .ok (.pointer (some ⟨W.heap.size, 0, none⟩)) (W.alloc (.cells Ln.zero.cells 48)) := by kernel_rfl
theorem run_box48 (cs : Array Value) (W : World) : (Instr.box 48 (.agg cs)).run Tryz.prog W = .ok (.pointer (some ⟨W.heap.size, 0, none⟩)) (W.alloc (.cells cs 48)) := by kernel_rfl
set_option maxRecDepth 100000 in
set_option maxHeartbeats 1000000 in
theorem clone_nil (w : World) : Calls Tryz.prog 62 #[.slice none 0 0] w fun e w' => e = .returned (.slice none 0 0) ∧ Below w.heap.size w w' := by
  have heq : ∀ w : World, (binOp BinOp.eql 40 (.slice none 0 0) (.slice none 0 0)).run Tryz.prog w = .ok (.bool true) w := fun w => by kernel_rfl
  go_enter Tryz.func62, Tryz.ntmps62
  go_wp2
  go_ret
  exact ⟨rfl, Below.refl _ _⟩
/-- What follows a statement, where a stop is told by X, and T says what a frame still holds. -/
def StopQ (X : List PanicEntry → World → Prop) (T : Act → Prop) (Q : Exit → Act → World → Prop) : Exit → Act → World → Prop
  | .panic c, a, w => X c w ∧ T a
  | e, a, w => Q e a w
/-- What a frame still holds: the two variables that are answered, and what is deferred. -/
structure TT (b4 b5 : Nat) (D : List Deferred) (a : Act) : Prop where
  out : a.tmps.getD 4 undef = .pointer (some ⟨b4, 0, none⟩)
  bad : a.tmps.getD 5 undef = .pointer (some ⟨b5, 0, none⟩)
  late : a.defers = D
theorem TT.of_put {b4 b5 d : Nat} {D : List Deferred} {a : Act} {v : Value} (h : TT b4 b5 D (a.put (some d) v)) (h4 : d ≠ 4) (h5 : d ≠ 5) : TT b4 b5 D a := by
  obtain ⟨p, q, r⟩ := h
  simp only [Act.put, Array.getD_eq_getD_getElem?, Array.getElem?_setIfInBounds, h4, h5, if_false] at p q
  exact ⟨by simpa using p, by simpa using q, r⟩
theorem StopQ.keep {X : List PanicEntry → World → Prop} {T : Act → Prop} {Q : Exit → Act → World → Prop} {c : List PanicEntry} {a a' : Act} {w : World} (h : StopQ X T Q (.panic c) a' w) (t : T a) : StopQ X T Q (.panic c) a w := ⟨h.1, t⟩
theorem wp_stop {c : Code} {X : List PanicEntry → World → Prop} {T : Act → Prop} {Q : Exit → Act → World → Prop} {a : Act} {w : World} (hp : ∀ c a w, X c w → T a → Q (.panic c) a w) (h : c.wp Tryz.prog (StopQ X T Q) a w) : c.wp Tryz.prog Q a w :=
  Code.wp_mono (fun e a w q => by cases e <;> first | exact q | exact hp _ _ _ q.1 q.2) h
/-- What a method's walk keeps: the connection s at block g, its event's box if there is one, and what has turned since w0. -/
structure StL (g : Nat) (be : Option Nat) (ev : Array Value) (w0 : World) (s : Ln) (W : World) : Prop where
  row : At W g s
  box : ∀ b, be = some b → W.heap[b]? = some (.cells ev 52 (0, 0)) ∧ b ≠ g
  wr : Wr g w0 W
section
variable {g b : Nat} {be : Option Nat} {ev : Array Value} {w0 W W' : World} {s : Ln}
theorem StL.below (h : StL g be ev w0 s W) (hb : Below W.heap.size W W') : StL g be ev w0 s W' := ⟨h.row.below hb, fun b e => ⟨blk_below (h.box b e).1 hb, (h.box b e).2⟩, h.wr.below hb⟩
theorem StL.drew (h : StL g be ev w0 s W) : StL g be ev w0 s W.drew := ⟨h.row.drew, fun b e => ⟨blk_drew (h.box b e).1, (h.box b e).2⟩, h.wr.drew⟩
theorem StL.turn (h : StL g be ev w0 s W) {t : Ln} (ht : At W' g t) (hw : Wr g W W') : StL g be ev w0 t W' := ⟨ht, fun b e => ⟨hw.blk (h.box b e).1 (h.box b e).2, (h.box b e).2⟩, h.wr.trans hw⟩
theorem StL.start (hA : At W g s) : StL g none #[] W s W := ⟨hA, (fun _ e => by cases e), Wr.refl g W⟩
theorem StL.begin (hA : At W g s) (hg : b = W.heap.size) (hbox : W'.heap[b]? = some (.cells ev 52 (0, 0))) (hb : Below W.heap.size W W') : StL g (some b) ev W s W' := ⟨hA.below hb, fun c e => by cases e; exact ⟨hbox, fun h => by have := blk_lt hA; omega⟩, Wr.of_below hb⟩
theorem StL.z (h : StL g be ev w0 s W) (c : Nat) (v : Value) (e : s.cells[c]? = some v) : W.cell? ⟨g, c, none⟩ = some v := (blk_cell h.row c).trans e
theorem StL.f (h : StL g be ev w0 s W) (c : Nat) : W.frozen? ⟨g, c, none⟩ = false := blk_frozen h.row c
theorem StL.y (h : StL g (some b) ev w0 s W) (c : Nat) (v : Value) (e : ev[c]? = some v) : W.cell? ⟨b, c, none⟩ = some v := (blk_cell (h.box b rfl).1 c).trans e
/-- Nothing of the connection has turned after all. -/
theorem StL.same (h : StL g be ev w0 s W) (h0 : At w0 g s) : Below w0.heap.size w0 W := ⟨h.wr.os, h.wr.tape, h.wr.output, h.wr.size, fun k hk => if e : k = g then by subst e; exact h.row.trans h0.symm else h.wr.block k hk e⟩
end
/-- What is read of a connection at its cell c. -/
def LdL (t : TypeId) (c : Nat) (v : Value) (s : Ln) : Prop := ∀ g W, At W g s → (Instr.loadAt t (.pointer (some ⟨g, c, none⟩))).run Tryz.prog W = .ok v W
/-- What is written there. -/
def SdL (t : TypeId) (c : Nat) (v : Value) (s s' : Ln) : Prop := ∀ g W, At W g s → ∃ W', (Instr.storeAt t (.pointer (some ⟨g, c, none⟩)) v).run Tryz.prog W = .ok () W' ∧ At W' g s' ∧ Wr g W W'
/-- What is read of an event. -/
def LdE (t : TypeId) (c : Nat) (v : Value) (ev : Array Value) : Prop := ∀ be W, W.heap[be]? = some (.cells ev 52 (0, 0)) → (Instr.loadAt t (.pointer (some ⟨be, c, none⟩))).run Tryz.prog W = .ok v W
section
variable {s : Ln} {c : Nat}
theorem ldI {n : Int} (h : s.cells[c]? = some (.int .i64 n) := by rfl) : LdL 3 c (.int .i64 n) s := fun g W hA => by
  have z := (blk_cell hA c).trans h
  go_simp
theorem ldB {n : Bool} (h : s.cells[c]? = some (.bool n) := by rfl) : LdL 4 c (.bool n) s := fun g W hA => by
  have z := (blk_cell hA c).trans h
  go_simp
theorem ldE {ev : Array Value} {n : Int} (h : ev[c]? = some (.int .i64 n) := by rfl) : LdE 3 c (.int .i64 n) ev := fun g W hA => by
  have z := (blk_cell hA c).trans h
  go_simp
theorem sdI {n : Int} {s' : Ln} (h : s.cells.setIfInBounds c (.int .i64 n) = s'.cells := by rfl) (h0 : (s.cells[c]?).isSome = true := by rfl) : SdL 3 c (.int .i64 n) s s' := fun g W hA => by
  obtain ⟨v, hv⟩ := Option.isSome_iff_exists.1 h0
  have z := (blk_cell hA c).trans hv
  have f := blk_frozen hA c
  refine ⟨W.setCell ⟨g, c, none⟩ (.int .i64 n), by go_simp, hA.set c _ h, (Wr.refl g W).set c _⟩
theorem sdB {n : Bool} {s' : Ln} (h : s.cells.setIfInBounds c (.bool n) = s'.cells := by rfl) (h0 : (s.cells[c]?).isSome = true := by rfl) : SdL 4 c (.bool n) s s' := fun g W hA => by
  obtain ⟨v, hv⟩ := Option.isSome_iff_exists.1 h0
  have z := (blk_cell hA c).trans hv
  have f := blk_frozen hA c
  refine ⟨W.setCell ⟨g, c, none⟩ (.bool n), by go_simp, hA.set c _ h, (Wr.refl g W).set c _⟩
end
section
variable {ops : Array Oper} {Q : Exit → Act → World → Prop} {ds : List Nat} {fuel : Nat} {l : Array Bool} {a a' : Act} {W : World} {g : Nat} {be : Option Nat} {ev : Array Value} {w0 : World} {s : Ln} {oi : Oper} {v : Value} {t : TypeId} {x y : Tmp}
/-- A region that draws: its beginning. -/
theorem rgL {id n : Nat} (l : Array Bool) (ds : List Nat) (H : Aside0 (StL g be ev w0 s W)) (h : ∀ W, Aside0 (StL g be ev w0 s W) → wpAnyLast Tryz.prog .any ops Q (StL g be ev w0 s) ds n l a W) (hm : Tryz.prog.follows .mixedOrders = true := by kernel_rfl) (hn : ops.size = n := by rfl)
    (hl : Array.replicate n false = l := by rfl) : (Code.region id ops true).wp Tryz.prog Q a W := start_ l hm hn hl H.out.drew fun hS => h _ ⟨hS⟩
/-- A field of the connection is read. -/
theorem lL (i : Nat) (N : Option Tmp) (l' : Array Bool) {c : Nat} (hL : LdL t c v s) (H : Aside0 (StL g be ev w0 s W)) (h : wpAnyLast Tryz.prog .any ops Q (StL g be ev w0 s) ds fuel l' a' W) (hi : ops[i]? = some oi := by rfl) (hN : oi.dst = N := by rfl) (hop : oi.op = .load t (.tmp x) := by rfl)
    (hx : a.tmps.getD x undef = .pointer (some ⟨g, c, none⟩) := by kernel_rfl) (hw : Region.wanted oi (yielded ops a.tmps) = true := by rfl) (hc : takeB .any ops ds l l' i = true := by kernel_rfl) (hQ : ∀ c a w, Q (.panic c) (a.put oi.dst v) w → Q (.panic c) a w := by first | exact fun _ _ _ h => h | exact fun _ _ _ h => StopQ.keep h (TT.of_put h.2 (by decide) (by decide)))
    (ha : a.put N v = a' := by simp only [Act.put, sA, sB, sC, i64_w, i32_w]; rfl) : wpAnyLast Tryz.prog .any ops Q (StL g be ev w0 s) ds (fuel + 1) l a W :=
  take_ l' hi hN hc hQ (.inl ⟨hw, fun w hS => by
    have hx' : a.tmps[x]?.getD undef = .pointer (some ⟨g, c, none⟩) := by simpa using hx
    simp [execOp, hop, Act.eval, hx', hL g w hS.row]⟩) H.out ha h
/-- Numbers alone. -/
theorem pL (i : Nat) (N : Option Tmp) (l' : Array Bool) (h : wpAnyLast Tryz.prog .any ops Q (StL g be ev w0 s) ds fuel l' a' W) (hi : ops[i]? = some oi := by rfl) (hN : oi.dst = N := by rfl) (hc : anyB .any ops l l' i = true := by kernel_rfl)
    (hy : Yields Tryz.prog ops oi v a := by refine Or.inl ⟨by rfl, ?_⟩; intro w'; go_simp; with_reducible rfl) (hQ : ∀ c a w, Q (.panic c) (a.put oi.dst v) w → Q (.panic c) a w := by first | exact fun _ _ _ h => h | exact fun _ _ _ h => StopQ.keep h (TT.of_put h.2 (by decide) (by decide))) (ha : a.put N v = a' := by simp only [Act.put, sA, sB, sC, i64_w, i32_w]; rfl) :
    wpAnyLast Tryz.prog .any ops Q (StL g be ev w0 s) ds (fuel + 1) l a W := pure_ l' hi hN hc hQ hy ha h
/-- A call that answers v. -/
theorem cL (i : Nat) (N : Option Tmp) (l' : Array Bool) {f : FuncId} {fn : Func} {args : Array Value} {xs : Array Operand} {ts : Array TypeId} (hf : Tryz.prog.funcs[f]? = some fn) (H : Aside0 (StL g be ev w0 s W)) (hC : Calls Tryz.prog f args W fun e W' => e = .returned v ∧ Below W.heap.size W W')
    (h : ∀ W', Aside0 (StL g be ev w0 s W') → wpAnyLast Tryz.prog .any ops Q (StL g be ev w0 s) ds fuel l' a' W') (hi : ops[i]? = some oi := by rfl) (hN : oi.dst = N := by rfl) (hop : oi.op = .call { callee := .value (.func f), args := xs, argTypes := ts } := by rfl) (hc : readyB .any ops l l' i = true := by kernel_rfl)
    (hd : i ∉ ds := by decide) (hw : Region.wanted oi (yielded ops a.tmps) = true := by rfl) (hb : fn.body.isSome = true := by rfl) (hname : (fn.name == "runtime.NumGoroutine") = false := by kernel_rfl)
    (hargs : xs.map a.eval = args := by kernel_rfl) (ha : a.put N v = a' := by simp only [Act.put, sA, sB, sC, i64_w, i32_w]; rfl) : wpAnyLast Tryz.prog .any ops Q (StL g be ev w0 s) ds (fuel + 1) l a W := by
  subst ha
  refine one_ l' hi hN hc hd fun K hK => goes_ hf hname hb args hw hN hop hargs (hC.mono ?_)
  rintro e W' ⟨rfl, hb'⟩
  have S' := H.out.below hb'
  exact ⟨v, rfl, hK.out _ _ S' fun _ => h W' ⟨S'⟩⟩
/-- A call that answers v, or stops. -/
theorem gL (i : Nat) (N : Option Tmp) (l' : Array Bool) {f : FuncId} {fn : Func} {args : Array Value} {xs : Array Operand} {ts : Array TypeId} {n : Int} {ch : List PanicEntry} (hf : Tryz.prog.funcs[f]? = some fn) (H : Aside0 (StL g be ev w0 s W))
    (hC : Calls Tryz.prog f args W fun e W' => Below W.heap.size W W' ∧ (n = 0 ∧ e = .returned v ∨ n ≠ 0 ∧ e = .panicked ch))
    (hP : n ≠ 0 → ∀ W', StL g be ev w0 s W' → Q (.panic ch) a W')
    (h : n = 0 → ∀ W', Aside0 (StL g be ev w0 s W') → wpAnyLast Tryz.prog .any ops Q (StL g be ev w0 s) ds fuel l' a' W') (hi : ops[i]? = some oi := by rfl) (hN : oi.dst = N := by rfl) (hop : oi.op = .call { callee := .value (.func f), args := xs, argTypes := ts } := by rfl) (hc : readyB .any ops l l' i = true := by kernel_rfl)
    (hd : i ∉ ds := by decide) (hw : Region.wanted oi (yielded ops a.tmps) = true := by rfl) (hb : fn.body.isSome = true := by rfl) (hname : (fn.name == "runtime.NumGoroutine") = false := by kernel_rfl)
    (hargs : xs.map a.eval = args := by kernel_rfl) (ha : a.put N v = a' := by simp only [Act.put, sA, sB, sC, i64_w, i32_w]; rfl) : wpAnyLast Tryz.prog .any ops Q (StL g be ev w0 s) ds (fuel + 1) l a W := by
  subst ha
  refine one_ l' hi hN hc hd fun K hK => ?_
  have he := enters_ hf hname hb args W
  rw [if_pos hw]
  subst hN
  have hrun : (execOp a.eval oi).run Tryz.prog W = .ok (.enter f args) W := by
    unfold execOp
    simp [hop, resolve, Deferred.ofValue, invoke, Act.eval]
    simpa [hargs] using he
  unfold Oper.wp
  rw [hrun, Oper.upon_enter]
  refine hC.mono ?_
  rintro e W' ⟨hb', ⟨h0, rfl⟩ | ⟨h0, rfl⟩⟩
  · have S' := H.out.below hb'
    exact hK.out _ _ S' fun _ => h h0 W' ⟨S'⟩
  · exact hP h0 W' (H.out.below hb')
/-- A field of the connection is written, last. -/
theorem sL (i : Nat) (l' : Array Bool) {c : Nat} {s' : Ln} {S : World → Prop} (hL : SdL t c v s s') (H : Aside0 (StL g be ev w0 s W)) (h : ∀ W', Aside0 (StL g be ev w0 s' W') → wpAnyLast Tryz.prog .any ops Q S ds fuel l' a W') (hi : ops[i]? = some oi := by rfl) (hN : oi.dst = none := by rfl) (hop : oi.op = .store t (.tmp x) (.tmp y) := by rfl)
    (hx : a.tmps.getD x undef = .pointer (some ⟨g, c, none⟩) := by kernel_rfl) (hy : a.tmps.getD y undef = v := by kernel_rfl) (hw : Region.wanted oi (yielded ops a.tmps) = true := by rfl) (hc : readyB .any ops l l' i = true := by kernel_rfl) (hd : i ∈ ds := by decide) : wpAnyLast Tryz.prog .any ops Q S ds (fuel + 1) l a W := by
  refine last_ (N := none) l' hi hN hc hd fun K hK => ?_
  obtain ⟨W', h1, h2, h3⟩ := hL g W H.out.row
  refine skip_ (w1 := W') hw hN ?_ (hK.out _ _ (h W' ⟨H.out.turn h2 h3⟩))
  have hx' : a.tmps[x]?.getD undef = .pointer (some ⟨g, c, none⟩) := by simpa using hx
  have hy' : a.tmps[y]?.getD undef = v := by simpa using hy
  simp [execOp, hop, Act.eval, hx', hy', h1]
end
theorem ldFlight (s : Ln) : LdL 37 12 (.agg #[.int .i64 s.sent, .int .i64 s.told, .int .i64 s.out]) s := fun g W hA => by
  have hu := Tryz.underlying37
  have z12 := (blk_cell hA 12).trans (show s.cells[12]? = some (.int .i64 s.sent) from rfl); have z13 := (blk_cell hA 13).trans (show s.cells[13]? = some (.int .i64 s.told) from rfl); have z14 := (blk_cell hA 14).trans (show s.cells[14]? = some (.int .i64 s.out) from rfl)
  go_simp
theorem sdFlight (s : Ln) (x0 : Int) (x1 : Int) (x2 : Int) : SdL 37 12 (.agg #[.int .i64 x0, .int .i64 x1, .int .i64 x2]) s { s with sent := x0, told := x1, out := x2 } := fun g W hA => by
  have hu := Tryz.underlying37
  have z12 := (blk_cell hA 12).trans (show s.cells[12]? = some (.int .i64 s.sent) from rfl); have z13 := (blk_cell hA 13).trans (show s.cells[13]? = some (.int .i64 s.told) from rfl); have z14 := (blk_cell hA 14).trans (show s.cells[14]? = some (.int .i64 s.out) from rfl); have f12 := blk_frozen hA 12; have f13 := blk_frozen hA 13; have f14 := blk_frozen hA 14
  exact ⟨(((W.setCell ⟨g, 12, none⟩ (.int .i64 x0)).setCell ⟨g, 13, none⟩ (.int .i64 x1)).setCell ⟨g, 14, none⟩ (.int .i64 x2)), by go_simp, (At.set (t := { s with sent := x0, told := x1, out := x2 }) (At.set (t := { s with sent := x0, told := x1 }) (At.set (t := { s with sent := x0 }) hA 12 (.int .i64 x0)) 13 (.int .i64 x1)) 14 (.int .i64 x2)), ((((Wr.refl g W).set 12 (.int .i64 x0)).set 13 (.int .i64 x1)).set 14 (.int .i64 x2))⟩
theorem ldBucket (s : Ln) : LdL 46 36 (.agg #[.int .i64 s.bat, .int .i64 s.bhave]) s := fun g W hA => by
  have hu := Tryz.underlying46
  have z36 := (blk_cell hA 36).trans (show s.cells[36]? = some (.int .i64 s.bat) from rfl); have z37 := (blk_cell hA 37).trans (show s.cells[37]? = some (.int .i64 s.bhave) from rfl)
  go_simp
theorem sdBucket (s : Ln) (x0 : Int) (x1 : Int) : SdL 46 36 (.agg #[.int .i64 x0, .int .i64 x1]) s { s with bat := x0, bhave := x1 } := fun g W hA => by
  have hu := Tryz.underlying46
  have z36 := (blk_cell hA 36).trans (show s.cells[36]? = some (.int .i64 s.bat) from rfl); have z37 := (blk_cell hA 37).trans (show s.cells[37]? = some (.int .i64 s.bhave) from rfl); have f36 := blk_frozen hA 36; have f37 := blk_frozen hA 37
  exact ⟨((W.setCell ⟨g, 36, none⟩ (.int .i64 x0)).setCell ⟨g, 37, none⟩ (.int .i64 x1)), by go_simp, (At.set (t := { s with bat := x0, bhave := x1 }) (At.set (t := { s with bat := x0 }) hA 36 (.int .i64 x0)) 37 (.int .i64 x1)), (((Wr.refl g W).set 36 (.int .i64 x0)).set 37 (.int .i64 x1))⟩
theorem ldRtt (s : Ln) : LdL 39 15 (.agg #[.bool s.has, .int .i64 s.mean, .int .i64 s.far]) s := fun g W hA => by
  have hu := Tryz.underlying39
  have z15 := (blk_cell hA 15).trans (show s.cells[15]? = some (.bool s.has) from rfl); have z16 := (blk_cell hA 16).trans (show s.cells[16]? = some (.int .i64 s.mean) from rfl); have z17 := (blk_cell hA 17).trans (show s.cells[17]? = some (.int .i64 s.far) from rfl)
  go_simp
theorem sdRtt (s : Ln) (x0 : Bool) (x1 : Int) (x2 : Int) : SdL 39 15 (.agg #[.bool x0, .int .i64 x1, .int .i64 x2]) s { s with has := x0, mean := x1, far := x2 } := fun g W hA => by
  have hu := Tryz.underlying39
  have z15 := (blk_cell hA 15).trans (show s.cells[15]? = some (.bool s.has) from rfl); have z16 := (blk_cell hA 16).trans (show s.cells[16]? = some (.int .i64 s.mean) from rfl); have z17 := (blk_cell hA 17).trans (show s.cells[17]? = some (.int .i64 s.far) from rfl); have f15 := blk_frozen hA 15; have f16 := blk_frozen hA 16; have f17 := blk_frozen hA 17
  exact ⟨(((W.setCell ⟨g, 15, none⟩ (.bool x0)).setCell ⟨g, 16, none⟩ (.int .i64 x1)).setCell ⟨g, 17, none⟩ (.int .i64 x2)), by go_simp, (At.set (t := { s with has := x0, mean := x1, far := x2 }) (At.set (t := { s with has := x0, mean := x1 }) (At.set (t := { s with has := x0 }) hA 15 (.bool x0)) 16 (.int .i64 x1)) 17 (.int .i64 x2)), ((((Wr.refl g W).set 15 (.bool x0)).set 16 (.int .i64 x1)).set 17 (.int .i64 x2))⟩
theorem ldHystart (s : Ln) : LdL 44 21 (.agg #[.int .i64 s.hlast, .int .i64 s.hleast, .int .i64 s.hmany, .bool s.hgentle, .bool s.hdone, .int .i64 s.hbase, .int .i64 s.hrounds]) s := fun g W hA => by
  have hu := Tryz.underlying44
  have z21 := (blk_cell hA 21).trans (show s.cells[21]? = some (.int .i64 s.hlast) from rfl); have z22 := (blk_cell hA 22).trans (show s.cells[22]? = some (.int .i64 s.hleast) from rfl); have z23 := (blk_cell hA 23).trans (show s.cells[23]? = some (.int .i64 s.hmany) from rfl); have z24 := (blk_cell hA 24).trans (show s.cells[24]? = some (.bool s.hgentle) from rfl); have z25 := (blk_cell hA 25).trans (show s.cells[25]? = some (.bool s.hdone) from rfl); have z26 := (blk_cell hA 26).trans (show s.cells[26]? = some (.int .i64 s.hbase) from rfl); have z27 := (blk_cell hA 27).trans (show s.cells[27]? = some (.int .i64 s.hrounds) from rfl)
  go_simp
theorem sdHystart (s : Ln) (x0 : Int) (x1 : Int) (x2 : Int) (x3 : Bool) (x4 : Bool) (x5 : Int) (x6 : Int) : SdL 44 21 (.agg #[.int .i64 x0, .int .i64 x1, .int .i64 x2, .bool x3, .bool x4, .int .i64 x5, .int .i64 x6]) s { s with hlast := x0, hleast := x1, hmany := x2, hgentle := x3, hdone := x4, hbase := x5, hrounds := x6 } := fun g W hA => by
  have hu := Tryz.underlying44
  have z21 := (blk_cell hA 21).trans (show s.cells[21]? = some (.int .i64 s.hlast) from rfl); have z22 := (blk_cell hA 22).trans (show s.cells[22]? = some (.int .i64 s.hleast) from rfl); have z23 := (blk_cell hA 23).trans (show s.cells[23]? = some (.int .i64 s.hmany) from rfl); have z24 := (blk_cell hA 24).trans (show s.cells[24]? = some (.bool s.hgentle) from rfl); have z25 := (blk_cell hA 25).trans (show s.cells[25]? = some (.bool s.hdone) from rfl); have z26 := (blk_cell hA 26).trans (show s.cells[26]? = some (.int .i64 s.hbase) from rfl); have z27 := (blk_cell hA 27).trans (show s.cells[27]? = some (.int .i64 s.hrounds) from rfl); have f21 := blk_frozen hA 21; have f22 := blk_frozen hA 22; have f23 := blk_frozen hA 23; have f24 := blk_frozen hA 24; have f25 := blk_frozen hA 25; have f26 := blk_frozen hA 26; have f27 := blk_frozen hA 27
  exact ⟨(((((((W.setCell ⟨g, 21, none⟩ (.int .i64 x0)).setCell ⟨g, 22, none⟩ (.int .i64 x1)).setCell ⟨g, 23, none⟩ (.int .i64 x2)).setCell ⟨g, 24, none⟩ (.bool x3)).setCell ⟨g, 25, none⟩ (.bool x4)).setCell ⟨g, 26, none⟩ (.int .i64 x5)).setCell ⟨g, 27, none⟩ (.int .i64 x6)), by go_simp, (At.set (t := { s with hlast := x0, hleast := x1, hmany := x2, hgentle := x3, hdone := x4, hbase := x5, hrounds := x6 }) (At.set (t := { s with hlast := x0, hleast := x1, hmany := x2, hgentle := x3, hdone := x4, hbase := x5 }) (At.set (t := { s with hlast := x0, hleast := x1, hmany := x2, hgentle := x3, hdone := x4 }) (At.set (t := { s with hlast := x0, hleast := x1, hmany := x2, hgentle := x3 }) (At.set (t := { s with hlast := x0, hleast := x1, hmany := x2 }) (At.set (t := { s with hlast := x0, hleast := x1 }) (At.set (t := { s with hlast := x0 }) hA 21 (.int .i64 x0)) 22 (.int .i64 x1)) 23 (.int .i64 x2)) 24 (.bool x3)) 25 (.bool x4)) 26 (.int .i64 x5)) 27 (.int .i64 x6)), ((((((((Wr.refl g W).set 21 (.int .i64 x0)).set 22 (.int .i64 x1)).set 23 (.int .i64 x2)).set 24 (.bool x3)).set 25 (.bool x4)).set 26 (.int .i64 x5)).set 27 (.int .i64 x6))⟩
theorem ldRound (s : Ln) : LdL 42 19 (.agg #[.int .i64 s.rid, .int .i64 s.rend]) s := fun g W hA => by
  have hu := Tryz.underlying42
  have z19 := (blk_cell hA 19).trans (show s.cells[19]? = some (.int .i64 s.rid) from rfl); have z20 := (blk_cell hA 20).trans (show s.cells[20]? = some (.int .i64 s.rend) from rfl)
  go_simp
theorem sdRound (s : Ln) (x0 : Int) (x1 : Int) : SdL 42 19 (.agg #[.int .i64 x0, .int .i64 x1]) s { s with rid := x0, rend := x1 } := fun g W hA => by
  have hu := Tryz.underlying42
  have z19 := (blk_cell hA 19).trans (show s.cells[19]? = some (.int .i64 s.rid) from rfl); have z20 := (blk_cell hA 20).trans (show s.cells[20]? = some (.int .i64 s.rend) from rfl); have f19 := blk_frozen hA 19; have f20 := blk_frozen hA 20
  exact ⟨((W.setCell ⟨g, 19, none⟩ (.int .i64 x0)).setCell ⟨g, 20, none⟩ (.int .i64 x1)), by go_simp, (At.set (t := { s with rid := x0, rend := x1 }) (At.set (t := { s with rid := x0 }) hA 19 (.int .i64 x0)) 20 (.int .i64 x1)), (((Wr.refl g W).set 19 (.int .i64 x0)).set 20 (.int .i64 x1))⟩
theorem ldEpoch (s : Ln) : LdL 25 28 (.agg #[.bool s.eon, .int .i64 s.estart, .int .i64 s.efirst, .int .i64 s.emax, .int .i64 s.ek, .int .i64 s.eest]) s := fun g W hA => by
  have hu := Tryz.underlying25
  have z28 := (blk_cell hA 28).trans (show s.cells[28]? = some (.bool s.eon) from rfl); have z29 := (blk_cell hA 29).trans (show s.cells[29]? = some (.int .i64 s.estart) from rfl); have z30 := (blk_cell hA 30).trans (show s.cells[30]? = some (.int .i64 s.efirst) from rfl); have z31 := (blk_cell hA 31).trans (show s.cells[31]? = some (.int .i64 s.emax) from rfl); have z32 := (blk_cell hA 32).trans (show s.cells[32]? = some (.int .i64 s.ek) from rfl); have z33 := (blk_cell hA 33).trans (show s.cells[33]? = some (.int .i64 s.eest) from rfl)
  go_simp
theorem sdEpoch (s : Ln) (x0 : Bool) (x1 : Int) (x2 : Int) (x3 : Int) (x4 : Int) (x5 : Int) : SdL 25 28 (.agg #[.bool x0, .int .i64 x1, .int .i64 x2, .int .i64 x3, .int .i64 x4, .int .i64 x5]) s { s with eon := x0, estart := x1, efirst := x2, emax := x3, ek := x4, eest := x5 } := fun g W hA => by
  have hu := Tryz.underlying25
  have z28 := (blk_cell hA 28).trans (show s.cells[28]? = some (.bool s.eon) from rfl); have z29 := (blk_cell hA 29).trans (show s.cells[29]? = some (.int .i64 s.estart) from rfl); have z30 := (blk_cell hA 30).trans (show s.cells[30]? = some (.int .i64 s.efirst) from rfl); have z31 := (blk_cell hA 31).trans (show s.cells[31]? = some (.int .i64 s.emax) from rfl); have z32 := (blk_cell hA 32).trans (show s.cells[32]? = some (.int .i64 s.ek) from rfl); have z33 := (blk_cell hA 33).trans (show s.cells[33]? = some (.int .i64 s.eest) from rfl); have f28 := blk_frozen hA 28; have f29 := blk_frozen hA 29; have f30 := blk_frozen hA 30; have f31 := blk_frozen hA 31; have f32 := blk_frozen hA 32; have f33 := blk_frozen hA 33
  exact ⟨((((((W.setCell ⟨g, 28, none⟩ (.bool x0)).setCell ⟨g, 29, none⟩ (.int .i64 x1)).setCell ⟨g, 30, none⟩ (.int .i64 x2)).setCell ⟨g, 31, none⟩ (.int .i64 x3)).setCell ⟨g, 32, none⟩ (.int .i64 x4)).setCell ⟨g, 33, none⟩ (.int .i64 x5)), by go_simp, (At.set (t := { s with eon := x0, estart := x1, efirst := x2, emax := x3, ek := x4, eest := x5 }) (At.set (t := { s with eon := x0, estart := x1, efirst := x2, emax := x3, ek := x4 }) (At.set (t := { s with eon := x0, estart := x1, efirst := x2, emax := x3 }) (At.set (t := { s with eon := x0, estart := x1, efirst := x2 }) (At.set (t := { s with eon := x0, estart := x1 }) (At.set (t := { s with eon := x0 }) hA 28 (.bool x0)) 29 (.int .i64 x1)) 30 (.int .i64 x2)) 31 (.int .i64 x3)) 32 (.int .i64 x4)) 33 (.int .i64 x5)), (((((((Wr.refl g W).set 28 (.bool x0)).set 29 (.int .i64 x1)).set 30 (.int .i64 x2)).set 31 (.int .i64 x3)).set 32 (.int .i64 x4)).set 33 (.int .i64 x5))⟩
theorem ldConfig (s : Ln) : LdL 33 0 (.agg #[.int .i64 s.seg, .int .i64 s.mx, .int .i64 s.fst, .int .i64 s.grain, .int .i64 s.least, .int .i64 s.great, .int .i64 s.burst]) s := fun g W hA => by
  have hu := Tryz.underlying33
  have z0 := (blk_cell hA 0).trans (show s.cells[0]? = some (.int .i64 s.seg) from rfl); have z1 := (blk_cell hA 1).trans (show s.cells[1]? = some (.int .i64 s.mx) from rfl); have z2 := (blk_cell hA 2).trans (show s.cells[2]? = some (.int .i64 s.fst) from rfl); have z3 := (blk_cell hA 3).trans (show s.cells[3]? = some (.int .i64 s.grain) from rfl); have z4 := (blk_cell hA 4).trans (show s.cells[4]? = some (.int .i64 s.least) from rfl); have z5 := (blk_cell hA 5).trans (show s.cells[5]? = some (.int .i64 s.great) from rfl); have z6 := (blk_cell hA 6).trans (show s.cells[6]? = some (.int .i64 s.burst) from rfl)
  go_simp
theorem ldMarks (s : Ln) : LdL 40 18 (s.lv) s := fun g W hA => by
  have z18 := (blk_cell hA 18).trans (show s.cells[18]? = some (s.lv) from rfl)
  go_simp
theorem sdMarks (s : Ln) (A : Option Addr) (n c : Nat) : SdL 40 18 (.slice A n c) s { s with lv := .slice A n c } := fun g W hA => by
  have z18 := (blk_cell hA 18).trans (show s.cells[18]? = some s.lv from rfl); have f18 := blk_frozen hA 18
  exact ⟨(W.setCell ⟨g, 18, none⟩ (.slice A n c)), by go_simp, At.set (t := { s with lv := .slice A n c }) hA 18 (.slice A n c), (Wr.refl g W).set 18 (.slice A n c)⟩
section
variable {ops : Array Oper} {Q : Exit → Act → World → Prop} {ds : List Nat} {fuel : Nat} {l : Array Bool} {a a' : Act} {W : World} {S : World → Prop}
theorem putGet {n : Tmp} {v : Value} (h : n < a.tmps.size) : (a.put (some n) v).tmps.getD n undef = v := by simp [Act.put, h]
theorem putSize {n : Tmp} {v : Value} : (a.put (some n) v).tmps.size = a.tmps.size := by simp [Act.put]
/-- What a step by the way does not change. -/
def QP (Q : Exit → Act → World → Prop) : Prop := ∀ (c : List PanicEntry) (d : Tmp) (v : Value) (a : Act) (w : World), Q (.panic c) (a.put (some d) v) w → Q (.panic c) a w
theorem pV {o : Oper} {n : Tmp} {v : Value} (i : Nat) (l1 : Array Bool) (hi : ops[i]? = some o) (hn : o.dst = some n) (hg : o.guard = none) (hc : anyB .any ops l l1 i = true) (hQ : QP Q) (hy : ∀ W, (execOp a.eval o).run Tryz.prog W = .ok (.value v) W)
    (h : wpAnyLast Tryz.prog .any ops Q S ds fuel l1 (a.put (some n) v) W) : wpAnyLast Tryz.prog .any ops Q S ds (fuel + 1) l a W :=
  pure_ l1 hi hn hc (fun c a w => by rw [hn]; exact hQ c n v a w) (.inl ⟨by simp [Region.wanted, hg], hy⟩) rfl h
theorem y_move {o : Oper} {x : Operand} {v : Value} (hop : o.op = .move x) (hx : a.eval x = v) (W : World) : (execOp a.eval o).run Tryz.prog W = .ok (.value v) W := by simp [execOp, hop, hx]
theorem y_nil {o : Oper} {x : Operand} {p : Addr} (hop : o.op = .nilCheck x) (hx : a.eval x = .pointer (some p)) (W : World) : (execOp a.eval o).run Tryz.prog W = .ok (.value (.pointer (some p))) W := by simp [execOp, hop, hx]
theorem y_field {o : Oper} {x : Operand} {t : TypeId} {k : Nat} {p v : Value} (hop : o.op = .fieldAddr t x k) (hx : a.eval x = p) (hk : ∀ W, (Instr.fieldAt t p k).run Tryz.prog W = .ok v W) (W : World) : (execOp a.eval o).run Tryz.prog W = .ok (.value v) W := by simp [execOp, hop, hx, hk]
theorem f83 (g : Nat) (W : World) : (Instr.fieldAt 83 (.pointer (some ⟨g, 0, none⟩)) 0).run Tryz.prog W = .ok (.pointer (some ⟨g, 0, none⟩)) W := by kernel_rfl
end
section
variable {ops : Array Oper} {Q : Exit → Act → World → Prop} {ds : List Nat} {fuel : Nat} {l : Array Bool} {a a' : Act} {W : World} {g : Nat} {be : Option Nat} {ev : Array Value} {w0 : World} {s : Ln} {v : Value} {t : TypeId} {N : Option Tmp} {o0 o1 o2 o3 o4 : Oper} {n0 : Tmp}
/-- The way to a field of the connection, that is written later. -/
theorem nL (i : Nat) (n1 n2 n3 : Tmp) (l' : Array Bool) (k c : Nat) (h : wpAnyLast Tryz.prog .any ops Q (StL g be ev w0 s) ds fuel l' a' W)
    (h1 : ops[i]? = some o1 := by rfl) (h2 : ops[i + 1]? = some o2 := by rfl) (h3 : ops[i + 2]? = some o3 := by rfl)
    (p1 : o1.op = .nilCheck (.tmp n0) := by rfl) (p2 : o2.op = .fieldAddr 83 (.tmp n1) 0 := by rfl) (p3 : o3.op = .fieldAddr 48 (.tmp n2) k := by rfl)
    (d1 : o1.dst = some n1 := by rfl) (d2 : o2.dst = some n2 := by rfl) (d3 : o3.dst = some n3 := by rfl) (g1 : o1.guard = none := by rfl) (g2 : o2.guard = none := by rfl) (g3 : o3.guard = none := by rfl)
    (hx : a.tmps.getD n0 undef = .pointer (some ⟨g, 0, none⟩) := by kernel_rfl) (hz : (decide (n1 < a.tmps.size) && decide (n2 < a.tmps.size)) = true := by kernel_rfl)
    (hk : ∀ (g : Nat) (W : World), (Instr.fieldAt 48 (.pointer (some ⟨g, 0, none⟩)) k).run Tryz.prog W = .ok (.pointer (some ⟨g, c, none⟩)) W := by intro g W; kernel_rfl)
    (hc : (anyB .any ops l (l.setIfInBounds i true) i && anyB .any ops (l.setIfInBounds i true) ((l.setIfInBounds i true).setIfInBounds (i + 1) true) (i + 1) && anyB .any ops ((l.setIfInBounds i true).setIfInBounds (i + 1) true) l' (i + 2)) = true := by kernel_rfl)
    (hQ : QP Q := by exact fun _ _ _ _ _ h => h)
    (ha : ((a.put (some n1) (.pointer (some ⟨g, 0, none⟩))).put (some n2) (.pointer (some ⟨g, 0, none⟩))).put (some n3) (.pointer (some ⟨g, c, none⟩)) = a' := by simp only [Act.put, sA, sB, sC]; rfl) :
    wpAnyLast Tryz.prog .any ops Q (StL g be ev w0 s) ds (fuel + 3) l a W := by
  simp only [Bool.and_eq_true, decide_eq_true_eq] at hc hz
  subst ha
  exact pV i _ h1 d1 g1 hc.1.1 hQ (y_nil p1 (ev_tmp hx)) (pV (i + 1) _ h2 d2 g2 hc.1.2 hQ (y_field p2 (ev_tmp (putGet hz.1)) (f83 g)) (pV (i + 2) _ h3 d3 g3 hc.2 hQ (y_field p3 (ev_tmp (putGet (by rw [putSize]; exact hz.2))) (hk g)) h))
/-- A field of the connection, from slot l on. -/
theorem fL (i : Nat) (n0 n1 n2 n3 m : Tmp) (l' : Array Bool) (k : Nat) {c : Nat} (hL : LdL t c v s) (H : Aside0 (StL g be ev w0 s W)) (h : wpAnyLast Tryz.prog .any ops Q (StL g be ev w0 s) ds fuel l' a' W)
    (h0 : ops[i]? = some o0 := by rfl) (h1 : ops[i + 1]? = some o1 := by rfl) (h2 : ops[i + 2]? = some o2 := by rfl) (h3 : ops[i + 3]? = some o3 := by rfl) (h4 : ops[i + 4]? = some o4 := by rfl)
    (p0 : o0.op = .move (.tmp 0) := by rfl) (p1 : o1.op = .nilCheck (.tmp n0) := by rfl) (p2 : o2.op = .fieldAddr 83 (.tmp n1) 0 := by rfl) (p3 : o3.op = .fieldAddr 48 (.tmp n2) k := by rfl) (p4 : o4.op = .load t (.tmp n3) := by rfl)
    (d0 : o0.dst = some n0 := by rfl) (d1 : o1.dst = some n1 := by rfl) (d2 : o2.dst = some n2 := by rfl) (d3 : o3.dst = some n3 := by rfl) (d4 : o4.dst = some m := by rfl)
    (g0 : o0.guard = none := by rfl) (g1 : o1.guard = none := by rfl) (g2 : o2.guard = none := by rfl) (g3 : o3.guard = none := by rfl) (g4 : o4.guard = none := by rfl)
    (hx : a.tmps.getD 0 undef = .pointer (some ⟨g, 0, none⟩) := by kernel_rfl) (hz : (decide (n0 < a.tmps.size) && decide (n1 < a.tmps.size) && decide (n2 < a.tmps.size) && decide (n3 < a.tmps.size)) = true := by kernel_rfl)
    (hk : ∀ (g : Nat) (W : World), (Instr.fieldAt 48 (.pointer (some ⟨g, 0, none⟩)) k).run Tryz.prog W = .ok (.pointer (some ⟨g, c, none⟩)) W := by intro g W; kernel_rfl)
    (hc : (anyB .any ops l (l.setIfInBounds i true) i && anyB .any ops (l.setIfInBounds i true) ((l.setIfInBounds i true).setIfInBounds (i + 1) true) (i + 1) && anyB .any ops ((l.setIfInBounds i true).setIfInBounds (i + 1) true) (((l.setIfInBounds i true).setIfInBounds (i + 1) true).setIfInBounds (i + 2) true) (i + 2)
      && anyB .any ops (((l.setIfInBounds i true).setIfInBounds (i + 1) true).setIfInBounds (i + 2) true) ((((l.setIfInBounds i true).setIfInBounds (i + 1) true).setIfInBounds (i + 2) true).setIfInBounds (i + 3) true) (i + 3)
      && takeB .any ops ds ((((l.setIfInBounds i true).setIfInBounds (i + 1) true).setIfInBounds (i + 2) true).setIfInBounds (i + 3) true) l' (i + 4)) = true := by kernel_rfl)
    (hQ : QP Q := by exact fun _ _ _ _ _ h => h)
    (ha : ((((a.put (some n0) (.pointer (some ⟨g, 0, none⟩))).put (some n1) (.pointer (some ⟨g, 0, none⟩))).put (some n2) (.pointer (some ⟨g, 0, none⟩))).put (some n3) (.pointer (some ⟨g, c, none⟩))).put (some m) v = a' := by simp only [Act.put, sA, sB, sC]; rfl) :
    wpAnyLast Tryz.prog .any ops Q (StL g be ev w0 s) ds (fuel + 5) l a W := by
  simp only [Bool.and_eq_true, decide_eq_true_eq] at hc hz
  subst ha
  refine pV i _ h0 d0 g0 hc.1.1.1.1 hQ (y_move p0 (ev_tmp hx)) (pV (i + 1) _ h1 d1 g1 hc.1.1.1.2 hQ (y_nil p1 (ev_tmp (putGet hz.1.1.1))) (pV (i + 2) _ h2 d2 g2 hc.1.1.2 hQ (y_field p2 (ev_tmp (putGet (by rw [putSize]; exact hz.1.1.2))) (f83 g))
    (pV (i + 3) _ h3 d3 g3 hc.1.2 hQ (y_field p3 (ev_tmp (putGet (by rw [putSize, putSize]; exact hz.1.2))) (hk g)) ?_)))
  exact take_ l' h4 d4 hc.2 (fun c a w => by rw [d4]; exact hQ c m v a w) (.inl ⟨by simp [Region.wanted, g4], fun w hS => y_load p4 (ev_tmp (putGet (by rw [putSize, putSize, putSize]; exact hz.2))) (hL g w hS.row)⟩) H.out rfl h
/-- A field of the connection, a part of a part. -/
theorem fM (i : Nat) (n0 n1 n2 n3 n4 m : Tmp) (l' : Array Bool) (k c1 T j : Nat) {c : Nat} {o5 : Oper} (hL : LdL t c v s) (H : Aside0 (StL g be ev w0 s W)) (h : wpAnyLast Tryz.prog .any ops Q (StL g be ev w0 s) ds fuel l' a' W)
    (h0 : ops[i]? = some o0 := by rfl) (h1 : ops[i + 1]? = some o1 := by rfl) (h2 : ops[i + 2]? = some o2 := by rfl) (h3 : ops[i + 3]? = some o3 := by rfl) (h4 : ops[i + 4]? = some o4 := by rfl) (h5 : ops[i + 5]? = some o5 := by rfl)
    (p0 : o0.op = .move (.tmp 0) := by rfl) (p1 : o1.op = .nilCheck (.tmp n0) := by rfl) (p2 : o2.op = .fieldAddr 83 (.tmp n1) 0 := by rfl) (p3 : o3.op = .fieldAddr 48 (.tmp n2) k := by rfl) (p4 : o4.op = .fieldAddr T (.tmp n3) j := by rfl) (p5 : o5.op = .load t (.tmp n4) := by rfl)
    (d0 : o0.dst = some n0 := by rfl) (d1 : o1.dst = some n1 := by rfl) (d2 : o2.dst = some n2 := by rfl) (d3 : o3.dst = some n3 := by rfl) (d4 : o4.dst = some n4 := by rfl) (d5 : o5.dst = some m := by rfl)
    (g0 : o0.guard = none := by rfl) (g1 : o1.guard = none := by rfl) (g2 : o2.guard = none := by rfl) (g3 : o3.guard = none := by rfl) (g4 : o4.guard = none := by rfl) (g5 : o5.guard = none := by rfl)
    (hx : a.tmps.getD 0 undef = .pointer (some ⟨g, 0, none⟩) := by kernel_rfl) (hz : (decide (n0 < a.tmps.size) && decide (n1 < a.tmps.size) && decide (n2 < a.tmps.size) && decide (n3 < a.tmps.size) && decide (n4 < a.tmps.size)) = true := by kernel_rfl)
    (hk : ∀ (g : Nat) (W : World), (Instr.fieldAt 48 (.pointer (some ⟨g, 0, none⟩)) k).run Tryz.prog W = .ok (.pointer (some ⟨g, c1, none⟩)) W := by intro g W; kernel_rfl) (hk2 : ∀ (g : Nat) (W : World), (Instr.fieldAt T (.pointer (some ⟨g, c1, none⟩)) j).run Tryz.prog W = .ok (.pointer (some ⟨g, c, none⟩)) W := by intro g W; kernel_rfl)
    (hc : (anyB .any ops l (l.setIfInBounds i true) i && anyB .any ops (l.setIfInBounds i true) ((l.setIfInBounds i true).setIfInBounds (i + 1) true) (i + 1) && anyB .any ops ((l.setIfInBounds i true).setIfInBounds (i + 1) true) (((l.setIfInBounds i true).setIfInBounds (i + 1) true).setIfInBounds (i + 2) true) (i + 2)
      && anyB .any ops (((l.setIfInBounds i true).setIfInBounds (i + 1) true).setIfInBounds (i + 2) true) ((((l.setIfInBounds i true).setIfInBounds (i + 1) true).setIfInBounds (i + 2) true).setIfInBounds (i + 3) true) (i + 3)
      && anyB .any ops ((((l.setIfInBounds i true).setIfInBounds (i + 1) true).setIfInBounds (i + 2) true).setIfInBounds (i + 3) true) (((((l.setIfInBounds i true).setIfInBounds (i + 1) true).setIfInBounds (i + 2) true).setIfInBounds (i + 3) true).setIfInBounds (i + 4) true) (i + 4)
      && takeB .any ops ds (((((l.setIfInBounds i true).setIfInBounds (i + 1) true).setIfInBounds (i + 2) true).setIfInBounds (i + 3) true).setIfInBounds (i + 4) true) l' (i + 5)) = true := by kernel_rfl)
    (hQ : QP Q := by exact fun _ _ _ _ _ h => h)
    (ha : (((((a.put (some n0) (.pointer (some ⟨g, 0, none⟩))).put (some n1) (.pointer (some ⟨g, 0, none⟩))).put (some n2) (.pointer (some ⟨g, 0, none⟩))).put (some n3) (.pointer (some ⟨g, c1, none⟩))).put (some n4) (.pointer (some ⟨g, c, none⟩))).put (some m) v = a' := by simp only [Act.put, sA, sB, sC]; rfl) :
    wpAnyLast Tryz.prog .any ops Q (StL g be ev w0 s) ds (fuel + 6) l a W := by
  simp only [Bool.and_eq_true, decide_eq_true_eq] at hc hz
  subst ha
  refine pV i _ h0 d0 g0 hc.1.1.1.1.1 hQ (y_move p0 (ev_tmp hx)) (pV (i + 1) _ h1 d1 g1 hc.1.1.1.1.2 hQ (y_nil p1 (ev_tmp (putGet hz.1.1.1.1))) (pV (i + 2) _ h2 d2 g2 hc.1.1.1.2 hQ (y_field p2 (ev_tmp (putGet (by rw [putSize]; exact hz.1.1.1.2))) (f83 g))
    (pV (i + 3) _ h3 d3 g3 hc.1.1.2 hQ (y_field p3 (ev_tmp (putGet (by rw [putSize, putSize]; exact hz.1.1.2))) (hk g)) (pV (i + 4) _ h4 d4 g4 hc.1.2 hQ (y_field p4 (ev_tmp (putGet (by rw [putSize, putSize, putSize]; exact hz.1.2))) (hk2 g)) ?_))))
  exact take_ l' h5 d5 hc.2 (fun c a w => by rw [d5]; exact hQ c m v a w) (.inl ⟨by simp [Region.wanted, g5], fun w hS => y_load p5 (ev_tmp (putGet (by rw [putSize, putSize, putSize, putSize]; exact hz.2))) (hL g w hS.row)⟩) H.out rfl h
/-- A number of the event. -/
theorem eL (i : Nat) (n0 m : Tmp) (l' : Array Bool) {b c : Nat} {x : Tmp} (hL : LdE t c v ev) (H : Aside0 (StL g (some b) ev w0 s W)) (h : wpAnyLast Tryz.prog .any ops Q (StL g (some b) ev w0 s) ds fuel l' a' W)
    (h0 : ops[i]? = some o0 := by rfl) (h1 : ops[i + 1]? = some o1 := by rfl) (p0 : o0.op = .fieldAddr 52 (.tmp x) c := by rfl) (p1 : o1.op = .load t (.tmp n0) := by rfl)
    (d0 : o0.dst = some n0 := by rfl) (d1 : o1.dst = some m := by rfl) (g0 : o0.guard = none := by rfl) (g1 : o1.guard = none := by rfl)
    (hx : a.tmps.getD x undef = .pointer (some ⟨b, 0, none⟩) := by kernel_rfl) (hz : decide (n0 < a.tmps.size) = true := by kernel_rfl)
    (hk : ∀ (g : Nat) (W : World), (Instr.fieldAt 52 (.pointer (some ⟨g, 0, none⟩)) c).run Tryz.prog W = .ok (.pointer (some ⟨g, c, none⟩)) W := by intro g W; kernel_rfl)
    (hc : (anyB .any ops l (l.setIfInBounds i true) i && takeB .any ops ds (l.setIfInBounds i true) l' (i + 1)) = true := by kernel_rfl) (hQ : QP Q := by exact fun _ _ _ _ _ h => h)
    (ha : (a.put (some n0) (.pointer (some ⟨b, c, none⟩))).put (some m) v = a' := by simp only [Act.put, sA, sB, sC]; rfl) : wpAnyLast Tryz.prog .any ops Q (StL g (some b) ev w0 s) ds (fuel + 2) l a W := by
  simp only [Bool.and_eq_true, decide_eq_true_eq] at hc hz
  subst ha
  exact pV i _ h0 d0 g0 hc.1 hQ (y_field p0 (ev_tmp hx) (hk b)) (take_ l' h1 d1 hc.2 (fun c a w => by rw [d1]; exact hQ c m v a w) (.inl ⟨by simp [Region.wanted, g1], fun w hS => y_load p1 (ev_tmp (putGet hz)) (hL b w (hS.box b rfl).1)⟩) H.out rfl h)
end
section
variable {ops : Array Oper} {rest : List Oper} {Q : Exit → Act → World → Prop} {a : Act} {W : World} {g : Nat} {be : Option Nat} {ev : Array Value} {w0 : World} {s s' : Ln} {v : Value} {o : Oper} {c : Nat}
/-- A field is written, in a region that does not draw. -/
theorem stW (t : TypeId) (x : Tmp) (y : Operand) (hL : SdL t c v s s') (H : Aside0 (StL g be ev w0 s W)) (h : ∀ W', Aside0 (StL g be ev w0 s' W') → wpList Tryz.prog ops Q rest a W') (hop : o.op = .store t (.tmp x) y := by rfl) (hg : o.guard = none := by rfl) (hd : o.dst = none := by rfl)
    (hx : a.tmps.getD x undef = .pointer (some ⟨g, c, none⟩) := by kernel_rfl) (hy : a.eval y = v := by kernel_rfl) : wpList Tryz.prog ops Q (o :: rest) a W := by
  refine wpList_plain hg fun K hK => ?_
  obtain ⟨W', h1, h2, h3⟩ := hL g W H.out.row
  have hr : (execOp a.eval o).run Tryz.prog W = .ok .skip W' := by simp [execOp, hop, ev_tmp hx, hy, h1]
  unfold Oper.wp
  rw [hr, Oper.upon_skip, hd]
  exact hK _ _ (h W' ⟨H.out.turn h2 h3⟩)
/-- A field is read, in a region that does not draw. -/
theorem ldW (t : TypeId) (x n : Tmp) (hL : LdL t c v s) (H : Aside0 (StL g be ev w0 s W)) (h : wpList Tryz.prog ops Q rest (a.put (some n) v) W) (hop : o.op = .load t (.tmp x) := by rfl) (hg : o.guard = none := by rfl) (hd : o.dst = some n := by rfl)
    (hx : a.tmps.getD x undef = .pointer (some ⟨g, c, none⟩) := by kernel_rfl) : wpList Tryz.prog ops Q (o :: rest) a W := by
  refine wpList_plain hg fun K hK => ?_
  unfold Oper.wp
  rw [y_load hop (ev_tmp hx) (hL g W H.out.row), Oper.upon_value, hd]
  exact hK _ _ h
end
/-- What a stop says. -/
def erL (n : Int) : List PanicEntry := [{ v := .iface 26 (.int .i64 n), recovered := false }]
theorem must_w (n : Int) (w : World) : Calls Tryz.prog 31 #[.int .i64 n] w fun e w' => w' = w ∧ (n = 0 ∧ e = .returned (.tuple #[]) ∨ n ≠ 0 ∧ e = .panicked (erL n)) := by
  by_cases h : n = 0
  · subst h
    go_enter Tryz.func31, Tryz.ntmps31
    go_wp2
    go_end0
    exact ⟨rfl, .inl ⟨by simp, rfl⟩⟩
  · have c : (n != 0) = true := bne_iff_ne.mpr h
    have H := Aside0.mk h
    clear h
    go_enter Tryz.func31, Tryz.ntmps31
    go_wp2
    exact ⟨rfl, by simp, .inr ⟨H.out, rfl⟩⟩
theorem got_int (v : Value) (n : Int) (w : World) : Calls Tryz.prog 32 #[v, .int .i64 n] w fun e w' => w' = w ∧ (n = 0 ∧ e = .returned v ∨ n ≠ 0 ∧ e = .panicked (erL n)) := by
  go_enter Tryz.func32, Tryz.ntmps32
  go_wp2_with (first | (go_at_call 31; refine (must_w n _).mono ?_; rintro e w' ⟨rfl, ⟨h0, rfl⟩ | ⟨h0, rfl⟩⟩ <;> have H0 := Aside0.mk h0 <;> clear h0) | fail)
  · go_ret
    exact ⟨rfl, .inl ⟨H0.out, rfl⟩⟩
  · exact ⟨rfl, by simp, .inr ⟨H0.out, rfl⟩⟩
theorem got_marks (v : Value) (n : Int) (w : World) : Calls Tryz.prog 135 #[v, .int .i64 n] w fun e w' => w' = w ∧ (n = 0 ∧ e = .returned v ∨ n ≠ 0 ∧ e = .panicked (erL n)) := by
  go_enter Tryz.func135, Tryz.ntmps135
  go_wp2_with (first | (go_at_call 31; refine (must_w n _).mono ?_; rintro e w' ⟨rfl, ⟨h0, rfl⟩ | ⟨h0, rfl⟩⟩ <;> have H0 := Aside0.mk h0 <;> clear h0) | fail)
  · go_ret
    exact ⟨rfl, .inl ⟨H0.out, rfl⟩⟩
  · exact ⟨rfl, by simp, .inr ⟨H0.out, rfl⟩⟩
theorem got_bucket (x0 : Int) (x1 : Int) (n : Int) (w : World) : Calls Tryz.prog 34 #[.agg #[.int .i64 x0, .int .i64 x1], .int .i64 n] w fun e w' => Below w.heap.size w w' ∧ (n = 0 ∧ e = .returned (.agg #[.int .i64 x0, .int .i64 x1]) ∨ n ≠ 0 ∧ e = .panicked (erL n)) := by
  have HB := Aside0.mk (Below.refl w.heap.size w)
  go_enter Tryz.func34, Tryz.ntmps34
  go_wp2_with (first
    | ((with_reducible refine gate_dst (N := 2) rfl ?_); refine new_box rfl 46 (.tmp 0) rfl (some 2) rfl #[.int .i64 x0, .int .i64 x1] rfl (by kernel_rfl) ?_; intro b2 hg wb hbox hb; have B2 := Aside0.mk hbox; obtain ⟨G2, nHB⟩ := geA hg hb; replace HB := nHB; clear nHB hg hb hbox)
    | ((with_reducible refine gate_dst (N := 4) rfl ?_); refine new_var rfl 46 rfl (some 4) rfl #[.int .i64 0, .int .i64 0] (by kernel_rfl) ?_; intro b4 hg wb hbox hb; have B4 := Aside0.mk hbox; obtain ⟨G4, nHB⟩ := geA hg hb; obtain ⟨N1, N2, nB⟩ := nbA B2 hg hb; replace B2 := nB; replace HB := nHB; clear nB nHB hg hb hbox)
    | (go_at_call 31; refine (must_w n _).mono ?_; rintro e w' ⟨rfl, ⟨h0, rfl⟩ | ⟨h0, rfl⟩⟩ <;> have H0 := Aside0.mk h0 <;> clear h0)
    | ((with_reducible refine gate_dst (N := 7) rfl ?_); refine wpList_load_row rfl 46 (.tmp 2) rfl b2 rfl 46 #[.int .i64 x0, .int .i64 x1] (0, 0) _ B2.out Tryz.underlying46 rfl (by kernel_rfl) ?_)
    | (refine put_row rfl 46 (.tmp 4) (.tmp 7) rfl rfl b4 #[.int .i64 x0, .int .i64 x1] rfl rfl 46 #[.int .i64 0, .int .i64 0] B4.out (by kernel_rfl) rfl (by simp [Value.oneCell']) ?_; intro wz hbz hwz; have BZ := Aside0.mk hbz; replace HB := Aside0.mk (hwz.to_below HB.out G4.out HB.out.size); clear hbz hwz)
    | fail)
  · refine bodyPost_ret (results_cell_row (fn := Tryz.f34) (p := 4) (ty := 46) rfl _ _ b4 46 #[.int .i64 x0, .int .i64 x1] (0, 0) _ rfl BZ.out Tryz.underlying46 rfl (by kernel_rfl)) rfl ⟨HB.out, .inl ⟨H0.out, rfl⟩⟩
  · exact ⟨rfl, HB.out, .inr ⟨H0.out, rfl⟩⟩
theorem got_flight (x0 : Int) (x1 : Int) (x2 : Int) (n : Int) (w : World) : Calls Tryz.prog 79 #[.agg #[.int .i64 x0, .int .i64 x1, .int .i64 x2], .int .i64 n] w fun e w' => Below w.heap.size w w' ∧ (n = 0 ∧ e = .returned (.agg #[.int .i64 x0, .int .i64 x1, .int .i64 x2]) ∨ n ≠ 0 ∧ e = .panicked (erL n)) := by
  have HB := Aside0.mk (Below.refl w.heap.size w)
  go_enter Tryz.func79, Tryz.ntmps79
  go_wp2_with (first
    | ((with_reducible refine gate_dst (N := 2) rfl ?_); refine new_box rfl 37 (.tmp 0) rfl (some 2) rfl #[.int .i64 x0, .int .i64 x1, .int .i64 x2] rfl (by kernel_rfl) ?_; intro b2 hg wb hbox hb; have B2 := Aside0.mk hbox; obtain ⟨G2, nHB⟩ := geA hg hb; replace HB := nHB; clear nHB hg hb hbox)
    | ((with_reducible refine gate_dst (N := 4) rfl ?_); refine new_var rfl 37 rfl (some 4) rfl #[.int .i64 0, .int .i64 0, .int .i64 0] (by kernel_rfl) ?_; intro b4 hg wb hbox hb; have B4 := Aside0.mk hbox; obtain ⟨G4, nHB⟩ := geA hg hb; obtain ⟨N1, N2, nB⟩ := nbA B2 hg hb; replace B2 := nB; replace HB := nHB; clear nB nHB hg hb hbox)
    | (go_at_call 31; refine (must_w n _).mono ?_; rintro e w' ⟨rfl, ⟨h0, rfl⟩ | ⟨h0, rfl⟩⟩ <;> have H0 := Aside0.mk h0 <;> clear h0)
    | ((with_reducible refine gate_dst (N := 7) rfl ?_); refine wpList_load_row rfl 37 (.tmp 2) rfl b2 rfl 37 #[.int .i64 x0, .int .i64 x1, .int .i64 x2] (0, 0) _ B2.out Tryz.underlying37 rfl (by kernel_rfl) ?_)
    | (refine put_row rfl 37 (.tmp 4) (.tmp 7) rfl rfl b4 #[.int .i64 x0, .int .i64 x1, .int .i64 x2] rfl rfl 37 #[.int .i64 0, .int .i64 0, .int .i64 0] B4.out (by kernel_rfl) rfl (by simp [Value.oneCell']) ?_; intro wz hbz hwz; have BZ := Aside0.mk hbz; replace HB := Aside0.mk (hwz.to_below HB.out G4.out HB.out.size); clear hbz hwz)
    | fail)
  · refine bodyPost_ret (results_cell_row (fn := Tryz.f79) (p := 4) (ty := 37) rfl _ _ b4 37 #[.int .i64 x0, .int .i64 x1, .int .i64 x2] (0, 0) _ rfl BZ.out Tryz.underlying37 rfl (by kernel_rfl)) rfl ⟨HB.out, .inl ⟨H0.out, rfl⟩⟩
  · exact ⟨rfl, HB.out, .inr ⟨H0.out, rfl⟩⟩
theorem got_rtt (x0 : Bool) (x1 : Int) (x2 : Int) (n : Int) (w : World) : Calls Tryz.prog 133 #[.agg #[.bool x0, .int .i64 x1, .int .i64 x2], .int .i64 n] w fun e w' => Below w.heap.size w w' ∧ (n = 0 ∧ e = .returned (.agg #[.bool x0, .int .i64 x1, .int .i64 x2]) ∨ n ≠ 0 ∧ e = .panicked (erL n)) := by
  have HB := Aside0.mk (Below.refl w.heap.size w)
  go_enter Tryz.func133, Tryz.ntmps133
  go_wp2_with (first
    | ((with_reducible refine gate_dst (N := 2) rfl ?_); refine new_box rfl 39 (.tmp 0) rfl (some 2) rfl #[.bool x0, .int .i64 x1, .int .i64 x2] rfl (by kernel_rfl) ?_; intro b2 hg wb hbox hb; have B2 := Aside0.mk hbox; obtain ⟨G2, nHB⟩ := geA hg hb; replace HB := nHB; clear nHB hg hb hbox)
    | ((with_reducible refine gate_dst (N := 4) rfl ?_); refine new_var rfl 39 rfl (some 4) rfl #[.bool false, .int .i64 0, .int .i64 0] (by kernel_rfl) ?_; intro b4 hg wb hbox hb; have B4 := Aside0.mk hbox; obtain ⟨G4, nHB⟩ := geA hg hb; obtain ⟨N1, N2, nB⟩ := nbA B2 hg hb; replace B2 := nB; replace HB := nHB; clear nB nHB hg hb hbox)
    | (go_at_call 31; refine (must_w n _).mono ?_; rintro e w' ⟨rfl, ⟨h0, rfl⟩ | ⟨h0, rfl⟩⟩ <;> have H0 := Aside0.mk h0 <;> clear h0)
    | ((with_reducible refine gate_dst (N := 7) rfl ?_); refine wpList_load_row rfl 39 (.tmp 2) rfl b2 rfl 39 #[.bool x0, .int .i64 x1, .int .i64 x2] (0, 0) _ B2.out Tryz.underlying39 rfl (by kernel_rfl) ?_)
    | (refine put_row rfl 39 (.tmp 4) (.tmp 7) rfl rfl b4 #[.bool x0, .int .i64 x1, .int .i64 x2] rfl rfl 39 #[.bool false, .int .i64 0, .int .i64 0] B4.out (by kernel_rfl) rfl (by simp [Value.oneCell']) ?_; intro wz hbz hwz; have BZ := Aside0.mk hbz; replace HB := Aside0.mk (hwz.to_below HB.out G4.out HB.out.size); clear hbz hwz)
    | fail)
  · refine bodyPost_ret (results_cell_row (fn := Tryz.f133) (p := 4) (ty := 39) rfl _ _ b4 39 #[.bool x0, .int .i64 x1, .int .i64 x2] (0, 0) _ rfl BZ.out Tryz.underlying39 rfl (by kernel_rfl)) rfl ⟨HB.out, .inl ⟨H0.out, rfl⟩⟩
  · exact ⟨rfl, HB.out, .inr ⟨H0.out, rfl⟩⟩
theorem got_hystart (x0 : Int) (x1 : Int) (x2 : Int) (x3 : Bool) (x4 : Bool) (x5 : Int) (x6 : Int) (n : Int) (w : World) : Calls Tryz.prog 87 #[.agg #[.int .i64 x0, .int .i64 x1, .int .i64 x2, .bool x3, .bool x4, .int .i64 x5, .int .i64 x6], .int .i64 n] w fun e w' => Below w.heap.size w w' ∧ (n = 0 ∧ e = .returned (.agg #[.int .i64 x0, .int .i64 x1, .int .i64 x2, .bool x3, .bool x4, .int .i64 x5, .int .i64 x6]) ∨ n ≠ 0 ∧ e = .panicked (erL n)) := by
  have HB := Aside0.mk (Below.refl w.heap.size w)
  go_enter Tryz.func87, Tryz.ntmps87
  go_wp2_with (first
    | ((with_reducible refine gate_dst (N := 2) rfl ?_); refine new_box rfl 44 (.tmp 0) rfl (some 2) rfl #[.int .i64 x0, .int .i64 x1, .int .i64 x2, .bool x3, .bool x4, .int .i64 x5, .int .i64 x6] rfl (by kernel_rfl) ?_; intro b2 hg wb hbox hb; have B2 := Aside0.mk hbox; obtain ⟨G2, nHB⟩ := geA hg hb; replace HB := nHB; clear nHB hg hb hbox)
    | ((with_reducible refine gate_dst (N := 4) rfl ?_); refine new_var rfl 44 rfl (some 4) rfl #[.int .i64 0, .int .i64 0, .int .i64 0, .bool false, .bool false, .int .i64 0, .int .i64 0] (by kernel_rfl) ?_; intro b4 hg wb hbox hb; have B4 := Aside0.mk hbox; obtain ⟨G4, nHB⟩ := geA hg hb; obtain ⟨N1, N2, nB⟩ := nbA B2 hg hb; replace B2 := nB; replace HB := nHB; clear nB nHB hg hb hbox)
    | (go_at_call 31; refine (must_w n _).mono ?_; rintro e w' ⟨rfl, ⟨h0, rfl⟩ | ⟨h0, rfl⟩⟩ <;> have H0 := Aside0.mk h0 <;> clear h0)
    | ((with_reducible refine gate_dst (N := 7) rfl ?_); refine wpList_load_row rfl 44 (.tmp 2) rfl b2 rfl 44 #[.int .i64 x0, .int .i64 x1, .int .i64 x2, .bool x3, .bool x4, .int .i64 x5, .int .i64 x6] (0, 0) _ B2.out Tryz.underlying44 rfl (by kernel_rfl) ?_)
    | (refine put_row rfl 44 (.tmp 4) (.tmp 7) rfl rfl b4 #[.int .i64 x0, .int .i64 x1, .int .i64 x2, .bool x3, .bool x4, .int .i64 x5, .int .i64 x6] rfl rfl 44 #[.int .i64 0, .int .i64 0, .int .i64 0, .bool false, .bool false, .int .i64 0, .int .i64 0] B4.out (by kernel_rfl) rfl (by simp [Value.oneCell']) ?_; intro wz hbz hwz; have BZ := Aside0.mk hbz; replace HB := Aside0.mk (hwz.to_below HB.out G4.out HB.out.size); clear hbz hwz)
    | fail)
  · refine bodyPost_ret (results_cell_row (fn := Tryz.f87) (p := 4) (ty := 44) rfl _ _ b4 44 #[.int .i64 x0, .int .i64 x1, .int .i64 x2, .bool x3, .bool x4, .int .i64 x5, .int .i64 x6] (0, 0) _ rfl BZ.out Tryz.underlying44 rfl (by kernel_rfl)) rfl ⟨HB.out, .inl ⟨H0.out, rfl⟩⟩
  · exact ⟨rfl, HB.out, .inr ⟨H0.out, rfl⟩⟩
theorem got_epoch (x0 : Bool) (x1 : Int) (x2 : Int) (x3 : Int) (x4 : Int) (x5 : Int) (n : Int) (w : World) : Calls Tryz.prog 139 #[.agg #[.bool x0, .int .i64 x1, .int .i64 x2, .int .i64 x3, .int .i64 x4, .int .i64 x5], .int .i64 n] w fun e w' => Below w.heap.size w w' ∧ (n = 0 ∧ e = .returned (.agg #[.bool x0, .int .i64 x1, .int .i64 x2, .int .i64 x3, .int .i64 x4, .int .i64 x5]) ∨ n ≠ 0 ∧ e = .panicked (erL n)) := by
  have HB := Aside0.mk (Below.refl w.heap.size w)
  go_enter Tryz.func139, Tryz.ntmps139
  go_wp2_with (first
    | ((with_reducible refine gate_dst (N := 2) rfl ?_); refine new_box rfl 25 (.tmp 0) rfl (some 2) rfl #[.bool x0, .int .i64 x1, .int .i64 x2, .int .i64 x3, .int .i64 x4, .int .i64 x5] rfl (by kernel_rfl) ?_; intro b2 hg wb hbox hb; have B2 := Aside0.mk hbox; obtain ⟨G2, nHB⟩ := geA hg hb; replace HB := nHB; clear nHB hg hb hbox)
    | ((with_reducible refine gate_dst (N := 4) rfl ?_); refine new_var rfl 25 rfl (some 4) rfl #[.bool false, .int .i64 0, .int .i64 0, .int .i64 0, .int .i64 0, .int .i64 0] (by kernel_rfl) ?_; intro b4 hg wb hbox hb; have B4 := Aside0.mk hbox; obtain ⟨G4, nHB⟩ := geA hg hb; obtain ⟨N1, N2, nB⟩ := nbA B2 hg hb; replace B2 := nB; replace HB := nHB; clear nB nHB hg hb hbox)
    | (go_at_call 31; refine (must_w n _).mono ?_; rintro e w' ⟨rfl, ⟨h0, rfl⟩ | ⟨h0, rfl⟩⟩ <;> have H0 := Aside0.mk h0 <;> clear h0)
    | ((with_reducible refine gate_dst (N := 7) rfl ?_); refine wpList_load_row rfl 25 (.tmp 2) rfl b2 rfl 25 #[.bool x0, .int .i64 x1, .int .i64 x2, .int .i64 x3, .int .i64 x4, .int .i64 x5] (0, 0) _ B2.out Tryz.underlying25 rfl (by kernel_rfl) ?_)
    | (refine put_row rfl 25 (.tmp 4) (.tmp 7) rfl rfl b4 #[.bool x0, .int .i64 x1, .int .i64 x2, .int .i64 x3, .int .i64 x4, .int .i64 x5] rfl rfl 25 #[.bool false, .int .i64 0, .int .i64 0, .int .i64 0, .int .i64 0, .int .i64 0] B4.out (by kernel_rfl) rfl (by simp [Value.oneCell']) ?_; intro wz hbz hwz; have BZ := Aside0.mk hbz; replace HB := Aside0.mk (hwz.to_below HB.out G4.out HB.out.size); clear hbz hwz)
    | fail)
  · refine bodyPost_ret (results_cell_row (fn := Tryz.f139) (p := 4) (ty := 25) rfl _ _ b4 25 #[.bool x0, .int .i64 x1, .int .i64 x2, .int .i64 x3, .int .i64 x4, .int .i64 x5] (0, 0) _ rfl BZ.out Tryz.underlying25 rfl (by kernel_rfl)) rfl ⟨HB.out, .inl ⟨H0.out, rfl⟩⟩
  · exact ⟨rfl, HB.out, .inr ⟨H0.out, rfl⟩⟩
set_option maxRecDepth 100000 in
set_option maxHeartbeats 1000000 in
theorem lr_slow (g : Nat) (s : Ln)   (w : World) (hA0 : At w g s) :
    Calls Tryz.prog 76 #[.pointer (some ⟨g, 0, none⟩)] w fun e w' => e = .returned (.bool (decide (s.win < s.thresh))) ∧ Below w.heap.size w w' := by
  have hA := Aside0.mk hA0
  have H := Aside0.mk (StL.start hA0)
  clear hA0
  go_enter Tryz.func76, Tryz.ntmps76
  go_upto_region 1 with fail
  refine rgL #[N,N,N,N,N,N,N,N,N,N,N,N] [] H ?_; clear H; intro _ H
  refine fL 0 3 4 5 6 7 #[Y,Y,Y,Y,Y,N,N,N,N,N,N,N] 3 (ldI (c := 9) (n := s.win)) H ?_
  refine fL 5 8 9 10 11 12 #[Y,Y,Y,Y,Y,Y,Y,Y,Y,Y,N,N] 4 (ldI (c := 10) (n := s.thresh)) H ?_
  refine pL 10 (some 13) #[Y,Y,Y,Y,Y,Y,Y,Y,Y,Y,Y,N] ?_
  refine pL 11 (some 2) #[Y,Y,Y,Y,Y,Y,Y,Y,Y,Y,Y,Y] ?_
  refine done_ (by kernel_rfl) ?_
  go_wp2
  go_ret
  exact ⟨rfl, H.out.same hA.out⟩

set_option maxRecDepth 100000 in
set_option maxHeartbeats 1000000 in
theorem lr_resolved (g : Nat) (s : Ln)   (w : World) (hA0 : At w g s) :
    Calls Tryz.prog 86 #[.pointer (some ⟨g, 0, none⟩)] w fun e w' => e = .returned (.int .i64 (wrap64 (s.sent - s.out))) ∧ Below w.heap.size w w' := by
  have hA := Aside0.mk hA0
  have H := Aside0.mk (StL.start hA0)
  clear hA0
  go_enter Tryz.func86, Tryz.ntmps86
  go_upto_region 1 with fail
  refine rgL #[N,N,N,N,N,N,N,N,N,N,N,N,N,N] [] H ?_; clear H; intro _ H
  refine fM 0 3 4 5 6 7 8 #[Y,Y,Y,Y,Y,Y,N,N,N,N,N,N,N,N] 6 12 37 0 (ldI (c := 12) (n := s.sent)) H ?_
  refine fM 6 9 10 11 12 13 14 #[Y,Y,Y,Y,Y,Y,Y,Y,Y,Y,Y,Y,N,N] 6 12 37 2 (ldI (c := 14) (n := s.out)) H ?_
  refine pL 12 (some 15) #[Y,Y,Y,Y,Y,Y,Y,Y,Y,Y,Y,Y,Y,N] ?_
  refine pL 13 (some 2) #[Y,Y,Y,Y,Y,Y,Y,Y,Y,Y,Y,Y,Y,Y] ?_
  refine done_ (by kernel_rfl) ?_
  go_wp2
  go_ret
  exact ⟨rfl, H.out.same hA.out⟩

set_option maxRecDepth 100000 in
set_option maxHeartbeats 1000000 in
theorem lr_burst (g : Nat) (s : Ln)   (w : World) (hA0 : At w g s) :
    Calls Tryz.prog 37 #[.pointer (some ⟨g, 0, none⟩)] w fun e w' => e = .returned (.int .i64 (wrap64 (s.burst * s.seg))) ∧ Below w.heap.size w w' := by
  have hA := Aside0.mk hA0
  have H := Aside0.mk (StL.start hA0)
  clear hA0
  go_enter Tryz.func37, Tryz.ntmps37
  go_upto_region 1 with fail
  refine rgL #[N,N,N,N,N,N,N,N,N,N,N,N,N,N] [] H ?_; clear H; intro _ H
  refine fM 0 3 4 5 6 7 8 #[Y,Y,Y,Y,Y,Y,N,N,N,N,N,N,N,N] 0 0 33 6 (ldI (c := 6) (n := s.burst)) H ?_
  refine fM 6 9 10 11 12 13 14 #[Y,Y,Y,Y,Y,Y,Y,Y,Y,Y,Y,Y,N,N] 0 0 33 0 (ldI (c := 0) (n := s.seg)) H ?_
  refine pL 12 (some 15) #[Y,Y,Y,Y,Y,Y,Y,Y,Y,Y,Y,Y,Y,N] ?_
  refine pL 13 (some 2) #[Y,Y,Y,Y,Y,Y,Y,Y,Y,Y,Y,Y,Y,Y] ?_
  refine done_ (by kernel_rfl) ?_
  go_wp2
  go_ret
  exact ⟨rfl, H.out.same hA.out⟩

set_option maxRecDepth 100000 in
set_option maxHeartbeats 1000000 in
theorem lr_recovers (g : Nat) (s : Ln)   (w : World) (hA0 : At w g s) :
    Calls Tryz.prog 89 #[.pointer (some ⟨g, 0, none⟩)] w fun e w' => e = .returned (.bool (decide (wrap64 (s.sent - s.out) < s.recov))) ∧ Below w.heap.size w w' := by
  have hA := Aside0.mk hA0
  have H := Aside0.mk (StL.start hA0)
  clear hA0
  go_enter Tryz.func89, Tryz.ntmps89
  go_upto_region 1 with fail
  refine rgL #[N,N,N,N,N,N,N,N,N] [] H ?_; clear H; intro _ H
  refine pL 0 (some 3) #[Y,N,N,N,N,N,N,N,N] ?_
  refine fL 2 5 6 7 8 9 #[Y,N,Y,Y,Y,Y,Y,N,N] 12 (ldI (c := 34) (n := s.recov)) H ?_
  refine cL 1 (some 4) #[Y,Y,Y,Y,Y,Y,Y,N,N] Tryz.func86 H (lr_resolved g s _ H.out.row) ?_; clear H; intro _ H
  refine pL 7 (some 10) #[Y,Y,Y,Y,Y,Y,Y,Y,N] ?_
  refine pL 8 (some 2) #[Y,Y,Y,Y,Y,Y,Y,Y,Y] ?_
  refine done_ (by kernel_rfl) ?_
  go_wp2
  go_ret
  exact ⟨rfl, H.out.same hA.out⟩

set_option maxRecDepth 100000 in
set_option maxHeartbeats 1000000 in
theorem lr_rate (g : Nat) (s : Ln) (r : Int) (hr : Aside0 (rate_OfS.f s.win s.seg s.has s.mean s.far (decide (s.win < s.thresh)) = some r)) (w : World) (hA0 : At w g s) :
    Calls Tryz.prog 36 #[.pointer (some ⟨g, 0, none⟩)] w fun e w' => e = .returned (.int .i64 r) ∧ Below w.heap.size w w' := by
  have hA := Aside0.mk hA0
  have H := Aside0.mk (StL.start hA0)
  clear hA0
  go_enter Tryz.func36, Tryz.ntmps36
  go_upto_region 1 with fail
  refine rgL #[N,N,N,N,N,N,N,N,N,N,N,N,N,N,N,N,N,N,N,N] [] H ?_; clear H; intro _ H
  refine fL 0 3 4 5 6 7 #[Y,Y,Y,Y,Y,N,N,N,N,N,N,N,N,N,N,N,N,N,N,N] 3 (ldI (c := 9) (n := s.win)) H ?_
  refine fM 5 8 9 10 11 12 13 #[Y,Y,Y,Y,Y,Y,Y,Y,Y,Y,Y,N,N,N,N,N,N,N,N,N] 0 0 33 0 (ldI (c := 0) (n := s.seg)) H ?_
  refine fL 11 14 15 16 17 18 #[Y,Y,Y,Y,Y,Y,Y,Y,Y,Y,Y,Y,Y,Y,Y,Y,N,N,N,N] 7 (ldRtt _) H ?_
  refine pL 16 (some 19) #[Y,Y,Y,Y,Y,Y,Y,Y,Y,Y,Y,Y,Y,Y,Y,Y,Y,N,N,N] ?_
  refine cL 17 (some 20) #[Y,Y,Y,Y,Y,Y,Y,Y,Y,Y,Y,Y,Y,Y,Y,Y,Y,Y,N,N] Tryz.func76 H (lr_slow g s _ H.out.row) ?_; clear H; intro _ H
  refine cL 18 (some 21) #[Y,Y,Y,Y,Y,Y,Y,Y,Y,Y,Y,Y,Y,Y,Y,Y,Y,Y,Y,N] Tryz.func75 H (rate_OfS.calls s.win s.seg s.has s.mean s.far _ r _ hr.out) ?_; clear H; intro _ H
  refine pL 19 (some 2) #[Y,Y,Y,Y,Y,Y,Y,Y,Y,Y,Y,Y,Y,Y,Y,Y,Y,Y,Y,Y] ?_
  refine done_ (by kernel_rfl) ?_
  go_wp2
  go_ret
  exact ⟨rfl, H.out.same hA.out⟩

set_option maxRecDepth 100000 in
set_option maxHeartbeats 1000000 in
theorem lr_timeout (g : Nat) (s : Ln) (k : Nat) (r : Int) (hr : Aside0 (rto_Of.f k s.has s.mean s.far s.seg s.mx s.fst s.grain s.least s.great s.burst s.back = some r)) (w : World) (hA0 : At w g s) :
    Calls Tryz.prog 46 #[.pointer (some ⟨g, 0, none⟩)] w fun e w' => e = .returned (.int .i64 r) ∧ Below w.heap.size w w' := by
  have hA := Aside0.mk hA0
  have H := Aside0.mk (StL.start hA0)
  clear hA0
  go_enter Tryz.func46, Tryz.ntmps46
  go_upto_region 1 with fail
  refine rgL #[N,N,N,N,N,N,N,N,N,N,N,N,N,N,N,N,N] [] H ?_; clear H; intro _ H
  refine fL 0 3 4 5 6 7 #[Y,Y,Y,Y,Y,N,N,N,N,N,N,N,N,N,N,N,N] 7 (ldRtt _) H ?_
  refine fL 5 8 9 10 11 12 #[Y,Y,Y,Y,Y,Y,Y,Y,Y,Y,N,N,N,N,N,N,N] 0 (ldConfig _) H ?_
  refine fL 10 13 14 15 16 17 #[Y,Y,Y,Y,Y,Y,Y,Y,Y,Y,Y,Y,Y,Y,Y,N,N] 13 (ldI (c := 35) (n := s.back)) H ?_
  refine cL 15 (some 18) #[Y,Y,Y,Y,Y,Y,Y,Y,Y,Y,Y,Y,Y,Y,Y,Y,N] Tryz.func101 H (rto_Of.calls k s.has s.mean s.far s.seg s.mx s.fst s.grain s.least s.great s.burst s.back r _ hr.out) ?_; clear H; intro _ H
  refine pL 16 (some 2) #[Y,Y,Y,Y,Y,Y,Y,Y,Y,Y,Y,Y,Y,Y,Y,Y,Y] ?_
  refine done_ (by kernel_rfl) ?_
  go_wp2
  go_ret
  exact ⟨rfl, H.out.same hA.out⟩
/-- A slice of marks, as a value. -/
structure Sl where
  A : Option Addr
  m : Nat
  c : Nat
def Sl.val (x : Sl) : Value := .slice x.A x.m x.c
/-- The slice x holds the marks l, and lies not at block g, nor below B. -/
structure Mk (g B : Nat) (W : World) (x : Sl) (l : List S119) : Prop where
  n : l.length = x.m
  le : x.m ≤ x.c
  nil : x.A = none → x.c = 0
  ne : ∀ a, x.A = some a → a.block ≠ g ∧ B ≤ a.block
  lt : ∀ a, x.A = some a → a.block < W.heap.size
  C : Kd.C k119 W x.A x.m l
theorem Mk.below {g B : Nat} {W W' : World} {x : Sl} {l : List S119} (h : Mk g B W x l) (hb : Below W.heap.size W W') : Mk g B W' x l := ⟨h.n, h.le, h.nil, h.ne, fun a e => Nat.lt_of_lt_of_le (h.lt a e) hb.size, Kd.C_below h.C hb⟩
theorem Mk.wr {g B : Nat} {W W' : World} {x : Sl} {l : List S119} (h : Mk g B W x l) (hw : Wr g W W') : Mk g B W' x l := by
  obtain ⟨h1, h2, h3⟩ := h.C
  refine ⟨h.n, h.le, h.nil, h.ne, fun a e => Nat.lt_of_lt_of_le (h.lt a e) hw.size, h1, h2, fun h0 => ?_⟩
  obtain ⟨ad, e, hc⟩ := h3 h0
  refine ⟨ad, e, fun j p hp => ?_⟩
  obtain ⟨c, q1, q2, q3⟩ := hc j p hp
  have hk := k119_open q2
  subst hk
  refine ⟨_, q1, k119_mk W' p, fun i u hu => ?_⟩
  have hx := q3 i u hu
  have hlt := World.block_lt_of_cell? W _ hx
  refine Eq.trans ?_ hx
  have hne : (ad.add (j * 2 + i)).block ≠ g := fun q => (h.ne ad e).1 (by rw [← q]; simp only [Addr.add]; split <;> rfl)
  unfold World.cell?
  rw [hw.block _ hlt hne]
theorem Mk.far {g r B : Nat} {W W' : World} {x : Sl} {l : List S119} (h : Mk g B W x l) (hw : Wr r W W') (hr : ∀ a, x.A = some a → a.block ≠ r) : Mk g B W' x l :=
  ⟨h.n, h.le, h.nil, h.ne, fun a e => Nat.lt_of_lt_of_le (h.lt a e) hw.size, (Mk.wr (g := r) (B := B) ⟨h.n, h.le, h.nil, fun a e => ⟨hr a e, (h.ne a e).2⟩, h.lt, h.C⟩ hw).C⟩
section
variable {ops : Array Oper} {Q : Exit → Act → World → Prop} {ds : List Nat} {fuel : Nat} {l : Array Bool} {a a' : Act} {W : World} {g : Nat} {be : Option Nat} {ev : Array Value} {w0 : World} {s : Ln} {oi : Oper} {v : Value} {t : TypeId} {x y : Tmp}
/-- A call whose answer is not known ahead. -/
theorem xL (i : Nat) (N : Option Tmp) (l' : Array Bool) {f : FuncId} {fn : Func} {args : Array Value} {xs : Array Operand} {ts : Array TypeId} {α : Type} {mk : α → Value} {R : α → World → Prop} {ac : α → Act} (hf : Tryz.prog.funcs[f]? = some fn) (H : Aside0 (StL g be ev w0 s W))
    (hC : Calls Tryz.prog f args W fun e W' => (∃ x, e = .returned (mk x) ∧ R x W') ∧ Below W.heap.size W W')
    (h : ∀ x W', Aside0 (R x W') → Aside0 (StL g be ev w0 s W') → wpAnyLast Tryz.prog .any ops Q (StL g be ev w0 s) ds fuel l' (ac x) W') (hi : ops[i]? = some oi := by rfl) (hN : oi.dst = N := by rfl) (hop : oi.op = .call { callee := .value (.func f), args := xs, argTypes := ts } := by rfl) (hc : readyB .any ops l l' i = true := by kernel_rfl)
    (hd : i ∉ ds := by decide) (hw : Region.wanted oi (yielded ops a.tmps) = true := by rfl) (hb : fn.body.isSome = true := by rfl) (hname : (fn.name == "runtime.NumGoroutine") = false := by kernel_rfl)
    (hargs : xs.map a.eval = args := by kernel_rfl) (ha : ∀ x, a.put N (mk x) = ac x := by intro _; simp only [Act.put, sA, sB, sC, i64_w, i32_w]; rfl) : wpAnyLast Tryz.prog .any ops Q (StL g be ev w0 s) ds (fuel + 1) l a W := by
  refine one_ l' hi hN hc hd fun K hK => goes_ hf hname hb args hw hN hop hargs (hC.mono ?_)
  rintro e W' ⟨⟨x, rfl, hr⟩, hb'⟩
  have S' := H.out.below hb'
  refine ⟨mk x, rfl, hK.out _ _ S' fun _ => ?_⟩
  rw [ha x]
  exact h x W' ⟨hr⟩ ⟨S'⟩
/-- A call that answers v, or stops, and turns nothing. -/
theorem gL0 (i : Nat) (N : Option Tmp) (l' : Array Bool) {f : FuncId} {fn : Func} {args : Array Value} {xs : Array Operand} {ts : Array TypeId} {n : Int} {ch : List PanicEntry} (hf : Tryz.prog.funcs[f]? = some fn) (H : Aside0 (StL g be ev w0 s W))
    (hC : Calls Tryz.prog f args W fun e W' => W' = W ∧ (n = 0 ∧ e = .returned v ∨ n ≠ 0 ∧ e = .panicked ch))
    (hP : n ≠ 0 → StL g be ev w0 s W → Q (.panic ch) a W)
    (h : n = 0 → wpAnyLast Tryz.prog .any ops Q (StL g be ev w0 s) ds fuel l' a' W) (hi : ops[i]? = some oi := by rfl) (hN : oi.dst = N := by rfl) (hop : oi.op = .call { callee := .value (.func f), args := xs, argTypes := ts } := by rfl) (hc : readyB .any ops l l' i = true := by kernel_rfl)
    (hd : i ∉ ds := by decide) (hw : Region.wanted oi (yielded ops a.tmps) = true := by rfl) (hb : fn.body.isSome = true := by rfl) (hname : (fn.name == "runtime.NumGoroutine") = false := by kernel_rfl)
    (hargs : xs.map a.eval = args := by kernel_rfl) (ha : a.put N v = a' := by simp only [Act.put, sA, sB, sC, i64_w, i32_w]; rfl) : wpAnyLast Tryz.prog .any ops Q (StL g be ev w0 s) ds (fuel + 1) l a W := by
  subst ha
  refine one_ l' hi hN hc hd fun K hK => ?_
  have he := enters_ hf hname hb args W
  rw [if_pos hw]
  subst hN
  have hrun : (execOp a.eval oi).run Tryz.prog W = .ok (.enter f args) W := by
    unfold execOp
    simp [hop, resolve, Deferred.ofValue, invoke, Act.eval]
    simpa [hargs] using he
  unfold Oper.wp
  rw [hrun, Oper.upon_enter]
  refine hC.mono ?_
  rintro e W' ⟨rfl, ⟨h0, rfl⟩ | ⟨h0, rfl⟩⟩
  · exact hK.out _ _ H.out fun _ => h h0
  · exact hP h0 H.out
/-- A field of the connection is written, last; what has turned is told. -/
theorem sL1 (i : Nat) (l' : Array Bool) {c : Nat} {s' : Ln} {S : World → Prop} (hL : SdL t c v s s') (H : Aside0 (StL g be ev w0 s W)) (h : ∀ W', Aside0 (Wr g W W') → Aside0 (StL g be ev w0 s' W') → wpAnyLast Tryz.prog .any ops Q S ds fuel l' a W') (hi : ops[i]? = some oi := by rfl) (hN : oi.dst = none := by rfl) (hop : oi.op = .store t (.tmp x) (.tmp y) := by rfl)
    (hx : a.tmps.getD x undef = .pointer (some ⟨g, c, none⟩) := by kernel_rfl) (hy : a.tmps.getD y undef = v := by kernel_rfl) (hw : Region.wanted oi (yielded ops a.tmps) = true := by rfl) (hc : readyB .any ops l l' i = true := by kernel_rfl) (hd : i ∈ ds := by decide) : wpAnyLast Tryz.prog .any ops Q S ds (fuel + 1) l a W := by
  refine last_ (N := none) l' hi hN hc hd fun K hK => ?_
  obtain ⟨W', h1, h2, h3⟩ := hL g W H.out.row
  refine skip_ (w1 := W') hw hN ?_ (hK.out _ _ (h W' ⟨h3⟩ ⟨H.out.turn h2 h3⟩))
  have hx' : a.tmps[x]?.getD undef = .pointer (some ⟨g, c, none⟩) := by simpa using hx
  have hy' : a.tmps[y]?.getD undef = v := by simpa using hy
  simp [execOp, hop, Act.eval, hx', hy', h1]
end
/-- What a walk keeps from here on. -/
theorem StL.here {g : Nat} {be : Option Nat} {ev : Array Value} {w0 W : World} {s : Ln} (h : StL g be ev w0 s W) : StL g be ev W s W := ⟨h.row, h.box, Wr.refl g W⟩
theorem flatM_at : ∀ (l : List S119) (j : Nat) (p : S119), l[j]? = some p → (flatM l)[j * 2]? = some (.int .i64 p.f0) ∧ (flatM l)[j * 2 + 1]? = some (.int .i64 p.f1) := by
  intro l
  induction l with
  | nil => intro j p h; simp at h
  | cons m l ih =>
    intro j p h
    cases j with
    | zero => obtain rfl : m = p := by simpa using h
              exact ⟨rfl, rfl⟩
    | succ j =>
      have := ih j p (by simpa using h)
      rw [Nat.succ_mul]
      exact ⟨by simpa [flatM] using this.1, by simpa [flatM] using this.2⟩
theorem flatM_app (l m : List S119) : flatM (l ++ m) = flatM l ++ flatM m := by
  induction l with
  | nil => rfl
  | cons x l ih => simp only [List.cons_append, flatM, ih]
/-- A slice x of marks of one's own, read as l. -/
structure Own (B : Nat) (W : World) (x : Sl) (l : List S119) : Prop where
  n : l.length = x.m
  le : x.m ≤ x.c
  nil : x.A = none → x.c = 0
  ge : ∀ a, x.A = some a → B ≤ a.block
  lt : ∀ a, x.A = some a → a.block < W.heap.size
  C : Kd.C k119 W x.A x.m l
theorem Own.below {B : Nat} {W W' : World} {x : Sl} {l : List S119} (h : Own B W x l) (hb : Below W.heap.size W W') : Own B W' x l := ⟨h.n, h.le, h.nil, h.ge, fun a e => Nat.lt_of_lt_of_le (h.lt a e) hb.size, Kd.C_below h.C hb⟩
theorem Own.mk' {B g : Nat} {W : World} {x : Sl} {l : List S119} (h : Own B W x l) (hg : g < B) : Mk g B W x l := ⟨h.n, h.le, h.nil, fun a e => by have := h.ge a e; omega, h.lt, h.C⟩
theorem Own.mk2 {B B' g : Nat} {W : World} {x : Sl} {l : List S119} (h : Own B' W x l) (hg : g < B') (hb : B ≤ B') : Mk g B W x l := ⟨h.n, h.le, h.nil, fun a e => by have := h.ge a e; omega, h.lt, h.C⟩
theorem Own.mk3 {B g : Nat} {W : World} {x : Sl} {l : List S119} (h : Own B W x l) (hg : W.heap.size ≤ g) : Mk g B W x l := ⟨h.n, h.le, h.nil, fun a e => ⟨by have := h.lt a e; omega, h.ge a e⟩, h.lt, h.C⟩
theorem Mk.to {B g b : Nat} {W : World} {x : Sl} {l : List S119} (h : Mk g B W x l) (hb : b < B) : Mk b B W x l := ⟨h.n, h.le, h.nil, fun a e => by have := (h.ne a e).2; omega, h.lt, h.C⟩
theorem Own.wr {B g : Nat} {W W' : World} {x : Sl} {l : List S119} (h : Own B W x l) (hw : Wr g W W') (hg : g < B) : Own B W' x l := ⟨h.n, h.le, h.nil, h.ge, fun a e => Nat.lt_of_lt_of_le (h.lt a e) hw.size, ((h.mk' hg).wr hw).C⟩
theorem Own.less {B B' : Nat} {W : World} {x : Sl} {l : List S119} (h : Own B W x l) (hb : B' ≤ B) : Own B' W x l := ⟨h.n, h.le, h.nil, fun a e => Nat.le_trans hb (h.ge a e), h.lt, h.C⟩
theorem Own.of_rows {w : World} {base : Nat} {v : Value} {l : List S119} {n : Nat} (h : w.ownsRow base 119 2 v n (flatM l)) (hn : l.length = n) (hl : n ≤ 9223372036854775807) : ∃ x : Sl, v = x.val ∧ Own base w x l := by
  subst hn
  obtain ⟨_, h2⟩ := h
  rcases h2 with ⟨e, h0⟩ | ⟨g, cap, cur, e, hb, hg, hc, hm, hs, ht⟩
  · obtain rfl : l = [] := List.eq_nil_of_length_eq_zero h0
    exact ⟨⟨none, 0, 0⟩, e, rfl, Nat.le_refl _, fun _ => rfl, fun a ha => (by cases ha), fun a ha => (by cases ha), Kd.C_nil k119 w⟩
  · refine ⟨⟨_, _, cap⟩, e, rfl, hc, fun q => (by cases q), fun a ha => (by cases ha; exact hb), fun a ha => (by cases ha; exact blk_lt hg), ⟨rfl, hl, fun _ => ⟨_, rfl, fun j p hp => ⟨[.int .i64 p.f0, .int .i64 p.f1], rfl, k119_mk w p, fun i u hu => ?_⟩⟩⟩⟩
    have hj : j < l.length := (List.getElem?_eq_some_iff.1 hp).1
    have kk := flatM_at l j p hp
    have q : ∀ k, k < l.length * 2 → w.cell? ((⟨g, 0, none⟩ : Addr).add k) = (flatM l)[k]? := fun k hk => by
      have e1 : w.cell? ⟨g, k, none⟩ = (flatM l)[k]? := by
        rw [cell_of_row w g k cur 119 (0, 0) hg, ← ht, List.getElem?_take]
        simp [hk]
      by_cases h0 : k = 0
      · subst h0; simpa [Addr.add] using e1
      · simpa [Addr.add, h0] using e1
    match i, hu with
    | 0, hu =>
      obtain rfl : _ = u := by simpa using hu
      rw [Nat.add_zero]
      exact (q _ (by show j * 2 < l.length * 2; omega)).trans kk.1
    | 1, hu =>
      obtain rfl : _ = u := by simpa using hu
      exact (q _ (by show j * 2 + 1 < l.length * 2; omega)).trans kk.2
/-- Marks are appended to a row of one's own, the last box. -/
theorem Bx.append {w0 W : World} {L : List (Nat × Obj)} {go : Nat} {l1 news : List S119} (H : Bx w0 (L ++ [(go, .cells (flatM l1).toArray 119 (0, 0))]) W) (a : Addr) (c : Nat) (hC : Kd.C k119 W (some a) news.length news) (h63 : l1.length + news.length ≤ 2000000) :
    ∃ (x : Sl) (W' : World), (Builtin.append_ #[40, 40] 40 #[.slice (some ⟨go, 0, none⟩) l1.length l1.length, .slice (some a) news.length c]).run Tryz.prog W = .ok x.val W' ∧ Bx w0 L W' ∧ Own w0.heap.size W' x (l1 ++ news) := by
  obtain ⟨i0, hi0, hzz⟩ := Option.map_eq_some_iff.1 info119'
  simp only [Prod.mk.injEq] at hzz
  obtain ⟨hz0, hz1, hz2⟩ := hzz
  have hm : (go, Obj.cells (flatM l1).toArray 119 (0, 0)) ∈ L ++ [(go, Obj.cells (flatM l1).toArray 119 (0, 0))] := by simp
  have hge := H.ge _ hm
  have hat := H.at_ _ hm
  have hr : ∀ j u, (flatM news)[j]? = some u → W.cell? (a.add j) = some u := fun j u hj => by
    have h0 : 0 < news.length := by
      cases news with
      | nil => simp [flatM] at hj
      | cons _ _ => simp
    obtain ⟨ad, e, h⟩ := flatM_reads hC h0
    cases e
    exact h j u hj
  obtain ⟨v1, w1, hrun, hown, hgr, _, _⟩ := run_append_own_at (P := Tryz.prog) (w := W) w0.heap.size 40 40 119 i0 _ 2 16 Tryz.underlying40 hi0 hz0 hz1 hz2 rfl (by decide) (.slice (some ⟨go, 0, none⟩) l1.length l1.length) l1.length (flatM l1)
    ⟨flatM_length l1, .inr ⟨go, l1.length, _, rfl, hge, hat, Nat.le_refl _, by simp [maxLen]; omega, by simp [flatM_length], by simp [← flatM_length]⟩⟩ a news.length c (flatM news) (flatM_length news) hr (flatM_one news) (by simp [maxLen]; omega) (by omega) H.lo.size
  rw [← flatM_app] at hown
  obtain ⟨x, rfl, hx⟩ := Own.of_rows hown (by simp) (by omega)
  have hnd := H.nd
  rw [List.map_append, List.nodup_append] at hnd
  refine ⟨x, w1, hrun, ⟨H.lo.grown hgr H.lo.size (fun k e => by cases e; exact hge), fun p hp => H.ge p (List.mem_append_left _ hp), fun p hp => blk_grown (H.at_ p (List.mem_append_left _ hp)) hgr (fun e => ?_), hnd.1⟩, hx⟩
  have e' : p.1 = go := by injection e
  exact hnd.2.2 p.1 (List.mem_map_of_mem hp) go (by simp) e'
theorem and_f {x y : Bool} (h : x = false) : (x && y) = false := by rw [h]; rfl
def hyPhase (g d : Bool) : Int := if d = true then 3 else if g = true then 2 else 1
def hyMay (t : Int) : Bool := decide (t ≥ 0) && decide (t ≤ 1073741824)
theorem hyPhase_w (a0 a1 a2 : Int) (a3 a4 : Bool) (a5 a6 : Int) (w : World) : Calls Tryz.prog 121 #[.agg #[.int .i64 a0, .int .i64 a1, .int .i64 a2, .bool a3, .bool a4, .int .i64 a5, .int .i64 a6]] w fun e w' => e = .returned (.int .i64 (hyPhase a3 a4)) ∧ Below w.heap.size w w' :=
  hystart_state_phase.calls a0 a1 a2 a3 a4 a5 a6 _ w (by unfold hystart_state_phase.f hyPhase; cases a3 <;> cases a4 <;> rfl)
theorem hyMay_n (t : Int) (w : World) : Calls Tryz.prog 122 #[.int .i64 t] w fun e w' => e = .returned (.bool (hyMay t)) ∧ ∃ n, w' = w.drewN n :=
  (hystart_may.calls t (hyMay t) w (by unfold hystart_may.f hyMay; split <;> simp [*])).mono fun e w' ⟨h1, nd, h2⟩ => ⟨h1, nd, h2⟩
theorem hyMay_w (t : Int) (w : World) : Calls Tryz.prog 122 #[.int .i64 t] w fun e w' => e = .returned (.bool (hyMay t)) ∧ Below w.heap.size w w' :=
  (hyMay_n t w).mono fun e w' ⟨h1, nd, h2⟩ => ⟨h1, by rw [h2]; exact pw_below_drewN (Below.refl _ _) nd⟩
def hyFirst (a3 a4 : Bool) (a5 a6 : Int) : Bool := if a4 = true then !a3 && (a5 == 0 && a6 == 0) else if a3 = true then !(decide (a5 < 1)) && hyMay a5 && !(decide (a6 < 0)) && !(decide (a6 > 5)) else a5 == 0 && a6 == 0
/-- Whether a slow start may be. -/
def hyCheck (a0 a1 a2 : Int) (a3 a4 : Bool) (a5 a6 : Int) : Bool :=
  hyFirst a3 a4 a5 a6 && (hyMay a0 && hyMay a1 && decide (a2 ≥ 0) && decide (a2 ≤ 8) && ((a2 == 0) == (a1 == 0)))
set_option maxRecDepth 100000 in
set_option maxHeartbeats 8000000 in
theorem hcheck_w (a0 a1 a2 : Int) (a3 a4 : Bool) (a5 a6 : Int) (w : World) :
    Calls Tryz.prog 70 #[.agg #[.int .i64 a0, .int .i64 a1, .int .i64 a2, .bool a3, .bool a4, .int .i64 a5, .int .i64 a6]] w fun e w' => e = .returned (.bool (hyCheck a0 a1 a2 a3 a4 a5 a6)) ∧ Below w.heap.size w w' := by
  have H := Aside0.mk (Bx.start w)
  obtain ⟨p, hp⟩ : ∃ p, hyPhase a3 a4 = p := ⟨_, rfl⟩
  go_enter Tryz.func70, Tryz.ntmps70
  go_upto_block 0 with (first
    | (go_at_call 121; (with_reducible refine (hyPhase_w _ _ _ _ _ _ _ _).mono ?_); rintro e w9 ⟨rfl, hb⟩; rw [hp]; replace H := Aside0.mk (H.out.below hb); clear hb)
    | ((with_reducible refine gate_dst (N := 1) rfl ?_); refine bxB 1 44 (.tmp 0) H ?_; clear H; intro b1 _ H)
    | (refine bxR 44 1 4 0 Tryz.underlying44 H ?_)
    | ((with_reducible refine gate_dst (N := 3) rfl ?_); refine bxV 3 169 #[.int .i64 0, .int .i64 0, .int .i64 0, .bool false, .bool false, .int .i64 0, .int .i64 0] H (fun _ => by kernel_rfl) ?_; clear H; intro b3 _ H)
    | (refine bxP 169 3 4 1 H ?_; clear H; intro _ H)
    | (refine bxR 169 3 5 1 Tryz.underlying169 H ?_)
    | fail)
  go_cut [3] (fun v3 wc => v3 = .pointer (some ⟨b3, 0, none⟩) ∧ hyFirst a3 a4 a5 a6 = true ∧ Aside0 (Bx w [(b1, .cells #[.int .i64 a0, .int .i64 a1, .int .i64 a2, .bool a3, .bool a4, .int .i64 a5, .int .i64 a6] 44 (0, 0)), (b3, .cells #[.int .i64 a0, .int .i64 a1, .int .i64 a2, .bool a3, .bool a4, .int .i64 a5, .int .i64 a6] 169 (0, 0))] wc))
  case first =>
    cases a3 <;> cases a4 <;> simp [hyPhase] at hp <;> subst hp <;> rcases q5 : (a5 != 0) with _ | _ <;> go_wp2_with (first
    | (go_at_call 122; (with_reducible refine (hyMay_w _ _).mono ?_); rintro e w9 ⟨rfl, hb⟩; replace H := Aside0.mk (H.out.below hb); clear hb)
    | (refine bxL 13 14 1 3 l4 H ?_)
    | (refine bxL 15 16 1 5 l3 H ?_)
    | (refine bxL 19 20 1 6 l3 H ?_)
    | (refine bxL 23 24 1 5 l3 H ?_)
    | (refine bxL 27 28 1 5 l3 H ?_)
    | (refine bxL 33 34 1 6 l3 H ?_)
    | (refine bxL 38 39 1 6 l3 H ?_)
    | fail)
    all_goals first
      | (go_meet; refine ⟨rfl, ?_, H⟩; first | (simp [hyFirst, *]; done) | (have p : a5 = 0 := (by simpa using q5); have q : a6 = 0 := (by simpa using (show (a6 != 0) = false by assumption)); simp [hyFirst, p, q]; done) | fail)
      | (go_ret; refine ⟨congrArg (fun b => Ending.returned (Value.bool b)) (and_f ?_).symm, H.out.lo⟩; first | (have p : a5 ≠ 0 := (by simpa using q5); simp [hyFirst, p]; done) | (have q : a6 ≠ 0 := (by simpa using (show (a6 != 0) = true by assumption)); simp [hyFirst, q]; done) | (simp [hyFirst, *]; done) | (simp [hyFirst]; intros; omega) | fail)
      | fail
  case rest =>
    obtain ⟨rfl, hf, H⟩ := hcut
    have HF := Aside0.mk hf
    clear hf
    have z0 := (blk_cell (H.out.get 1 rfl) 0).trans (show _ = some (.int .i64 a0) from rfl)
    have z1 := (blk_cell (H.out.get 1 rfl) 1).trans (show _ = some (.int .i64 a1) from rfl)
    have z2 := (blk_cell (H.out.get 1 rfl) 2).trans (show _ = some (.int .i64 a2) from rfl)
    go_wp2_with (first | (go_at_call 122; (with_reducible refine (hyMay_n _ _).mono ?_); rintro e w9 ⟨rfl, nd, rfl⟩) | fail)
    all_goals (go_ret; refine ⟨?_, by repeat (first | exact H.out.lo | apply pw_below_drewN | apply below_drew1)⟩; unfold hyCheck; rw [HF.out]; first | (simp [*]; done) | (simp [*]; intros; omega) | fail)
section
variable {ops : Array Oper} {rest : List Oper} {Q : Exit → Act → World → Prop} {a : Act} {W w0 : World} {L : List (Nat × Obj)} {o : Oper}
/-- A row is made. -/
theorem bxE (n : Tmp) (k : Nat) (cs : Array Value) {F : Nat → List (Nat × Obj)} (H : Aside0 (Bx w0 L W)) (h : ∀ b W', Aside0 (Bx w0 (F b) W') → wpList Tryz.prog ops Q rest (a.put (some n) (.slice (some ⟨b, 0, none⟩) k k)) W')
    (hrun : (execOp a.eval o).run Tryz.prog W = .ok (.value (.slice (some ⟨W.heap.size, 0, none⟩) k k)) (W.alloc (.cells cs 119))) (hg : o.guard = none := by rfl) (hd : o.dst = some n := by rfl) (hs : ∀ b, L ++ [(b, .cells cs 119 (0, 0))] = F b := by intro b; simp only [List.nil_append, List.cons_append]; rfl) : wpList Tryz.prog ops Q (o :: rest) a W := by
  refine wpList_plain hg fun K hK => ?_
  unfold Oper.wp
  rw [hrun, Oper.upon_value, hd]
  exact hK _ _ (h _ _ ⟨hs _ ▸ H.out.new rfl (blk_new W _) (below_alloc (Below.refl _ _) _)⟩)
/-- Marks are appended. -/
theorem bxA (n x y : Tmp) {go : Nat} {l1 news : List S119} {ad : Addr} {c : Nat} (L : List (Nat × Obj)) (H : Aside0 (Bx w0 (L ++ [(go, .cells (flatM l1).toArray 119 (0, 0))]) W)) (hC : Aside0 (Kd.C k119 W (some ad) news.length news)) (h63 : l1.length + news.length ≤ 2000000)
    (h : ∀ z W', Aside0 (Bx w0 L W') → Aside0 (Own w0.heap.size W' z (l1 ++ news)) → wpList Tryz.prog ops Q rest (a.put (some n) z.val) W') (hop : o.op = .call { callee := .builtin .append, args := #[.tmp x, .tmp y], argTypes := #[40, 40] } := by rfl) (hg : o.guard = none := by rfl) (hd : o.dst = some n := by rfl) (ht : o.type = 40 := by rfl)
    (hx : a.tmps.getD x undef = .slice (some ⟨go, 0, none⟩) l1.length l1.length := by rfl) (hy : a.tmps.getD y undef = .slice (some ad) news.length c := by rfl) : wpList Tryz.prog ops Q (o :: rest) a W := by
  obtain ⟨z, W', hr, h1, h2⟩ := H.out.append ad c hC.out h63
  have hx' := ev_tmp hx
  have hy' := ev_tmp hy
  refine wpList_plain hg fun K hK => ?_
  have hrun : (execOp a.eval o).run Tryz.prog W = .ok (.value z.val) W' := by simp [execOp, hop, ht, resolve, invoke, builtin, hx', hy', hr, Result.andThen]
  unfold Oper.wp
  rw [hrun, Oper.upon_value, hd]
  exact hK _ _ (h z W' ⟨h1⟩ ⟨h2⟩)
end
set_option maxRecDepth 100000 in
set_option maxHeartbeats 2000000 in
/-- A copy of a row of marks. -/
theorem clone_w (x : Sl) (l : List S119) (w : World) (hC : Kd.C k119 w x.A x.m l) (hn : x.A = none → x.c = 0) (hl : l.length ≤ 1000000) :
    Calls Tryz.prog 62 #[x.val] w fun e w' => ∃ y : Sl, e = .returned y.val ∧ Own w.heap.size w' y l ∧ Below w.heap.size w w' := by
  obtain ⟨A, m, c⟩ := x
  have hm : l.length = m := hC.1
  subst hm
  cases A with
  | none =>
    obtain rfl : c = 0 := hn rfl
    have hl0 : l = [] := by
      cases l with
      | nil => rfl
      | cons m l => obtain ⟨_, _, h3⟩ := hC; obtain ⟨ad, e, _⟩ := h3 (by simp); cases e
    subst hl0
    exact (clone_nil w).mono fun e w' ⟨h1, h2⟩ => ⟨⟨none, 0, 0⟩, h1, ⟨rfl, Nat.le_refl _, fun _ => rfl, fun a ha => (by cases ha), fun a ha => (by cases ha), Kd.C_nil k119 w'⟩, h2⟩
  | some a =>
    have HC : Aside0 (Kd.C k119 w (some a) l.length l) := ⟨hC⟩
    have HX := Aside0.mk hl
    have H := Aside0.mk (Bx.start w)
    have heq : ∀ (n : Nat) (w : World), (binOp BinOp.eql 40 (.slice (some a) n c) (.slice none 0 0)).run Tryz.prog w = .ok (.bool false) w := fun n w => by kernel_rfl
    clear hC hl hn
    show Calls Tryz.prog 62 #[.slice (some a) l.length c] w _
    go_enter Tryz.func62, Tryz.ntmps62
    go_wp2_with (first
      | ((with_reducible refine gate_dst (N := 5) rfl ?_); refine bxE 5 0 #[] H ?_ (by go_simp); intro b5 _ H2; have HC2 := Aside0.mk (Kd.C_below HC.out H2.out.lo); clear H)
      | ((with_reducible refine gate_dst (N := 7) rfl ?_); refine bxA 7 5 6 (l1 := []) [] H2 HC2 (by have := HX.out; simp; omega) ?_; intro z _ H3 HO)
      | fail)
    go_ret
    exact ⟨z, rfl, HO.out, H3.out.lo⟩
theorem l40 {A : Option Addr} {n c : Nat} : Ld1 40 (.slice A n c) := fun W p z => by go_simp
theorem s40 {A : Option Addr} {n c : Nat} : Sd1 40 (.slice A n c) := fun W p u z f => by go_simp
/-- The connection s, whose marks lie at x. -/
def Ln.at (s : Ln) (x : Sl) : Ln := { s with lv := x.val }
set_option maxRecDepth 100000 in
set_option maxHeartbeats 2000000 in
/-- A connection of one's own. -/
theorem own_w (s : Ln) (x : Sl) (l : List S119) (w : World) (hC : Kd.C k119 w x.A x.m l) (hn : x.A = none → x.c = 0) (hl : l.length ≤ 1000000) :
    Calls Tryz.prog 29 #[.agg (s.at x).cells] w fun e w' => ∃ y : Sl, e = .returned (.agg (s.at y).cells) ∧ Own w.heap.size w' y l ∧ Below w.heap.size w w' := by
  have H := Aside0.mk (Bx.start w)
  have HC := Aside0.mk hC
  have HN := Aside0.mk hn
  have HL := Aside0.mk hl
  clear hC hn hl
  go_enter Tryz.func29, Tryz.ntmps29
  go_upto_region 1 with (first
    | ((with_reducible refine gate_dst (N := 1) rfl ?_); refine bxB 1 48 (.tmp 0) (cs := (s.at x).cells) H ?_ (hx := by rfl) (hrun := run_box48 _); clear H; intro b1 _ H)
    | ((with_reducible refine gate_dst (N := 2) rfl ?_); refine bxV 2 83 Ln.zero.cells H run_alloc83 ?_; clear H; intro b2 _ H)
    | fail)
  go_upto_region 2 with (first
    | (refine bxL 3 4 0 18 (v := x.val) l40 H ?_)
    | (go_at_call 62; (with_reducible refine (clone_w x l _ (Kd.C_below HC.out H.out.lo) HN.out HL.out).mono ?_); rintro e wc ⟨y, rfl, ho, hb⟩; have HO := Aside0.mk ho; have L1 := Aside0.mk (blk_lt (H.out.get 0 rfl)); have L2 := Aside0.mk (blk_lt (H.out.get 1 rfl)); have L0 := Aside0.mk H.out.lo.size; replace H := Aside0.mk (H.out.below hb); clear ho hb)
    | (refine bxS1 6 (.tmp 5) 0 18 (v := y.val) s40 H ?_; clear H; intro wd hw H; replace HO := Aside0.mk (HO.out.wr hw.out L1.out); clear hw)
    | fail)
  have H : Aside0 (Bx w [(b1, .cells (s.at y).cells 48 (0, 0)), (b2, .cells Ln.zero.cells 83 (0, 0))] wd) := H
  go_wp2_with (first
    | (refine bxR 48 1 7 0 Tryz.underlying48 H ?_)
    | ((with_reducible refine gate_dst (N := 8) rfl ?_); refine wpList_buildTo rfl 83 _ rfl (some 8) rfl (s.at y).cells (by kernel_rfl) ?_)
    | (refine bxP1 83 2 8 1 H ?_; clear H; intro we hw H; replace HO := Aside0.mk (HO.out.wr hw.out L2.out); clear hw)
    | fail)
  refine bodyPost_ret (results_cell_row (fn := Tryz.f29) (p := 2) (ty := 83) rfl _ _ b2 83 _ (0, 0) _ rfl (H.out.get 1 rfl) Tryz.underlying83 rfl (by kernel_rfl)) rfl ⟨y, rfl, HO.out.less L0.out, H.out.lo⟩
theorem C_take {W : World} {A : Option Addr} {l : List S119} (h : Kd.C k119 W A l.length l) (j : Nat) : Kd.C k119 W A (l.take j).length (l.take j) := by
  obtain ⟨_, h2, h3⟩ := h
  have hle : (l.take j).length ≤ l.length := by rw [List.length_take]; omega
  refine ⟨rfl, by omega, fun h0 => ?_⟩
  obtain ⟨ad, e, hc⟩ := h3 (by omega)
  refine ⟨ad, e, fun i p hp => hc i p ?_⟩
  rw [List.getElem?_take] at hp
  split at hp
  · exact hp
  · cases hp
theorem add_add (a : Addr) (i j : Nat) : (a.add i).add j = a.add (i + j) := by
  unfold Addr.add
  (repeat' split) <;> simp_all <;> omega
theorem C_drop {W : World} {a : Addr} {l : List S119} (h : Kd.C k119 W (some a) l.length l) (f : Nat) : Kd.C k119 W (some (a.add (f * 2))) (l.drop f).length (l.drop f) := by
  obtain ⟨_, h2, h3⟩ := h
  have hle : (l.drop f).length ≤ l.length := by rw [List.length_drop]; omega
  refine ⟨rfl, by omega, fun h0 => ⟨_, rfl, fun i p hp => ?_⟩⟩
  obtain ⟨ad, e, hc⟩ := h3 (by omega)
  cases e
  obtain ⟨c, q1, q2, q3⟩ := hc (f + i) p (by rw [← List.getElem?_drop]; exact hp)
  refine ⟨c, q1, q2, fun k u hu => ?_⟩
  rw [add_add, show f * 2 + (i * k119.sz + k) = (f + i) * k119.sz + k from by show f * 2 + (i * 2 + k) = (f + i) * 2 + k; omega]
  exact q3 k u hu
theorem add_block (a : Addr) (i : Nat) : (a.add i).block = a.block := by
  unfold Addr.add
  split <;> rfl
theorem Own.drop {B : Nat} {W : World} {a : Addr} {m c : Nat} {l : List S119} (h : Own B W ⟨some a, m, c⟩ l) (f : Nat) (hf : f ≤ m) : Own B W ⟨some (a.add (f * 2)), m - f, c - f⟩ (l.drop f) := by
  have hm : l.length = m := h.n
  subst hm
  have hl : (l.drop f).length = l.length - f := List.length_drop
  refine ⟨hl, Nat.sub_le_sub_right h.le f, fun e => (by cases e), fun b e => ?_, fun b e => ?_, hl ▸ C_drop h.C f⟩
  · cases e
    rw [add_block]
    exact h.ge a rfl
  · cases e
    rw [add_block]
    exact h.lt a rfl
theorem firstIx_le (p : S119 → Bool) (l : List S119) : ∃ j : Nat, j ≤ l.length ∧ (firstIx p l < 0 ∧ firstIx p l = -1 ∧ j = l.length ∨ firstIx p l = (j : Int)) := by
  unfold firstIx
  split
  · exact ⟨l.findIdx p, by omega, .inr rfl⟩
  · exact ⟨l.length, Nat.le_refl _, .inl ⟨by omega, rfl, rfl⟩⟩
theorem firstIx_last {p : S119 → Bool} {l : List S119} {m : S119} (h : p m = true) : ∃ j : Nat, j ≤ l.length ∧ firstIx p (l ++ [m]) = (j : Int) := by
  have hx : (l ++ [m]).findIdx p < (l ++ [m]).length := List.findIdx_lt_length_of_exists ⟨m, by simp, h⟩
  refine ⟨(l ++ [m]).findIdx p, by simp at hx; omega, ?_⟩
  unfold firstIx
  rw [if_pos hx]
theorem isT_w (t : Int) (w : World) : Calls Tryz.prog 119 #[.int .i64 t] w fun e w' => e = .returned (.bool (decide (t ≥ 0) && decide (t ≤ 1099511627776))) ∧ ∃ n, w' = w.drewN n :=
  (least_is.calls t _ w (by unfold least_is.f; split <;> simp [*])).mono fun e w' ⟨h1, nd, h2⟩ => ⟨h1, nd, h2⟩
theorem box3 (n : Int) (W : World) : (Instr.box 3 (.int .i64 n)).run Tryz.prog W = .ok (.pointer (some ⟨W.heap.size, 0, none⟩)) (W.alloc (.cells #[.int .i64 n] 3)) := by kernel_rfl
/-- A whole number's box. -/
theorem bxN {ops : Array Oper} {rest : List Oper} {Q : Exit → Act → World → Prop} {a : Act} {W w0 : World} {L : List (Nat × Obj)} {o : Oper} (n : Tmp) (x : Operand) (v : Int) {F : Nat → List (Nat × Obj)} (H : Aside0 (Bx w0 L W))
    (h : ∀ b W', Aside0 (Bx w0 (F b) W') → wpList Tryz.prog ops Q rest (a.put (some n) (.pointer (some ⟨b, 0, none⟩))) W') (hop : o.op = .box 3 x := by rfl) (hg : o.guard = none := by rfl) (hd : o.dst = some n := by rfl) (hx : a.eval x = .int .i64 v := by rfl)
    (hs : ∀ b, L ++ [(b, .cells #[.int .i64 v] 3 (0, 0))] = F b := by intro b; simp only [List.nil_append, List.cons_append]; rfl) : wpList Tryz.prog ops Q (o :: rest) a W := by
  refine wpList_plain hg fun K hK => ?_
  unfold Oper.wp
  have hrun : (execOp a.eval o).run Tryz.prog W = .ok (.value (.pointer (some ⟨W.heap.size, 0, none⟩))) (W.alloc (.cells #[.int .i64 v] 3)) := by simp [execOp, hop, hx, box3, Result.andThen]
  rw [hrun, Oper.upon_value, hd]
  exact hK _ _ (h _ _ ⟨hs _ ▸ H.out.new rfl (blk_new W _) (below_alloc (Below.refl _ _) _)⟩)
theorem Bx.newAt {w0 W W' : World} {L : List (Nat × Obj)} {b : Nat} {ob : Obj} (h : Bx w0 L W) (hg : W.heap.size ≤ b) (hbox : W'.heap[b]? = some ob) (hb : Below W.heap.size W W') : Bx w0 (L ++ [(b, ob)]) W' := by
  refine ⟨below_step h.lo hb, fun p hp => ?_, fun p hp => ?_, ?_⟩
  · rcases List.mem_append.1 hp with hp | hp
    · exact h.ge p hp
    · obtain rfl := List.mem_singleton.1 hp
      exact Nat.le_trans h.lo.size hg
  · rcases List.mem_append.1 hp with hp | hp
    · exact blk_below (h.at_ p hp) hb
    · obtain rfl := List.mem_singleton.1 hp
      exact hbox
  · rw [List.map_append, List.nodup_append]
    refine ⟨h.nd, by simp, fun x hx y hy => ?_⟩
    obtain ⟨p, hp, rfl⟩ := List.mem_map.1 hx
    have hy' : y = b := by simpa using hy
    have := blk_lt (h.at_ p hp)
    omega
section
variable {ops : Array Oper} {Q : Exit → Act → World → Prop} {ds : List Nat} {fuel : Nat} {l : Array Bool} {a : Act} {W w0 : World} {L : List (Nat × Obj)} {oi oj : Oper}
/-- A copy by 'own' and a row made, in any order. -/
theorem twoB (i j : Nat) (Ni Nj : Tmp) (li lj l' : Array Bool) (k m : Nat) (cs cn : Array Value) {args : Array Value} {xs : Array Operand} {ts : Array TypeId} {ac : Nat → Nat → Act} (H : Aside0 (Bx w0 L W))
    (hC : ∀ W : World, Bx w0 L W → Calls Tryz.prog 157 args W fun e W' => ∃ g, e = .returned (.slice (some ⟨g, 0, none⟩) k k) ∧ W.heap.size ≤ g ∧ W'.heap[g]? = some (.cells cs 119 (0, 0)) ∧ Below W.heap.size W W')
    (h : ∀ go gn W, Aside0 (Bx w0 ((L ++ [(gn, .cells cn 119 (0, 0))]) ++ [(go, .cells cs 119 (0, 0))]) W) → wpAnyLast Tryz.prog .any ops Q (Bx w0 L) ds fuel l' (ac go gn) W)
    (hi : ops[i]? = some oi := by rfl) (hj : ops[j]? = some oj := by rfl) (hNi : oi.dst = some Ni := by rfl) (hNj : oj.dst = some Nj := by rfl) (hop : oi.op = .call { callee := .value (.func 157), args := xs, argTypes := ts } := by rfl)
    (hc : (Region.ready .any ops l == [i, j] && l.setIfInBounds i true == li && l.setIfInBounds j true == lj) = true := by kernel_rfl) (hdi : i ∉ ds := by decide) (hdj : j ∉ ds := by decide) (hc1 : readyB .any ops li l' j = true := by kernel_rfl) (hc2 : readyB .any ops lj l' i = true := by kernel_rfl)
    (hwi : Region.wanted oi (yielded ops a.tmps) = true := by rfl) (hwj : Region.wanted oj (yielded ops a.tmps) = true := by rfl) (hwi' : ∀ v, Region.wanted oi (yielded ops (a.put (some Nj) v).tmps) = true := by intro _; rfl) (hwj' : ∀ v, Region.wanted oj (yielded ops (a.put (some Ni) v).tmps) = true := by intro _; rfl)
    (ha1 : xs.map a.eval = args := by kernel_rfl) (ha2 : ∀ v, xs.map (a.put (some Nj) v).eval = args := by intro _; kernel_rfl)
    (hB1 : ∀ W, (execOp a.eval oj).run Tryz.prog W = .ok (.value (.slice (some ⟨W.heap.size, 0, none⟩) m m)) (W.alloc (.cells cn 119)) := by intro _; go_simp) (hB2 : ∀ v W, (execOp (a.put (some Ni) v).eval oj).run Tryz.prog W = .ok (.value (.slice (some ⟨W.heap.size, 0, none⟩) m m)) (W.alloc (.cells cn 119)) := by intro _ _; go_simp)
    (hac : ∀ go gn, (a.put (some Ni) (.slice (some ⟨go, 0, none⟩) k k)).put (some Nj) (.slice (some ⟨gn, 0, none⟩) m m) = ac go gn := by intro _ _; simp only [Act.put, sA, sB, sC]; rfl)
    (hac' : ∀ go gn, (a.put (some Nj) (.slice (some ⟨gn, 0, none⟩) m m)).put (some Ni) (.slice (some ⟨go, 0, none⟩) k k) = ac go gn := by intro _ _; simp only [Act.put, sA, sB, sC]; first | done | rfl) : wpAnyLast Tryz.prog .any ops Q (Bx w0 L) ds (fuel + 2) l a W := by
  have hf := Tryz.func157
  have hn : (Tryz.f157.name == "runtime.NumGoroutine") = false := by kernel_rfl
  refine two_ li lj hi hj hNi hNj hc hdi hdj (fun K hK => goes_ hf hn rfl args hwi hNi hop ha1 ((hC W H.out).mono ?_)) (fun K hK => val_step hwj hNj (hB1 W) (hK.out _ _ (H.out.below (below_alloc (Below.refl _ _) _)) fun _ => ?_))
  · rintro e W1 ⟨go, rfl, hge, hbo, hb⟩
    refine ⟨_, rfl, hK.out _ _ (H.out.below hb) fun S1 => one_ l' hj hNj hc1 hdj fun K hK => val_step (hwj' _) hNj (hB2 _ W1) (hK.out _ _ (S1.below (below_alloc (Below.refl _ _) _)) fun _ => ?_)⟩
    rw [hac]
    have H1 : Bx w0 (L ++ [(go, .cells cs 119 (0, 0))]) W1 := H.out.newAt hge hbo hb
    have H2 := H1.new rfl (blk_new W1 (.cells cn 119)) (below_alloc (Below.refl _ _) _)
    exact h go _ _ ⟨H2.perm (by rw [List.append_assoc, List.append_assoc]; exact List.Perm.append_left _ (List.Perm.swap _ _ _))⟩
  · refine one_ l' hi hNi hc2 hdi fun K hK => goes_ hf hn rfl args (hwi' _) hNi hop (ha2 _) ((hC _ (H.out.below (below_alloc (Below.refl _ _) _))).mono ?_)
    rintro e W1 ⟨go, rfl, hge, hbo, hb⟩
    have H1 := H.out.new rfl (blk_new W (.cells cn 119)) (below_alloc (Below.refl _ _) _)
    refine ⟨_, rfl, hK.out _ _ ((H.out.below (below_alloc (Below.refl _ _) _)).below hb) fun _ => ?_⟩
    rw [hac']
    exact h go _ _ ⟨H1.newAt hge hbo hb⟩
/-- One mark is appended to a row of one's own. -/
theorem aB (i : Nat) (N : Tmp) (l' : Array Bool) {x y : Tmp} {go gn : Nat} (l1 : List S119) (m : S119) (n2 : Nat) (hn2 : (l1 ++ [m]).length = n2) {ac : Option Addr → Nat → Act} (H : Aside0 (Bx w0 ((L ++ [(gn, .cells #[.int .i64 m.f0, .int .i64 m.f1] 119 (0, 0))]) ++ [(go, .cells (flatM l1).toArray 119 (0, 0))]) W)) (h63 : l1.length ≤ 1000000)
    (h : ∀ A c W', Aside0 (Bx w0 L W') → Aside0 (Own w0.heap.size W' ⟨A, n2, c⟩ (l1 ++ [m])) → wpAnyLast Tryz.prog .any ops Q (Bx w0 L) ds fuel l' (ac A c) W') (hi : ops[i]? = some oi := by rfl) (hN : oi.dst = some N := by rfl) (ht : oi.type = 40 := by rfl)
    (hop : oi.op = .call { callee := .builtin .append, args := #[.tmp x, .tmp y], argTypes := #[40, 40] } := by rfl) (hc : readyB .any ops l l' i = true := by kernel_rfl) (hd : i ∉ ds := by decide) (hw : Region.wanted oi (yielded ops a.tmps) = true := by rfl)
    (hx : a.tmps.getD x undef = .slice (some ⟨go, 0, none⟩) l1.length l1.length := by rfl) (hy : a.tmps.getD y undef = .slice (some ⟨gn, 0, none⟩) 1 1 := by rfl) (hac : ∀ A c, a.put (some N) (.slice A n2 c) = ac A c := by intro _ _; simp only [Act.put, sA, sB, sC]; rfl) : wpAnyLast Tryz.prog .any ops Q (Bx w0 L) ds (fuel + 1) l a W := by
  have hgn := H.out.at_ (gn, .cells #[.int .i64 m.f0, .int .i64 m.f1] 119 (0, 0)) (by simp)
  obtain ⟨⟨A, k, c⟩, W', hr, h1, h2⟩ := H.out.append (news := [m]) ⟨gn, 0, none⟩ 1 (C_of_flat (c := 0) (by simp) hgn) (by simp; omega)
  have hk : (l1 ++ [m]).length = k := h2.n
  obtain rfl : n2 = k := hn2.symm.trans hk
  clear hk
  have hx' := ev_tmp hx
  have hy' := ev_tmp hy
  have hr' : (Builtin.append_ #[40, 40] 40 #[.slice (some ⟨go, 0, none⟩) l1.length l1.length, .slice (some ⟨gn, 0, none⟩) 1 1]).run Tryz.prog W = .ok (.slice A n2 c) W' := hr
  refine one_ l' hi hN hc hd fun K hK => val_step hw hN (w1 := W') (v := .slice A n2 c) ?_ (hK.out _ _ h1.head fun _ => ?_)
  · simp only [execOp, hop, ht, resolve, invoke, builtin, Sem.run_bind, Sem.run_pure, Result.andThen]
    simp [hx', hy', resolve, invoke, builtin, hr', Result.andThen]
  · rw [hac]
    exact h A c W' ⟨h1.head⟩ ⟨h2⟩
end
/-- Whether mark i may not be there. -/
def badAt (l : List S119) (i : Nat) : Bool := !(decide ((rd_T119 l (i : Int)).f0 ≥ 0) && decide ((rd_T119 l (i : Int)).f0 ≤ 1099511627776)) || (decide (0 < i) && (decide ((rd_T119 l (i : Int)).f0 < (rd_T119 l ((i : Int) - 1)).f0) || decide ((rd_T119 l (i : Int)).f1 ≤ (rd_T119 l ((i : Int) - 1)).f1)))
/-- Whether marks may be. -/
def leastOk (l : List S119) : Bool := (List.range l.length).all fun i => !badAt l i
theorem leastOk_no {l : List S119} {i : Nat} (hi : i < l.length) (h : badAt l i = true) : leastOk l = false := by
  unfold leastOk
  rw [List.all_eq_false]
  exact ⟨i, List.mem_range.2 hi, by simp [h]⟩
theorem leastOk_yes {l : List S119} (h : ∀ i, i < l.length → badAt l i = false) : leastOk l = true := by
  unfold leastOk
  rw [List.all_eq_true]
  intro i hi
  rw [h i (List.mem_range.1 hi)]
  rfl
set_option maxRecDepth 100000 in
set_option maxHeartbeats 8000000 in
theorem lcheck_w (A : Option Addr) (c : Nat) (l : List S119) (w : World) (hC : Kd.C k119 w A l.length l) (hl : l.length ≤ 1000000) :
    Calls Tryz.prog 67 #[.slice A l.length c] w fun e w' => e = .returned (.bool (leastOk l)) ∧ Below w.heap.size w w' := by
  have HC := Aside0.mk hC
  have HL := Aside0.mk hl
  clear hC hl
  go_enter Tryz.func67, Tryz.ntmps67
  go_wp2
  go_loopg [7] l.length (fun kq v7 wr => ∃ i : Nat, v7 = .int .i64 i ∧ Aside0 (i + kq = l.length) ∧ Aside0 (∀ j, j < i → badAt l j = false) ∧ Aside0 (Below w.heap.size w wr))
  case atStart => exact ⟨0, rfl, ⟨by omega⟩, ⟨fun j h => absurd h (Nat.not_lt_zero j)⟩, ⟨Below.refl _ _⟩⟩
  case round =>
    obtain ⟨i, rfl, HI, HN, HB⟩ := hrel
    cases gk with
    | zero =>
      have hi : i = l.length := by have := HI.out; omega
      subst hi
      have c1 : decide ((l.length : Int) < (l.length : Int)) = false := decide_eq_false (by omega)
      go_wp2
      go_ret
      exact ⟨by rw [leastOk_yes HN.out]; rfl, HB.out⟩
    | succ k1 =>
      have hi : i < l.length := by have := HI.out; omega
      have c1 : decide ((i : Int) < (l.length : Int)) = true := decide_eq_true (by omega)
      have p1 : 0 ≤ (i : Int) := by omega
      have q1 : (i : Int) < (l.length : Int) := by omega
      obtain ⟨ad, rfl, x0, x1⟩ := at_T119 (Kd.C_below HC.out HB.out) (i : Int) p1 q1
      have hin : ((i : Int)).toNat = i := by omega
      rw [hin] at x0 x1
      obtain ⟨m, hm⟩ : ∃ m, rd_T119 l (i : Int) = m := ⟨_, rfl⟩
      rw [hm] at x0 x1
      replace p1 := eq_true p1
      replace q1 := eq_true q1
      have H := Aside0.mk (Bx.start wr)
      have HM := Aside0.mk hm
      clear hm
      go_upto_region 4 with (first
        | ((with_reducible refine gate_dst (N := 4) rfl ?_); refine bxV 4 119 #[.int .i64 0, .int .i64 0] H (fun _ => by kernel_rfl) ?_; clear H; intro b4 W4 H; replace x0 := (H.out.lo.cell (World.block_lt_of_cell? wr _ x0)).trans x0; replace x1 := (H.out.lo.cell (World.block_lt_of_cell? wr _ x1)).trans x1)
        | (refine bxP 119 4 11 0 H ?_; clear H; intro W5 H)
        | fail)
      clear x0 x1 p1 q1
      have z0 := (blk_cell (H.out.get 0 rfl) 0).trans (show _ = some (.int .i64 m.f0) from rfl)
      have z1 := (blk_cell (H.out.get 0 rfl) 1).trans (show _ = some (.int .i64 m.f1) from rfl)
      rcases q : (decide (m.f0 ≥ 0) && decide (m.f0 ≤ 1099511627776)) with _ | _
      · have HT : Aside0 (∀ w : World, Calls Tryz.prog 119 #[.int .i64 m.f0] w fun e w' => e = .returned (.bool false) ∧ ∃ n, w' = w.drewN n) := ⟨fun w => by have := isT_w m.f0 w; rw [q] at this; exact this⟩
        go_big_quiet (first | (go_at_call 119; exact Calls.quiet_of (HT.out _)) | fail)
        replace H := Aside0.mk (H.out.drewN nq)
        clear z0 z1
        go_wp2
        go_ret
        exact ⟨by rw [leastOk_no hi (by unfold badAt; rw [HM.out, q]; rfl)]; rfl, below_step HB.out H.out.lo⟩
      have HT : Aside0 (∀ w : World, Calls Tryz.prog 119 #[.int .i64 m.f0] w fun e w' => e = .returned (.bool true) ∧ ∃ n, w' = w.drewN n) := ⟨fun w => by have := isT_w m.f0 w; rw [q] at this; exact this⟩
      by_cases h0 : i = 0
      · subst h0
        have c2 : decide (((0 : Nat) : Int) > 0) = false := rfl
        go_big_quiet (first | (go_at_call 119; exact Calls.quiet_of (HT.out _)) | fail)
        replace H := Aside0.mk (H.out.drewN nq)
        clear z0 z1
        go_wp2
        go_roundg k1
        case rel => exact ⟨1, rfl, ⟨by have := HI.out; omega⟩, ⟨fun j hj => by obtain rfl : j = 0 := (by omega); unfold badAt; rw [HM.out, q]; rfl⟩, ⟨below_step HB.out H.out.lo⟩⟩
        case measure => omega
      have h1 : 0 < i := Nat.pos_of_ne_zero h0
      have c2 : decide ((i : Int) > 0) = true := decide_eq_true (by omega)
      have c3 : decide (0 < i) = true := decide_eq_true h1
      have e1 : wrap64 ((i : Int) - 1) = (i : Int) - 1 := Sp.w64 (by have := HL.out; omega)
      have p2 : 0 ≤ wrap64 ((i : Int) - 1) := by omega
      have q2 : wrap64 ((i : Int) - 1) < (l.length : Int) := by omega
      obtain ⟨ad', e, y0, y1⟩ := at_T119 (Kd.C_below HC.out (below_step HB.out H.out.lo)) _ p2 q2
      cases e
      obtain ⟨p, hp⟩ : ∃ p, rd_T119 l (wrap64 ((i : Int) - 1)) = p := ⟨_, rfl⟩
      rw [hp] at y0 y1
      have HP := Aside0.mk (e1 ▸ hp)
      clear hp e1 h0
      have hb : badAt l i = (decide (m.f0 < p.f0) || decide (m.f1 ≤ p.f1)) := by unfold badAt; rw [HM.out, HP.out, q, c3]; rfl
      have HBD := Aside0.mk hb
      clear hb
      by_cases b0 : m.f0 < p.f0
      rotate_left
      · have b1 := decide_eq_false b0
        clear b0
        rcases b2 : decide (m.f1 ≤ p.f1) with _ | _
        · go_quiet (first | (go_at_call 119; exact Calls.quiet_of (HT.out _)) | fail)
          replace H := Aside0.mk (H.out.drewN nq)
          clear z0 z1 y0 y1
          go_wp2
          go_roundg k1
          case rel => exact ⟨i + 1, congrArg (Value.int .i64) (by rw [Sp.w64 (x := (i : Int) + 1) (by have := HL.out; omega)]; rfl), ⟨by have := HI.out; omega⟩, ⟨fun j hj => if e : j = i then (by rw [e, HBD.out, b1, b2]; rfl) else HN.out j (by omega)⟩, ⟨below_step HB.out H.out.lo⟩⟩
          case measure => omega
        · go_quiet (first | (go_at_call 119; exact Calls.quiet_of (HT.out _)) | fail)
          replace H := Aside0.mk (H.out.drewN nq)
          clear z0 z1 y0 y1
          go_wp2
          go_ret
          exact ⟨by rw [leastOk_no hi (by rw [HBD.out, b1, b2]; rfl)]; rfl, below_step HB.out H.out.lo⟩
      · go_quiet (first | (go_at_call 119; exact Calls.quiet_of (HT.out _)) | fail)
        replace H := Aside0.mk (H.out.drewN nq)
        clear z0 z1 y0 y1
        go_wp2
        go_ret
        exact ⟨by rw [leastOk_no hi (by rw [HBD.out, decide_eq_true b0]; rfl)]; rfl, below_step HB.out H.out.lo⟩
end Go.Proofs.YtfahbgkoldoflaaGreatDoor.Px
