/- The row of the law GuideTells: for every input the call answers true, and the arguments read as before. No conditions beside the row's own. -/
import Derived.Test.YtbpcfamjidjhjaaDoorRows
import Derived.Test.YtbpcfamjidjhjaaDoorPureGuideTells
import Derived.WalkKit
import Derived.ProofKit
import Derived.OpenShut
import Derived.ShutString
import Derived.ChangeOld
import Derived.Below
import Derived.SizedLaws
import Derived.Lib.SmallJoins
import Derived.Deep.Slices
import Derived.ChangeSame
import Derived.ChangeVars
import Derived.JoinedOf
import Derived.RowKit
import Derived.SevenTiedAt
import Derived.Test.YtbpcfamjidjhjaaDoorCards
import Derived.Test.YtbpcfamjidjhjaaDoorTie
namespace Go.Proofs.YtbpcfamjidjhjaaDoor.guideTells
open Go.ChangeShapes Go.WideShapes Go.ChangeAt Go.RowKit Go.Joins Go.Deep
set_option linter.unusedVariables false
set_option maxRecDepth 100000 in
open Go.Proofs.YtbpcfamjidjhjaaDoor.Px Go.Proofs.YtbpcfamjidjhjaaDoorW.PrintWords in
theorem rows23 {H : Type} {enc : TypeId × Value → H} {W : World} {t : TypeId} {base : Nat} {held : Bool} {fuel : Nat} {cs : List Value} {x : DataW H × List MemPlace} (ht : Tryd.prog.underlying t = some (.slice 23)) (h : DataW.trod enc Tryd.prog W base (fun _ => true) held fuel t cs = some x) :
    ∃ (a : Option Addr) (c : Nat) (l : List S23), cs = [.slice a l.length c] ∧ l.length ≤ c ∧ Kd.C k23 W a l.length l ∧ ∀ x ∈ l, (Lit.int .i64 x.f0).wf = true ∧ (Lit.int .i64 x.f1).wf = true ∧ (Lit.int .i64 x.f2).wf = true ∧ (Lit.int .i64 x.f3).wf = true ∧ (Lit.int .i64 x.f4).wf = true ∧ (Lit.int .i64 x.f5).wf = true ∧ (Lit.int .i64 x.f6).wf = true := by
  rcases open_slice ht h with ⟨rfl, _⟩ | ⟨a, l, c, m, n, D, Pl, rfl, _, hl, hm, hmm, _, hx⟩
  · exact ⟨none, 0, [], rfl, Nat.le_refl _, ⟨rfl, by simp, by simp⟩, by simp⟩
  have each : ∀ i, i < l → ∃ s : S23, (W.cell? (a.add (i * 7 + 0)) = some (.int .i64 s.f0) ∧ W.cell? (a.add (i * 7 + 1)) = some (.int .i64 s.f1) ∧ W.cell? (a.add (i * 7 + 2)) = some (.int .i64 s.f2) ∧ W.cell? (a.add (i * 7 + 3)) = some (.int .i64 s.f3) ∧ W.cell? (a.add (i * 7 + 4)) = some (.int .i64 s.f4) ∧ W.cell? (a.add (i * 7 + 5)) = some (.int .i64 s.f5) ∧ W.cell? (a.add (i * 7 + 6)) = some (.int .i64 s.f6)) ∧ (Lit.int .i64 s.f0).wf = true ∧ (Lit.int .i64 s.f1).wf = true ∧ (Lit.int .i64 s.f2).wf = true ∧ (Lit.int .i64 s.f3).wf = true ∧ (Lit.int .i64 s.f4).wf = true ∧ (Lit.int .i64 s.f5).wf = true ∧ (Lit.int .i64 s.f6).wf = true := by
    intro i hi
    obtain ⟨cs', h1, h2⟩ := hx i (by rw [hmm]; simp; omega)
    rw [show Tryd.prog.cellsOf 23 = 7 by kernel_rfl] at h1
    obtain ⟨_, hlen, hcell⟩ := World.cells?_some h1
    obtain ⟨xs, k, _, _, _, hxl, hf⟩ := DataW.trod_struct Tryd.underlying23 h2
    match xs, hxl, cs', hlen with
    | [y0, y1, y2, y3, y4, y5, y6], _, [v0, v1, v2, v3, v4, v5, v6], _ =>
      have g0 := hf 0 _ rfl
      simp [show Tryd.prog.cellsOf 3 = 1 by kernel_rfl] at g0
      obtain ⟨a0, e0, _, w0⟩ := DataW.trod_int Tryd.underlying3 g0
      simp at e0
      subst e0
      have q0 := hcell 0 (by omega)
      rw [Go.Deep.add_add] at q0
      have g1 := hf 1 _ rfl
      simp [show Tryd.prog.cellsOf 3 = 1 by kernel_rfl] at g1
      obtain ⟨a1, e1, _, w1⟩ := DataW.trod_int Tryd.underlying3 g1
      simp at e1
      subst e1
      have q1 := hcell 1 (by omega)
      rw [Go.Deep.add_add] at q1
      have g2 := hf 2 _ rfl
      simp [show Tryd.prog.cellsOf 3 = 1 by kernel_rfl] at g2
      obtain ⟨a2, e2, _, w2⟩ := DataW.trod_int Tryd.underlying3 g2
      simp at e2
      subst e2
      have q2 := hcell 2 (by omega)
      rw [Go.Deep.add_add] at q2
      have g3 := hf 3 _ rfl
      simp [show Tryd.prog.cellsOf 3 = 1 by kernel_rfl] at g3
      obtain ⟨a3, e3, _, w3⟩ := DataW.trod_int Tryd.underlying3 g3
      simp at e3
      subst e3
      have q3 := hcell 3 (by omega)
      rw [Go.Deep.add_add] at q3
      have g4 := hf 4 _ rfl
      simp [show Tryd.prog.cellsOf 3 = 1 by kernel_rfl] at g4
      obtain ⟨a4, e4, _, w4⟩ := DataW.trod_int Tryd.underlying3 g4
      simp at e4
      subst e4
      have q4 := hcell 4 (by omega)
      rw [Go.Deep.add_add] at q4
      have g5 := hf 5 _ rfl
      simp [show Tryd.prog.cellsOf 3 = 1 by kernel_rfl] at g5
      obtain ⟨a5, e5, _, w5⟩ := DataW.trod_int Tryd.underlying3 g5
      simp at e5
      subst e5
      have q5 := hcell 5 (by omega)
      rw [Go.Deep.add_add] at q5
      have g6 := hf 6 _ rfl
      simp [show Tryd.prog.cellsOf 3 = 1 by kernel_rfl] at g6
      obtain ⟨a6, e6, _, w6⟩ := DataW.trod_int Tryd.underlying3 g6
      simp at e6
      subst e6
      have q6 := hcell 6 (by omega)
      rw [Go.Deep.add_add] at q6
      exact ⟨⟨a0, a1, a2, a3, a4, a5, a6⟩, ⟨q0, q1, q2, q3, q4, q5, q6⟩, w0, w1, w2, w3, w4, w5, w6⟩
  haveI : Inhabited S23 := ⟨z23⟩
  obtain ⟨f, hf⟩ := choose_lt each
  have hn : ((List.range l).map f).length = l := by simp
  refine ⟨some a, c, (List.range l).map f, by rw [hn], by rw [hn]; exact hl, ⟨rfl, by have h9 : maxLen ≤ 9223372036854775807 := (by decide +kernel); rw [hn]; omega, fun _ => ⟨a, rfl, fun j p hj => ?_⟩⟩, fun x hx => ?_⟩
  · obtain ⟨hj1, hj2⟩ := List.getElem?_eq_some_iff.1 hj
    rw [hn] at hj1
    have hp : f j = p := by simpa using hj2
    subst hp
    refine ⟨[.int .i64 (f j).f0, .int .i64 (f j).f1, .int .i64 (f j).f2, .int .i64 (f j).f3, .int .i64 (f j).f4, .int .i64 (f j).f5, .int .i64 (f j).f6], rfl, k23_mk W (f j), fun i u hu => ?_⟩
    have c_ := (hf j hj1).1
    match i, hu with
    | 0, hu => cases hu; exact c_.1
    | 1, hu => cases hu; exact c_.2.1
    | 2, hu => cases hu; exact c_.2.2.1
    | 3, hu => cases hu; exact c_.2.2.2.1
    | 4, hu => cases hu; exact c_.2.2.2.2.1
    | 5, hu => cases hu; exact c_.2.2.2.2.2.1
    | 6, hu => cases hu; exact c_.2.2.2.2.2.2
    | i + 7, hu => simp at hu
  · obtain ⟨j, hj, rfl⟩ := List.mem_map.1 hx
    exact (hf j (List.mem_range.1 hj)).2
section
variable {H : Type} {enc : TypeId × Value → H} {P : Program} {w : World} {base : Nat} {spare : Nat → Bool} {held : Bool}
theorem open_agg6 {r : Reach} {b0 : Nat} {t : TypeId} {f0 f1 f2 f3 f4 f5 : Field} {v : Value} {d : DataW H} {p : List MemPlace} (hs : P.underlying t = some (.struct #[f0, f1, f2, f3, f4, f5])) (hone : oneCellFields P #[f0, f1, f2, f3, f4, f5] = true) (hC : P.cellsOf t = 6)
    (hv : Value.okWide P w r b0 t v) (h : DataW.Trod enc P w base spare held t v d p) :
    ∃ (v0 v1 v2 v3 v4 v5 : Value) (y0 y1 y2 y3 y4 y5 : DataW H × List MemPlace) (n : Nat), v = .agg #[v0, v1, v2, v3, v4, v5] ∧ d = .agg [y0.1, y1.1, y2.1, y3.1, y4.1, y5.1] ∧ p = y0.2 ++ (y1.2 ++ (y2.2 ++ (y3.2 ++ (y4.2 ++ y5.2)))) ∧
      DataW.trod enc P w base spare held n f0.type [v0] = some y0 ∧ DataW.trod enc P w base spare held n f1.type [v1] = some y1 ∧ DataW.trod enc P w base spare held n f2.type [v2] = some y2 ∧ DataW.trod enc P w base spare held n f3.type [v3] = some y3 ∧ DataW.trod enc P w base spare held n f4.type [v4] = some y4 ∧ DataW.trod enc P w base spare held n f5.type [v5] = some y5 := by
  obtain ⟨cs, rfl, hsz⟩ := okWide_struct hs hv
  obtain ⟨l⟩ := cs
  match l, hsz.trans hC with
  | [c0, c1, c2, c3, c4, c5], _ =>
    obtain ⟨fuel, hf⟩ := h
    obtain ⟨xs, n, _, hx, _, hlen, hg⟩ := DataW.trod_struct hs hf
    obtain ⟨o0, k0⟩ := hone_of hone 0 f0 rfl
    obtain ⟨o1, k1⟩ := hone_of hone 1 f1 rfl
    obtain ⟨o2, k2⟩ := hone_of hone 2 f2 rfl
    obtain ⟨o3, k3⟩ := hone_of hone 3 f3 rfl
    obtain ⟨o4, k4⟩ := hone_of hone 4 f4 rfl
    obtain ⟨o5, k5⟩ := hone_of hone 5 f5 rfl
    match xs, hlen with
    | [y0, y1, y2, y3, y4, y5], _ =>
      simp only [Prod.mk.injEq] at hx
      exact ⟨c0, c1, c2, c3, c4, c5, y0, y1, y2, y3, y4, y5, n, rfl, by simpa using hx.1, by simpa using hx.2, by simpa [Value.cells, o0, k0] using hg 0 f0 rfl, by simpa [Value.cells, o1, k1] using hg 1 f1 rfl, by simpa [Value.cells, o2, k2] using hg 2 f2 rfl, by simpa [Value.cells, o3, k3] using hg 3 f3 rfl, by simpa [Value.cells, o4, k4] using hg 4 f4 rfl, by simpa [Value.cells, o5, k5] using hg 5 f5 rfl⟩
theorem open_agg7 {r : Reach} {b0 : Nat} {t : TypeId} {f0 f1 f2 f3 f4 f5 f6 : Field} {v : Value} {d : DataW H} {p : List MemPlace} (hs : P.underlying t = some (.struct #[f0, f1, f2, f3, f4, f5, f6])) (hone : oneCellFields P #[f0, f1, f2, f3, f4, f5, f6] = true) (hC : P.cellsOf t = 7)
    (hv : Value.okWide P w r b0 t v) (h : DataW.Trod enc P w base spare held t v d p) :
    ∃ (v0 v1 v2 v3 v4 v5 v6 : Value) (y0 y1 y2 y3 y4 y5 y6 : DataW H × List MemPlace) (n : Nat), v = .agg #[v0, v1, v2, v3, v4, v5, v6] ∧ d = .agg [y0.1, y1.1, y2.1, y3.1, y4.1, y5.1, y6.1] ∧ p = y0.2 ++ (y1.2 ++ (y2.2 ++ (y3.2 ++ (y4.2 ++ (y5.2 ++ y6.2))))) ∧
      DataW.trod enc P w base spare held n f0.type [v0] = some y0 ∧ DataW.trod enc P w base spare held n f1.type [v1] = some y1 ∧ DataW.trod enc P w base spare held n f2.type [v2] = some y2 ∧ DataW.trod enc P w base spare held n f3.type [v3] = some y3 ∧ DataW.trod enc P w base spare held n f4.type [v4] = some y4 ∧ DataW.trod enc P w base spare held n f5.type [v5] = some y5 ∧ DataW.trod enc P w base spare held n f6.type [v6] = some y6 := by
  obtain ⟨cs, rfl, hsz⟩ := okWide_struct hs hv
  obtain ⟨l⟩ := cs
  match l, hsz.trans hC with
  | [c0, c1, c2, c3, c4, c5, c6], _ =>
    obtain ⟨fuel, hf⟩ := h
    obtain ⟨xs, n, _, hx, _, hlen, hg⟩ := DataW.trod_struct hs hf
    obtain ⟨o0, k0⟩ := hone_of hone 0 f0 rfl
    obtain ⟨o1, k1⟩ := hone_of hone 1 f1 rfl
    obtain ⟨o2, k2⟩ := hone_of hone 2 f2 rfl
    obtain ⟨o3, k3⟩ := hone_of hone 3 f3 rfl
    obtain ⟨o4, k4⟩ := hone_of hone 4 f4 rfl
    obtain ⟨o5, k5⟩ := hone_of hone 5 f5 rfl
    obtain ⟨o6, k6⟩ := hone_of hone 6 f6 rfl
    match xs, hlen with
    | [y0, y1, y2, y3, y4, y5, y6], _ =>
      simp only [Prod.mk.injEq] at hx
      exact ⟨c0, c1, c2, c3, c4, c5, c6, y0, y1, y2, y3, y4, y5, y6, n, rfl, by simpa using hx.1, by simpa using hx.2, by simpa [Value.cells, o0, k0] using hg 0 f0 rfl, by simpa [Value.cells, o1, k1] using hg 1 f1 rfl, by simpa [Value.cells, o2, k2] using hg 2 f2 rfl, by simpa [Value.cells, o3, k3] using hg 3 f3 rfl, by simpa [Value.cells, o4, k4] using hg 4 f4 rfl, by simpa [Value.cells, o5, k5] using hg 5 f5 rfl, by simpa [Value.cells, o6, k6] using hg 6 f6 rfl⟩
end
theorem own : ownKnob Tryd.prog.godebug = none := by kernel_rfl
theorem laidOut : laidOutB Tryd.prog = true := by kernel_rfl
theorem tensG : Tryd.prog.globalNamed "sawtooth/epoch.tens" = some 0 := by kernel_rfl
theorem tensT : (Tryd.prog.globals[0]?).map (·.type) = some 85 := by kernel_rfl
theorem cellsA : Tryd.prog.cellsOf 85 = 2 := by kernel_rfl
theorem cellsE : Tryd.prog.cellsOf 57 = 1 := by kernel_rfl
theorem int_of_trod {H : Type} {enc : TypeId × Value → H} {P : Program} {w : World} {base : Nat} {sp : Nat → Bool} {held : Bool} {fuel : Nat} {t : TypeId} {k : IntKind} {c : Value} {y : DataW H × List MemPlace}
    (ht : P.underlying t = some (.int k)) (h : DataW.trod enc P w base sp held fuel t [c] = some y) : ∃ n, c = .int k n ∧ y = (.lit (.int k n), []) := by
  cases fuel with
  | zero => simp [DataW.trod] at h
  | succ fuel =>
    cases c <;> simp [DataW.trod, ht] at h
    rename_i k' n
    obtain ⟨⟨rfl, _⟩, rfl⟩ := h
    exact ⟨n, rfl, rfl⟩
def tens2 : Array Value := #[.int .u64 1000000000, .int .u64 10000000000]
theorem tens_of_laid {W : World} (h : laidMet Tryd.prog [("sawtooth/epoch.tens", Rows.laid_sawtooth_epoch_tens)] W) : Px.Tens W := by
  obtain ⟨ps, ⟨g, t, cs, fuel, p, q, hg, ht, hvar, hd, hq, rfl⟩, _, hps⟩ := h
  obtain rfl := Option.some.inj (tensG.symm.trans hg)
  obtain rfl := Option.some.inj (tensT.symm.trans ht)
  have hcs : cs = tens2 := by
    obtain ⟨l⟩ := cs
    cases fuel with
    | zero => simp [DataW.trod] at hd
    | succ fuel =>
      simp only [DataW.trod, Tryd.underlying85, cellsA, cellsE] at hd
      split at hd
      · rename_i hl
        obtain ⟨c0, c1, rfl⟩ : ∃ c0 c1, l = [c0, c1] := by
          match l, hl with
          | [a, b], _ => exact ⟨a, b, rfl⟩
        have e : List.range 2 = [0, 1] := rfl
        rw [e] at hd
        simp only [Option.map_eq_some_iff, List.mapM_cons, List.mapM_nil, Option.bind_eq_bind, Option.bind_eq_some_iff, Option.pure_def, Option.some.injEq] at hd
        obtain ⟨xs, ⟨y0, h0, _, ⟨y1, h1, _, rfl, rfl⟩, rfl⟩, hx⟩ := hd
        obtain ⟨n0, rfl, rfl⟩ := int_of_trod Tryd.underlying57 h0
        obtain ⟨n1, rfl, rfl⟩ := int_of_trod Tryd.underlying57 h1
        simp [Rows.laid_sawtooth_epoch_tens] at hx
        obtain ⟨⟨rfl, rfl⟩, _⟩ := hx
        rfl
      · cases hd
  subst hcs
  obtain ⟨⟨c, t, hb⟩, _⟩ := hps 0 0 (by simp [MemPlace.row, tens2, List.range, List.range.loop])
  simp only [World.var?, tensG, Option.bind_some, hb] at hvar
  obtain rfl : c = tens2 := Option.some.inj hvar
  exact ⟨t, hb⟩
noncomputable def laidWorld (os : Os) : World :=
  { World.holding Tryd.prog os ⟨#[], #[], []⟩ with heap := (World.holding Tryd.prog os ⟨#[], #[], []⟩).heap.modify 0 fun
      | .cells _ t frozen => .cells tens2 t frozen
      | o => o }
theorem laidWorld_row (os : Os) : ((laidWorld os).forCall (fun _ _ => 0) ⟨#[], #[.agg #[.int .i64 0, .int .i64 0, .int .i64 0, .int .i64 0, .int .i64 0, .int .i64 0, .int .i64 0], .int .i64 0, .int .i64 0, .int .i64 0, .int .i64 0, .agg #[.bool false, .int .i64 0, .int .i64 0, .int .i64 0, .int .i64 0, .int .i64 0], .slice none 0 0], []⟩).memory.heap[0]? = some (.cells tens2 85 (0, 0)) := by kernel_rfl

set_option maxRecDepth 100000 in
theorem lifted (os : Os) (started : os.Started) (H : Type) (enc : TypeId × Value → H) :
    ReturnsInHanded {} Tryd.checked os 3 .any (fun w args => (Rows.guideTellsSpec.pre enc Tryd.prog Tryd.f3 [] false w args ∧ laidMet Tryd.prog [("sawtooth/epoch.tens", Rows.laid_sawtooth_epoch_tens)] w) ∧ sizedMet enc Tryd.prog Tryd.f3 (OpenSpec.ofChange Rows.guideTellsSpec) false w args) (Rows.guideTellsSpec.post enc Tryd.prog Tryd.f3 false true false false) := by
  refine returnsInHanded_of_change_and (C := Tryd.checked) (X := fun w _ => laidMet Tryd.prog [("sawtooth/epoch.tens", Rows.laid_sawtooth_epoch_tens)] w) (fun _ _ _ hh h => h.of_heap hh) own started (by kernel_rfl) Tryd.func3
    (ChangeSpec.witness_at (enc := enc) (C := Tryd.checked) (os := os) (X := fun w _ => laidMet Tryd.prog [("sawtooth/epoch.tens", Rows.laid_sawtooth_epoch_tens)] w) false (laidWorld os) #[.agg #[.int .i64 0, .int .i64 0, .int .i64 0, .int .i64 0, .int .i64 0, .int .i64 0, .int .i64 0], .int .i64 0, .int .i64 0, .int .i64 0, .int .i64 0, .agg #[.bool false, .int .i64 0, .int .i64 0, .int .i64 0, .int .i64 0, .int .i64 0], .slice none 0 0] 8 rfl (by kernel_rfl) (by kernel_rfl) (by kernel_rfl) (by kernel_rfl) (by kernel_rfl)
      ⟨_, ⟨0, 85, tens2, 8, [], [], by kernel_rfl, by kernel_rfl, by kernel_rfl, by kernel_rfl, rfl, rfl⟩, by decide, fun b off h => by
        have h' : MemPlace.cell b off ∈ [MemPlace.cell 0 0, .cell 0 1] := h
        have hb : b = 0 := by
          simp at h'
          omega
        subst hb
        refine ⟨⟨_, _, laidWorld_row os⟩, fun u v hc => ?_⟩
        simp only [World.cell?, laidWorld_row os] at hc
        simp at h'
        rcases h' with rfl | rfl <;> simp [tens2] at hc⟩) ?_
  intro W base args ds gs before hval0 hW _ hsz0 hL0 _
  have hL := tens_of_laid hL0
  have hval : ∀ (j : Nat) t v, Tryd.f3.params[j]? = some t → args[j]? = some v → Value.okWide Tryd.prog W .any base t v := hval0
  have hW' := hW
  obtain ⟨p, q, hA0, hV, rfl, hfz, hnd⟩ := hW
  have hA : DataW.TrodAll enc Tryd.prog W 0 (fun _ => true) true Tryd.f3.params.toList args.toList ds p := hA0
  rw [Tryd.params3] at hA hval
  obtain ⟨v0, vs0, d0, ds0, p0, q0, hargs, rfl, rfl, h0, r0⟩ := trodAll_cons hA
  obtain ⟨v1, vs1, d1, ds1, p1, q1, rfl, rfl, rfl, h1, r1⟩ := trodAll_cons r0
  obtain ⟨v2, vs2, d2, ds2, p2, q2, rfl, rfl, rfl, h2, r2⟩ := trodAll_cons r1
  obtain ⟨v3, vs3, d3, ds3, p3, q3, rfl, rfl, rfl, h3, r3⟩ := trodAll_cons r2
  obtain ⟨v4, vs4, d4, ds4, p4, q4, rfl, rfl, rfl, h4, r4⟩ := trodAll_cons r3
  obtain ⟨v5, vs5, d5, ds5, p5, q5, rfl, rfl, rfl, h5, r5⟩ := trodAll_cons r4
  obtain ⟨v6, vs6, d6, ds6, p6, q6, rfl, rfl, rfl, h6, r6⟩ := trodAll_cons r5
  obtain ⟨rfl, rfl, rfl⟩ := trodAll_nil r6
  obtain rfl : args = #[v0, v1, v2, v3, v4, v5, v6] := by cases args; simp_all
  obtain ⟨rfl, rfl⟩ := trodVars_none hV
  have k0 := h0
  have lt0 : ∀ x ∈ p0, x.block < W.heap.size := by obtain ⟨m, hm⟩ := k0; exact DataW.trod_lt m _ _ _ hm
  obtain ⟨c0_0, c0_1, c0_2, c0_3, c0_4, c0_5, c0_6, y0_0, y0_1, y0_2, y0_3, y0_4, y0_5, y0_6, m0, rfl, _, _, t0_0, t0_1, t0_2, t0_3, t0_4, t0_5, t0_6⟩ := open_agg7 Tryd.underlying23 (by kernel_rfl) (by kernel_rfl) (hval 0 23 v0 rfl rfl) h0
  obtain ⟨a0_0, e0_0, _, w0_0⟩ := DataW.trod_int Tryd.underlying3 t0_0
  simp at e0_0
  subst e0_0
  obtain ⟨a0_1, e0_1, _, w0_1⟩ := DataW.trod_int Tryd.underlying3 t0_1
  simp at e0_1
  subst e0_1
  obtain ⟨a0_2, e0_2, _, w0_2⟩ := DataW.trod_int Tryd.underlying3 t0_2
  simp at e0_2
  subst e0_2
  obtain ⟨a0_3, e0_3, _, w0_3⟩ := DataW.trod_int Tryd.underlying3 t0_3
  simp at e0_3
  subst e0_3
  obtain ⟨a0_4, e0_4, _, w0_4⟩ := DataW.trod_int Tryd.underlying3 t0_4
  simp at e0_4
  subst e0_4
  obtain ⟨a0_5, e0_5, _, w0_5⟩ := DataW.trod_int Tryd.underlying3 t0_5
  simp at e0_5
  subst e0_5
  obtain ⟨a0_6, e0_6, _, w0_6⟩ := DataW.trod_int Tryd.underlying3 t0_6
  simp at e0_6
  subst e0_6
  obtain ⟨a1, rfl, rfl, rfl, w1⟩ := open_int Tryd.underlying3 (hval 1 3 v1 rfl rfl) h1
  obtain ⟨a2, rfl, rfl, rfl, w2⟩ := open_int Tryd.underlying3 (hval 2 3 v2 rfl rfl) h2
  obtain ⟨a3, rfl, rfl, rfl, w3⟩ := open_int Tryd.underlying3 (hval 3 3 v3 rfl rfl) h3
  obtain ⟨a4, rfl, rfl, rfl, w4⟩ := open_int Tryd.underlying3 (hval 4 3 v4 rfl rfl) h4
  have k5 := h5
  have lt5 : ∀ x ∈ p5, x.block < W.heap.size := by obtain ⟨m, hm⟩ := k5; exact DataW.trod_lt m _ _ _ hm
  obtain ⟨c5_0, c5_1, c5_2, c5_3, c5_4, c5_5, y5_0, y5_1, y5_2, y5_3, y5_4, y5_5, m5, rfl, _, _, t5_0, t5_1, t5_2, t5_3, t5_4, t5_5⟩ := open_agg6 Tryd.underlying25 (by kernel_rfl) (by kernel_rfl) (hval 5 25 v5 rfl rfl) h5
  obtain ⟨a5_0, e5_0, _⟩ := DataW.trod_bool Tryd.underlying4 t5_0
  simp at e5_0
  subst e5_0
  obtain ⟨a5_1, e5_1, _, w5_1⟩ := DataW.trod_int Tryd.underlying3 t5_1
  simp at e5_1
  subst e5_1
  obtain ⟨a5_2, e5_2, _, w5_2⟩ := DataW.trod_int Tryd.underlying3 t5_2
  simp at e5_2
  subst e5_2
  obtain ⟨a5_3, e5_3, _, w5_3⟩ := DataW.trod_int Tryd.underlying3 t5_3
  simp at e5_3
  subst e5_3
  obtain ⟨a5_4, e5_4, _, w5_4⟩ := DataW.trod_int Tryd.underlying3 t5_4
  simp at e5_4
  subst e5_4
  obtain ⟨a5_5, e5_5, _, w5_5⟩ := DataW.trod_int Tryd.underlying3 t5_5
  simp at e5_5
  subst e5_5
  obtain ⟨b6, len6, cap6, rfl⟩ := okWide_slice Tryd.underlying26 (hval 6 26 v6 rfl rfl)
  have k6 := h6
  have lt6 : ∀ x ∈ p6, x.block < W.heap.size := by obtain ⟨m, hm⟩ := k6; exact DataW.trod_lt m _ _ _ hm
  obtain ⟨fu6, hf6⟩ := h6
  obtain ⟨A6, c6, l6, e6, hc6, hr6, w6⟩ := rows23 Tryd.underlying26 hf6
  simp [Value.cells] at e6
  obtain ⟨rfl, rfl, rfl⟩ := e6
  clear hA0 hval0 hsz0
  obtain ⟨k, hp⟩ := Px.sawtoothlaw19_GuideTells.pure a0_0 a0_1 a0_2 a0_3 a0_4 a0_5 a0_6 a1 a2 a3 a4 a5_0 a5_1 a5_2 a5_3 a5_4 a5_5 l6 w0_0 w0_1 w0_2 w0_3 w0_4 w0_5 w0_6 w1 w2 w3 w4 w5_1 w5_2 w5_3 w5_4 w5_5 w6
  refine (Px.sawtoothlaw19_GuideTells.calls k a0_0 a0_1 a0_2 a0_3 a0_4 a0_5 a0_6 a1 a2 a3 a4 a5_0 a5_1 a5_2 a5_3 a5_4 a5_5 _ _ l6 true W hr6 hc6 hp hL).mono ?_
  rintro e W' ⟨rfl, bel⟩
  exact ⟨_, rfl, _, _, _, [], _, [], hW', trodAll_mk1 (shut_bool Tryd.underlying4 _), (trodAll_cons_mk (Below.trod laidOut (by kernel_rfl) (of_decide_eq_true (by kernel_rfl)) k0 bel lt0) (trodAll_cons_mk (shut_int Tryd.underlying3 w1) (trodAll_cons_mk (shut_int Tryd.underlying3 w2) (trodAll_cons_mk (shut_int Tryd.underlying3 w3) (trodAll_cons_mk (shut_int Tryd.underlying3 w4) (trodAll_cons_mk (Below.trod laidOut (by kernel_rfl) (of_decide_eq_true (by kernel_rfl)) k5 bel lt5) (trodAll_cons_mk (Below.trod laidOut (by kernel_rfl) (of_decide_eq_true (by kernel_rfl)) k6 bel lt6) trodAll_mk0))))))), rfl, bel.frame _, fun h => by cases h⟩
theorem over : Rows.guideTellsRow.holds Tryd.pinned (OpenSpec.ofChange Rows.guideTellsSpec) :=
  OpenClaim.holds_of_wide 3 Tryd.f3 rfl rfl rfl rfl rfl rfl rfl ⟨rfl, rfl, rfl, rfl, rfl⟩ rfl rfl rfl rfl rfl (by kernel_rfl) Tryd.func3 (by kernel_rfl)
    (of_decide_eq_true (by kernel_rfl)) (by unfold Func.isWrapper; first | (rw [if_pos (by decide +kernel)]; kernel_rfl) | (rw [if_neg (by decide +kernel)]; exact ⟨rfl, rfl⟩))
    (fun os started H enc _ => lifted os started H enc)
theorem proved : Rows.GuideTellsSaid := over
theorem card : Rows.GuideTellsCardSaid :=
  Claim7.holds_tied_plain_at .later [] [.data] true (true, "77d96d408689f779e702596040566336866fb888db7685c05dabe577d4c43f5b") false
    proved (fun _ h => by cases h) (by kernel_rfl) (fun _ h => by cases h) guideTells_row_tie rfl ⟨rfl, rfl⟩ (by kernel_rfl) rfl
    (fun f fn hf hfn => by
      obtain rfl : f = 3 := Option.some.inj ((show Tryd.prog.funcNamed "sawtooth/sawtoothlaw19.GuideTells" = some 3 by kernel_rfl).symm.trans hf) |>.symm
      obtain rfl : fn = Tryd.f3 := (Option.some.inj (Tryd.func3.symm.trans hfn)).symm
      refine ⟨by kernel_rfl, fun j t ht => ?_⟩
      have hall : Tryd.f3.params.toList.all (fun x => !Tryd.prog.wantsStandIn x) = true := by kernel_rfl
      have hm : t ∈ Tryd.f3.params.toList := by simpa using Array.mem_of_getElem? ht
      have hx : Tryd.prog.wantsStandIn t = false := by simpa using List.all_eq_true.1 hall t hm
      exact hx)
    (by kernel_rfl)
#print axioms card
end Go.Proofs.YtbpcfamjidjhjaaDoor.guideTells
namespace Go.Proofs.YtbpcfamjidjhjaaDoor
/-- The row, under a short name, for the claim. -/
theorem guideTells_holds : Rows.GuideTellsCardSaid := guideTells.card
end Go.Proofs.YtbpcfamjidjhjaaDoor
