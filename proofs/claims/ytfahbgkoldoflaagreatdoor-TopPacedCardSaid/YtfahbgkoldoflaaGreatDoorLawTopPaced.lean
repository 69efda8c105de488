/- The row of the law TopPaced: for every input the call answers true, and the arguments read as before. No conditions beside the row's own. -/
import Derived.Test.YtfahbgkoldoflaaGreatDoorRows
import Derived.Test.YtfahbgkoldoflaaGreatDoorEngP
import Derived.WalkKit
import Derived.Deep.Matrix
import Derived.ProofKit
import Derived.OpenShut
import Derived.ShutString
import Derived.ChangeOld
import Derived.Below
import Derived.SizedLaws
import Derived.Lib.SmallJoins
import Derived.Deep.Slices
import Derived.ChangeSame
import Derived.ChangeVars
import Derived.JoinedOf
import Derived.RowKit
import Derived.SevenTiedAt
import Derived.Test.YtfahbgkoldoflaaGreatDoorCards
import Derived.Test.YtfahbgkoldoflaaGreatDoorTie
namespace Go.Proofs.YtfahbgkoldoflaaGreatDoor.topPaced
open Go.Proofs.YtfahbgkoldoflaaGreatDoorW Go.ChangeShapes Go.WideShapes Go.ChangeAt Go.RowKit Go.Joins Go.Deep
set_option linter.unusedVariables false
section
variable {H : Type} {enc : TypeId × Value → H} {P : Program} {w : World} {base : Nat} {spare : Nat → Bool} {held : Bool}
theorem open_agg7 {r : Reach} {b0 : Nat} {t : TypeId} {f0 f1 f2 f3 f4 f5 f6 : Field} {v : Value} {d : DataW H} {p : List MemPlace} (hs : P.underlying t = some (.struct #[f0, f1, f2, f3, f4, f5, f6])) (hone : oneCellFields P #[f0, f1, f2, f3, f4, f5, f6] = true) (hC : P.cellsOf t = 7)
    (hv : Value.okWide P w r b0 t v) (h : DataW.Trod enc P w base spare held t v d p) :
    ∃ (v0 v1 v2 v3 v4 v5 v6 : Value) (y0 y1 y2 y3 y4 y5 y6 : DataW H × List MemPlace) (n : Nat), v = .agg #[v0, v1, v2, v3, v4, v5, v6] ∧ d = .agg [y0.1, y1.1, y2.1, y3.1, y4.1, y5.1, y6.1] ∧ p = y0.2 ++ (y1.2 ++ (y2.2 ++ (y3.2 ++ (y4.2 ++ (y5.2 ++ y6.2))))) ∧
      DataW.trod enc P w base spare held n f0.type [v0] = some y0 ∧ DataW.trod enc P w base spare held n f1.type [v1] = some y1 ∧ DataW.trod enc P w base spare held n f2.type [v2] = some y2 ∧ DataW.trod enc P w base spare held n f3.type [v3] = some y3 ∧ DataW.trod enc P w base spare held n f4.type [v4] = some y4 ∧ DataW.trod enc P w base spare held n f5.type [v5] = some y5 ∧ DataW.trod enc P w base spare held n f6.type [v6] = some y6 := by
  obtain ⟨cs, rfl, hsz⟩ := okWide_struct hs hv
  obtain ⟨l⟩ := cs
  match l, hsz.trans hC with
  | [c0, c1, c2, c3, c4, c5, c6], _ =>
    obtain ⟨fuel, hf⟩ := h
    obtain ⟨xs, n, _, hx, _, hlen, hg⟩ := DataW.trod_struct hs hf
    obtain ⟨o0, k0⟩ := hone_of hone 0 f0 rfl
    obtain ⟨o1, k1⟩ := hone_of hone 1 f1 rfl
    obtain ⟨o2, k2⟩ := hone_of hone 2 f2 rfl
    obtain ⟨o3, k3⟩ := hone_of hone 3 f3 rfl
    obtain ⟨o4, k4⟩ := hone_of hone 4 f4 rfl
    obtain ⟨o5, k5⟩ := hone_of hone 5 f5 rfl
    obtain ⟨o6, k6⟩ := hone_of hone 6 f6 rfl
    match xs, hlen with
    | [y0, y1, y2, y3, y4, y5, y6], _ =>
      simp only [Prod.mk.injEq] at hx
      exact ⟨c0, c1, c2, c3, c4, c5, c6, y0, y1, y2, y3, y4, y5, y6, n, rfl, by simpa using hx.1, by simpa using hx.2, by simpa [Value.cells, o0, k0] using hg 0 f0 rfl, by simpa [Value.cells, o1, k1] using hg 1 f1 rfl, by simpa [Value.cells, o2, k2] using hg 2 f2 rfl, by simpa [Value.cells, o3, k3] using hg 3 f3 rfl, by simpa [Value.cells, o4, k4] using hg 4 f4 rfl, by simpa [Value.cells, o5, k5] using hg 5 f5 rfl, by simpa [Value.cells, o6, k6] using hg 6 f6 rfl⟩
end
theorem own : ownKnob Tryz.prog.godebug = none := by kernel_rfl
theorem laidOut : laidOutB Tryz.prog = true := by kernel_rfl
theorem tensG : Tryz.prog.globalNamed "sawtooth/epoch.tens" = some 0 := by kernel_rfl
theorem tensT : (Tryz.prog.globals[0]?).map (·.type) = some 101 := by kernel_rfl
theorem cellsA : Tryz.prog.cellsOf 101 = 2 := by kernel_rfl
theorem cellsE : Tryz.prog.cellsOf 97 = 1 := by kernel_rfl
theorem int_of_trod {H : Type} {enc : TypeId × Value → H} {P : Program} {w : World} {base : Nat} {sp : Nat → Bool} {held : Bool} {fuel : Nat} {t : TypeId} {k : IntKind} {c : Value} {y : DataW H × List MemPlace}
    (ht : P.underlying t = some (.int k)) (h : DataW.trod enc P w base sp held fuel t [c] = some y) : ∃ n, c = .int k n ∧ y = (.lit (.int k n), []) := by
  cases fuel with
  | zero => simp [DataW.trod] at h
  | succ fuel =>
    cases c <;> simp [DataW.trod, ht] at h
    rename_i k' n
    obtain ⟨⟨rfl, _⟩, rfl⟩ := h
    exact ⟨n, rfl, rfl⟩
def tens2 : Array Value := #[.int .u64 1000000000, .int .u64 10000000000]
theorem tens_of_laid {W : World} (h : laidMet Tryz.prog [("sawtooth/epoch.tens", Rows.laid_sawtooth_epoch_tens)] W) : Px.Tens W := by
  obtain ⟨ps, ⟨g, t, cs, fuel, p, q, hg, ht, hvar, hd, hq, rfl⟩, _, hps⟩ := h
  obtain rfl := Option.some.inj (tensG.symm.trans hg)
  obtain rfl := Option.some.inj (tensT.symm.trans ht)
  have hcs : cs = tens2 := by
    obtain ⟨l⟩ := cs
    cases fuel with
    | zero => simp [DataW.trod] at hd
    | succ fuel =>
      simp only [DataW.trod, Tryz.underlying101, cellsA, cellsE] at hd
      split at hd
      · rename_i hl
        obtain ⟨c0, c1, rfl⟩ : ∃ c0 c1, l = [c0, c1] := by
          match l, hl with
          | [a, b], _ => exact ⟨a, b, rfl⟩
        have e : List.range 2 = [0, 1] := rfl
        rw [e] at hd
        simp only [Option.map_eq_some_iff, List.mapM_cons, List.mapM_nil, Option.bind_eq_bind, Option.bind_eq_some_iff, Option.pure_def, Option.some.injEq] at hd
        obtain ⟨xs, ⟨y0, h0, _, ⟨y1, h1, _, rfl, rfl⟩, rfl⟩, hx⟩ := hd
        obtain ⟨n0, rfl, rfl⟩ := int_of_trod Tryz.underlying97 h0
        obtain ⟨n1, rfl, rfl⟩ := int_of_trod Tryz.underlying97 h1
        simp [Rows.laid_sawtooth_epoch_tens] at hx
        obtain ⟨⟨rfl, rfl⟩, _⟩ := hx
        rfl
      · cases hd
  subst hcs
  obtain ⟨⟨c, t, hb⟩, _⟩ := hps 0 0 (by simp [MemPlace.row, tens2, List.range, List.range.loop])
  simp only [World.var?, tensG, Option.bind_some, hb] at hvar
  obtain rfl : c = tens2 := Option.some.inj hvar
  exact ⟨t, hb⟩
noncomputable def laidWorld (os : Os) : World :=
  { World.holding Tryz.prog os ⟨#[], #[], []⟩ with heap := (World.holding Tryz.prog os ⟨#[], #[], []⟩).heap.modify 0 fun
      | .cells _ t frozen => .cells tens2 t frozen
      | o => o }
theorem laidWorld_row (os : Os) : ((laidWorld os).forCall (fun _ _ => 0) ⟨#[], #[.agg #[.int .i64 0, .int .i64 0, .int .i64 0, .int .i64 0, .int .i64 0, .int .i64 0, .int .i64 0], .slice none 0 0], []⟩).memory.heap[0]? = some (.cells tens2 101 (0, 0)) := by kernel_rfl

set_option maxRecDepth 100000 in
theorem lifted (os : Os) (started : os.Started) (H : Type) (enc : TypeId × Value → H) :
    ReturnsInHanded {} Tryz.checked os 5 .any (fun w args => (Rows.topPacedSpec.pre enc Tryz.prog Tryz.f5 [] false w args ∧ laidMet Tryz.prog [("sawtooth/epoch.tens", Rows.laid_sawtooth_epoch_tens)] w) ∧ sizedMet enc Tryz.prog Tryz.f5 (OpenSpec.ofChange Rows.topPacedSpec) false w args) (Rows.topPacedSpec.post enc Tryz.prog Tryz.f5 false true false false) := by
  refine returnsInHanded_of_change_and (C := Tryz.checked) (X := fun w _ => laidMet Tryz.prog [("sawtooth/epoch.tens", Rows.laid_sawtooth_epoch_tens)] w) (fun _ _ _ hh h => h.of_heap hh) own started (by kernel_rfl) Tryz.func5
    (ChangeSpec.witness_at (enc := enc) (C := Tryz.checked) (os := os) (X := fun w _ => laidMet Tryz.prog [("sawtooth/epoch.tens", Rows.laid_sawtooth_epoch_tens)] w) false (laidWorld os) #[.agg #[.int .i64 0, .int .i64 0, .int .i64 0, .int .i64 0, .int .i64 0, .int .i64 0, .int .i64 0], .slice none 0 0] 8 rfl (by kernel_rfl) (by kernel_rfl) (by kernel_rfl) (by kernel_rfl) (by kernel_rfl)
      ⟨_, ⟨0, 101, tens2, 8, [], [], by kernel_rfl, by kernel_rfl, by kernel_rfl, by kernel_rfl, rfl, rfl⟩, by decide, fun b off h => by
        have h' : MemPlace.cell b off ∈ [MemPlace.cell 0 0, .cell 0 1] := h
        have hb : b = 0 := by
          simp at h'
          omega
        subst hb
        refine ⟨⟨_, _, laidWorld_row os⟩, fun u v hc => ?_⟩
        simp only [World.cell?, laidWorld_row os] at hc
        simp at h'
        rcases h' with rfl | rfl <;> simp [tens2] at hc⟩) ?_
  intro W base args ds gs before hval0 hW _ hsz0 hL0 _
  have hL := tens_of_laid hL0
  have hval : ∀ (j : Nat) t v, Tryz.f5.params[j]? = some t → args[j]? = some v → Value.okWide Tryz.prog W .any base t v := hval0
  have hW' := hW
  obtain ⟨p, q, hA0, hV, rfl, hfz, hnd⟩ := hW
  have hA : DataW.TrodAll enc Tryz.prog W 0 (fun _ => true) true Tryz.f5.params.toList args.toList ds p := hA0
  rw [Tryz.params5] at hA hval
  obtain ⟨v0, vs0, d0, ds0, p0, q0, hargs, rfl, rfl, h0, r0⟩ := trodAll_cons hA
  obtain ⟨v1, vs1, d1, ds1, p1, q1, rfl, rfl, rfl, h1, r1⟩ := trodAll_cons r0
  obtain ⟨rfl, rfl, rfl⟩ := trodAll_nil r1
  obtain rfl : args = #[v0, v1] := by cases args; simp_all
  obtain ⟨rfl, rfl⟩ := trodVars_none hV
  have k0 := h0
  have lt0 : ∀ x ∈ p0, x.block < W.heap.size := by obtain ⟨m, hm⟩ := k0; exact DataW.trod_lt m _ _ _ hm
  obtain ⟨c0, c1, c2, c3, c4, c5, c6, y0, y1, y2, y3, y4, y5, y6, m0, rfl, _, _, t0, t1, t2, t3, t4, t5, t6⟩ := open_agg7 Tryz.underlying33 (by kernel_rfl) (by kernel_rfl) (hval 0 33 v0 rfl rfl) h0
  obtain ⟨a0, e0, _, w0⟩ := DataW.trod_int Tryz.underlying3 t0
  simp at e0
  subst e0
  obtain ⟨a1, e1, _, w1⟩ := DataW.trod_int Tryz.underlying3 t1
  simp at e1
  subst e1
  obtain ⟨a2, e2, _, w2⟩ := DataW.trod_int Tryz.underlying3 t2
  simp at e2
  subst e2
  obtain ⟨a3, e3, _, w3⟩ := DataW.trod_int Tryz.underlying3 t3
  simp at e3
  subst e3
  obtain ⟨a4, e4, _, w4⟩ := DataW.trod_int Tryz.underlying3 t4
  simp at e4
  subst e4
  obtain ⟨a5, e5, _, w5⟩ := DataW.trod_int Tryz.underlying3 t5
  simp at e5
  subst e5
  obtain ⟨a6, e6, _, w6⟩ := DataW.trod_int Tryz.underlying3 t6
  simp at e6
  subst e6
  obtain ⟨A1, len1, cap1, rfl⟩ := okWide_slice Tryz.underlying34 (hval 1 34 v1 rfl rfl)
  have k1 := h1
  have lt1 : ∀ x ∈ p1, x.block < W.heap.size := by obtain ⟨m, hm⟩ := k1; exact DataW.trod_lt m _ _ _ hm
  obtain ⟨rows, hl, hC, hc, hm⟩ : ∃ rows : List (List Int), rows.length = len1 ∧ PrintWords.Kd.C (PrintWords.Kd.slice 3 (PrintWords.Kd.int .i64)) W A1 len1 rows ∧ len1 ≤ cap1 ∧ len1 ≤ 9223372036854775807 := by
    obtain ⟨fuel, hf⟩ := h1
    rcases open_int_rows Tryz.underlying34 Tryz.underlying55 Tryz.underlying3 (by kernel_rfl) (by kernel_rfl) hf with ⟨hcs, _⟩ | ⟨a, len, cap, A, L, C, Z, hcs, _, hl, hm, _, hx⟩
    · simp [Value.cells] at hcs
      obtain ⟨rfl, rfl, rfl⟩ := hcs
      exact ⟨[], rfl, ⟨rfl, by omega, fun q => absurd q (by omega)⟩, by omega, by omega⟩
    · simp [Value.cells] at hcs
      obtain ⟨rfl, rfl, rfl⟩ := hcs
      have hmx : cap1 ≤ 9223372036854775807 := by simp [maxLen] at hm; omega
      refine ⟨(List.range len1).map fun r => (Z r).take (L r), by simp, ⟨by simp, by omega, fun _ => ⟨a, rfl, fun j p hp => ?_⟩⟩, hl, by omega⟩
      have hj : j < len1 := by have := (List.getElem?_eq_some_iff.1 hp).1; simpa using this
      have hp' : (Z j).take (L j) = p := by simpa [hj] using hp
      obtain ⟨x1, x2, x3, x4, _, x6, x7⟩ := hx j (by omega)
      have hlen : p.length = L j := by rw [← hp', List.length_take]; omega
      have hC3 : C j ≤ 9223372036854775807 := by simp [maxLen] at x3; omega
      refine ⟨[.slice (A j) (L j) (C j)], rfl, ⟨A j, C j, by rw [hlen], by omega, ⟨rfl, by omega, fun h0 => ?_⟩⟩, fun i u hu => ?_⟩
      · rcases ha : A j with _ | a'
        · have := x6 ha; omega
        · refine ⟨a', rfl, fun i n hn => ⟨[.int .i64 n], rfl, rfl, fun q u hu => ?_⟩⟩
          have hi : i < L j := by have := (List.getElem?_eq_some_iff.1 hn).1; omega
          obtain rfl : q = 0 := by have := (List.getElem?_eq_some_iff.1 hu).1; simp at this; omega
          obtain rfl : Value.int .i64 n = u := by simpa using hu
          have hz := (x7 a' ha).2 i (by omega)
          show W.cell? (a'.add (i * 1 + 0)) = _
          rw [Nat.mul_one, Nat.add_zero, hz]
          have hn' : (Z j)[i]? = some n := by rw [← hp', List.getElem?_take] at hn; simpa [hi] using hn
          rw [List.getD_eq_getElem?_getD, hn']
          rfl
      · obtain rfl : i = 0 := by have := (List.getElem?_eq_some_iff.1 hu).1; simp at this; omega
        obtain rfl : Value.slice (A j) (L j) (C j) = u := by simpa using hu
        show W.cell? (a.add (j * 1 + 0)) = _
        rw [Nat.mul_one, Nat.add_zero]
        exact x1
  subst hl
  clear hA0 hval0 hsz0
  refine (Px.paced_w a0 a1 a2 a3 a4 a5 a6 A1 cap1 rows W hC hc hm hL).mono ?_
  rintro e W' ⟨rfl, bel⟩
  exact ⟨_, rfl, _, _, _, [], _, [], hW', trodAll_mk1 (shut_bool Tryz.underlying4 _), (trodAll_cons_mk (Below.trod laidOut (by kernel_rfl) (of_decide_eq_true (by kernel_rfl)) k0 bel lt0) (trodAll_cons_mk (Below.trod laidOut (by kernel_rfl) (of_decide_eq_true (by kernel_rfl)) k1 bel lt1) trodAll_mk0)), rfl, bel.frame _, fun h => by cases h⟩
theorem over : Rows.topPacedRow.holds Tryz.pinned (OpenSpec.ofChange Rows.topPacedSpec) :=
  OpenClaim.holds_of_wide 5 Tryz.f5 rfl rfl rfl rfl rfl rfl rfl ⟨rfl, rfl, rfl, rfl, rfl⟩ rfl rfl rfl rfl rfl (by kernel_rfl) Tryz.func5 (by kernel_rfl)
    (of_decide_eq_true (by kernel_rfl)) (by unfold Func.isWrapper; first | (rw [if_pos (by decide +kernel)]; kernel_rfl) | (rw [if_neg (by decide +kernel)]; exact ⟨rfl, rfl⟩))
    (fun os started H enc _ => lifted os started H enc)
theorem proved : Rows.TopPacedSaid := over
theorem card : Rows.TopPacedCardSaid :=
  Claim7.holds_tied_plain_at .later [] [.data] true (true, "9303b2d717dca2b1cdbd913a62d33ece28c63e64bf7fba940925454d22391742") true
    proved (fun _ h => by cases h) (by kernel_rfl) (fun _ h => by cases h) topPaced_row_tie rfl ⟨rfl, rfl⟩ (by kernel_rfl) rfl
    (fun f fn hf hfn => by
      obtain rfl : f = 5 := Option.some.inj ((show Tryz.prog.funcNamed "sawtooth/sawtoothtop.TopPaced" = some 5 by kernel_rfl).symm.trans hf) |>.symm
      obtain rfl : fn = Tryz.f5 := (Option.some.inj (Tryz.func5.symm.trans hfn)).symm
      refine ⟨by kernel_rfl, fun j t ht => ?_⟩
      have hall : Tryz.f5.params.toList.all (fun x => !Tryz.prog.wantsStandIn x) = true := by kernel_rfl
      have hm : t ∈ Tryz.f5.params.toList := by simpa using Array.mem_of_getElem? ht
      have hx : Tryz.prog.wantsStandIn t = false := by simpa using List.all_eq_true.1 hall t hm
      exact hx)
    (by kernel_rfl)
#print axioms card
end Go.Proofs.YtfahbgkoldoflaaGreatDoor.topPaced
namespace Go.Proofs.YtfahbgkoldoflaaGreatDoor
/-- The row, under a short name, for the claim. -/
theorem topPaced_holds : Rows.TopPacedCardSaid := topPaced.card
end Go.Proofs.YtfahbgkoldoflaaGreatDoor
