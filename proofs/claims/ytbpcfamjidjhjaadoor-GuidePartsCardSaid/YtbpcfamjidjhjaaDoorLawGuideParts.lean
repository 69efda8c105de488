/- The row of the law GuideParts: for every input the call answers true, and the arguments read as before. No conditions beside the row's own. -/
import Derived.Test.YtbpcfamjidjhjaaDoorRows
import Derived.Test.YtbpcfamjidjhjaaDoorPureGuideParts
import Derived.WalkKit
import Derived.ProofKit
import Derived.OpenShut
import Derived.ShutString
import Derived.ChangeOld
import Derived.Below
import Derived.SizedLaws
import Derived.Lib.SmallJoins
import Derived.Deep.Slices
import Derived.ChangeSame
import Derived.ChangeVars
import Derived.JoinedOf
import Derived.RowKit
import Derived.SevenTiedAt
import Derived.Test.YtbpcfamjidjhjaaDoorCards
import Derived.Test.YtbpcfamjidjhjaaDoorTie
namespace Go.Proofs.YtbpcfamjidjhjaaDoor.guideParts
open Go.ChangeShapes Go.WideShapes Go.ChangeAt Go.RowKit Go.Joins Go.Deep
set_option linter.unusedVariables false
set_option maxRecDepth 100000 in
open Go.Proofs.YtbpcfamjidjhjaaDoor.Px Go.Proofs.YtbpcfamjidjhjaaDoorW.PrintWords in
theorem rows23 {H : Type} {enc : TypeId × Value → H} {W : World} {t : TypeId} {base : Nat} {held : Bool} {fuel : Nat} {cs : List Value} {x : DataW H × List MemPlace} (ht : Tryd.prog.underlying t = some (.slice 23)) (h : DataW.trod enc Tryd.prog W base (fun _ => true) held fuel t cs = some x) :
    ∃ (a : Option Addr) (c : Nat) (l : List S23), cs = [.slice a l.length c] ∧ l.length ≤ c ∧ Kd.C k23 W a l.length l ∧ ∀ x ∈ l, (Lit.int .i64 x.f0).wf = true ∧ (Lit.int .i64 x.f1).wf = true ∧ (Lit.int .i64 x.f2).wf = true ∧ (Lit.int .i64 x.f3).wf = true ∧ (Lit.int .i64 x.f4).wf = true ∧ (Lit.int .i64 x.f5).wf = true ∧ (Lit.int .i64 x.f6).wf = true := by
  rcases open_slice ht h with ⟨rfl, _⟩ | ⟨a, l, c, m, n, D, Pl, rfl, _, hl, hm, hmm, _, hx⟩
  · exact ⟨none, 0, [], rfl, Nat.le_refl _, ⟨rfl, by simp, by simp⟩, by simp⟩
  have each : ∀ i, i < l → ∃ s : S23, (W.cell? (a.add (i * 7 + 0)) = some (.int .i64 s.f0) ∧ W.cell? (a.add (i * 7 + 1)) = some (.int .i64 s.f1) ∧ W.cell? (a.add (i * 7 + 2)) = some (.int .i64 s.f2) ∧ W.cell? (a.add (i * 7 + 3)) = some (.int .i64 s.f3) ∧ W.cell? (a.add (i * 7 + 4)) = some (.int .i64 s.f4) ∧ W.cell? (a.add (i * 7 + 5)) = some (.int .i64 s.f5) ∧ W.cell? (a.add (i * 7 + 6)) = some (.int .i64 s.f6)) ∧ (Lit.int .i64 s.f0).wf = true ∧ (Lit.int .i64 s.f1).wf = true ∧ (Lit.int .i64 s.f2).wf = true ∧ (Lit.int .i64 s.f3).wf = true ∧ (Lit.int .i64 s.f4).wf = true ∧ (Lit.int .i64 s.f5).wf = true ∧ (Lit.int .i64 s.f6).wf = true := by
    intro i hi
    obtain ⟨cs', h1, h2⟩ := hx i (by rw [hmm]; simp; omega)
    rw [show Tryd.prog.cellsOf 23 = 7 by kernel_rfl] at h1
    obtain ⟨_, hlen, hcell⟩ := World.cells?_some h1
    obtain ⟨xs, k, _, _, _, hxl, hf⟩ := DataW.trod_struct Tryd.underlying23 h2
    match xs, hxl, cs', hlen with
    | [y0, y1, y2, y3, y4, y5, y6], _, [v0, v1, v2, v3, v4, v5, v6], _ =>
      have g0 := hf 0 _ rfl
      simp [show Tryd.prog.cellsOf 3 = 1 by kernel_rfl] at g0
      obtain ⟨a0, e0, _, w0⟩ := DataW.trod_int Tryd.underlying3 g0
      simp at e0
      subst e0
      have q0 := hcell 0 (by omega)
      rw [Go.Deep.add_add] at q0
      have g1 := hf 1 _ rfl
      simp [show Tryd.prog.cellsOf 3 = 1 by kernel_rfl] at g1
      obtain ⟨a1, e1, _, w1⟩ := DataW.trod_int Tryd.underlying3 g1
      simp at e1
      subst e1
      have q1 := hcell 1 (by omega)
      rw [Go.Deep.add_add] at q1
      have g2 := hf 2 _ rfl
      simp [show Tryd.prog.cellsOf 3 = 1 by kernel_rfl] at g2
      obtain ⟨a2, e2, _, w2⟩ := DataW.trod_int Tryd.underlying3 g2
      simp at e2
      subst e2
      have q2 := hcell 2 (by omega)
      rw [Go.Deep.add_add] at q2
      have g3 := hf 3 _ rfl
      simp [show Tryd.prog.cellsOf 3 = 1 by kernel_rfl] at g3
      obtain ⟨a3, e3, _, w3⟩ := DataW.trod_int Tryd.underlying3 g3
      simp at e3
      subst e3
      have q3 := hcell 3 (by omega)
      rw [Go.Deep.add_add] at q3
      have g4 := hf 4 _ rfl
      simp [show Tryd.prog.cellsOf 3 = 1 by kernel_rfl] at g4
      obtain ⟨a4, e4, _, w4⟩ := DataW.trod_int Tryd.underlying3 g4
      simp at e4
      subst e4
      have q4 := hcell 4 (by omega)
      rw [Go.Deep.add_add] at q4
      have g5 := hf 5 _ rfl
      simp [show Tryd.prog.cellsOf 3 = 1 by kernel_rfl] at g5
      obtain ⟨a5, e5, _, w5⟩ := DataW.trod_int Tryd.underlying3 g5
      simp at e5
      subst e5
      have q5 := hcell 5 (by omega)
      rw [Go.Deep.add_add] at q5
      have g6 := hf 6 _ rfl
      simp [show Tryd.prog.cellsOf 3 = 1 by kernel_rfl] at g6
      obtain ⟨a6, e6, _, w6⟩ := DataW.trod_int Tryd.underlying3 g6
      simp at e6
      subst e6
      have q6 := hcell 6 (by omega)
      rw [Go.Deep.add_add] at q6
      exact ⟨⟨a0, a1, a2, a3, a4, a5, a6⟩, ⟨q0, q1, q2, q3, q4, q5, q6⟩, w0, w1, w2, w3, w4, w5, w6⟩
  haveI : Inhabited S23 := ⟨z23⟩
  obtain ⟨f, hf⟩ := choose_lt each
  have hn : ((List.range l).map f).length = l := by simp
  refine ⟨some a, c, (List.range l).map f, by rw [hn], by rw [hn]; exact hl, ⟨rfl, by have h9 : maxLen ≤ 9223372036854775807 := (by decide +kernel); rw [hn]; omega, fun _ => ⟨a, rfl, fun j p hj => ?_⟩⟩, fun x hx => ?_⟩
  · obtain ⟨hj1, hj2⟩ := List.getElem?_eq_some_iff.1 hj
    rw [hn] at hj1
    have hp : f j = p := by simpa using hj2
    subst hp
    refine ⟨[.int .i64 (f j).f0, .int .i64 (f j).f1, .int .i64 (f j).f2, .int .i64 (f j).f3, .int .i64 (f j).f4, .int .i64 (f j).f5, .int .i64 (f j).f6], rfl, k23_mk W (f j), fun i u hu => ?_⟩
    have c_ := (hf j hj1).1
    match i, hu with
    | 0, hu => cases hu; exact c_.1
    | 1, hu => cases hu; exact c_.2.1
    | 2, hu => cases hu; exact c_.2.2.1
    | 3, hu => cases hu; exact c_.2.2.2.1
    | 4, hu => cases hu; exact c_.2.2.2.2.1
    | 5, hu => cases hu; exact c_.2.2.2.2.2.1
    | 6, hu => cases hu; exact c_.2.2.2.2.2.2
    | i + 7, hu => simp at hu
  · obtain ⟨j, hj, rfl⟩ := List.mem_map.1 hx
    exact (hf j (List.mem_range.1 hj)).2
theorem own : ownKnob Tryd.prog.godebug = none := by kernel_rfl
theorem laidOut : laidOutB Tryd.prog = true := by kernel_rfl
theorem tensG : Tryd.prog.globalNamed "sawtooth/epoch.tens" = some 0 := by kernel_rfl
theorem tensT : (Tryd.prog.globals[0]?).map (·.type) = some 85 := by kernel_rfl
theorem cellsA : Tryd.prog.cellsOf 85 = 2 := by kernel_rfl
theorem cellsE : Tryd.prog.cellsOf 57 = 1 := by kernel_rfl
theorem int_of_trod {H : Type} {enc : TypeId × Value → H} {P : Program} {w : World} {base : Nat} {sp : Nat → Bool} {held : Bool} {fuel : Nat} {t : TypeId} {k : IntKind} {c : Value} {y : DataW H × List MemPlace}
    (ht : P.underlying t = some (.int k)) (h : DataW.trod enc P w base sp held fuel t [c] = some y) : ∃ n, c = .int k n ∧ y = (.lit (.int k n), []) := by
  cases fuel with
  | zero => simp [DataW.trod] at h
  | succ fuel =>
    cases c <;> simp [DataW.trod, ht] at h
    rename_i k' n
    obtain ⟨⟨rfl, _⟩, rfl⟩ := h
    exact ⟨n, rfl, rfl⟩
def tens2 : Array Value := #[.int .u64 1000000000, .int .u64 10000000000]
theorem tens_of_laid {W : World} (h : laidMet Tryd.prog [("sawtooth/epoch.tens", Rows.laid_sawtooth_epoch_tens)] W) : Px.Tens W := by
  obtain ⟨ps, ⟨g, t, cs, fuel, p, q, hg, ht, hvar, hd, hq, rfl⟩, _, hps⟩ := h
  obtain rfl := Option.some.inj (tensG.symm.trans hg)
  obtain rfl := Option.some.inj (tensT.symm.trans ht)
  have hcs : cs = tens2 := by
    obtain ⟨l⟩ := cs
    cases fuel with
    | zero => simp [DataW.trod] at hd
    | succ fuel =>
      simp only [DataW.trod, Tryd.underlying85, cellsA, cellsE] at hd
      split at hd
      · rename_i hl
        obtain ⟨c0, c1, rfl⟩ : ∃ c0 c1, l = [c0, c1] := by
          match l, hl with
          | [a, b], _ => exact ⟨a, b, rfl⟩
        have e : List.range 2 = [0, 1] := rfl
        rw [e] at hd
        simp only [Option.map_eq_some_iff, List.mapM_cons, List.mapM_nil, Option.bind_eq_bind, Option.bind_eq_some_iff, Option.pure_def, Option.some.injEq] at hd
        obtain ⟨xs, ⟨y0, h0, _, ⟨y1, h1, _, rfl, rfl⟩, rfl⟩, hx⟩ := hd
        obtain ⟨n0, rfl, rfl⟩ := int_of_trod Tryd.underlying57 h0
        obtain ⟨n1, rfl, rfl⟩ := int_of_trod Tryd.underlying57 h1
        simp [Rows.laid_sawtooth_epoch_tens] at hx
        obtain ⟨⟨rfl, rfl⟩, _⟩ := hx
        rfl
      · cases hd
  subst hcs
  obtain ⟨⟨c, t, hb⟩, _⟩ := hps 0 0 (by simp [MemPlace.row, tens2, List.range, List.range.loop])
  simp only [World.var?, tensG, Option.bind_some, hb] at hvar
  obtain rfl : c = tens2 := Option.some.inj hvar
  exact ⟨t, hb⟩
noncomputable def laidWorld (os : Os) : World :=
  { World.holding Tryd.prog os ⟨#[], #[], []⟩ with heap := (World.holding Tryd.prog os ⟨#[], #[], []⟩).heap.modify 0 fun
      | .cells _ t frozen => .cells tens2 t frozen
      | o => o }
theorem laidWorld_row (os : Os) : ((laidWorld os).forCall (fun _ _ => 0) ⟨#[], #[.slice none 0 0], []⟩).memory.heap[0]? = some (.cells tens2 85 (0, 0)) := by kernel_rfl

set_option maxRecDepth 100000 in
theorem lifted (os : Os) (started : os.Started) (H : Type) (enc : TypeId × Value → H) :
    ReturnsInHanded {} Tryd.checked os 7 .any (fun w args => (Rows.guidePartsSpec.pre enc Tryd.prog Tryd.f7 [] false w args ∧ laidMet Tryd.prog [("sawtooth/epoch.tens", Rows.laid_sawtooth_epoch_tens)] w) ∧ sizedMet enc Tryd.prog Tryd.f7 (OpenSpec.ofChange Rows.guidePartsSpec) false w args) (Rows.guidePartsSpec.post enc Tryd.prog Tryd.f7 false true false false) := by
  refine returnsInHanded_of_change_and (C := Tryd.checked) (X := fun w _ => laidMet Tryd.prog [("sawtooth/epoch.tens", Rows.laid_sawtooth_epoch_tens)] w) (fun _ _ _ hh h => h.of_heap hh) own started (by kernel_rfl) Tryd.func7
    (ChangeSpec.witness_at (enc := enc) (C := Tryd.checked) (os := os) (X := fun w _ => laidMet Tryd.prog [("sawtooth/epoch.tens", Rows.laid_sawtooth_epoch_tens)] w) false (laidWorld os) #[.slice none 0 0] 8 rfl (by kernel_rfl) (by kernel_rfl) (by kernel_rfl) (by kernel_rfl) (by kernel_rfl)
      ⟨_, ⟨0, 85, tens2, 8, [], [], by kernel_rfl, by kernel_rfl, by kernel_rfl, by kernel_rfl, rfl, rfl⟩, by decide, fun b off h => by
        have h' : MemPlace.cell b off ∈ [MemPlace.cell 0 0, .cell 0 1] := h
        have hb : b = 0 := by
          simp at h'
          omega
        subst hb
        refine ⟨⟨_, _, laidWorld_row os⟩, fun u v hc => ?_⟩
        simp only [World.cell?, laidWorld_row os] at hc
        simp at h'
        rcases h' with rfl | rfl <;> simp [tens2] at hc⟩) ?_
  intro W base args ds gs before hval0 hW _ hsz0 hL0 _
  have hL := tens_of_laid hL0
  have hval : ∀ (j : Nat) t v, Tryd.f7.params[j]? = some t → args[j]? = some v → Value.okWide Tryd.prog W .any base t v := hval0
  have hW' := hW
  obtain ⟨p, q, hA0, hV, rfl, hfz, hnd⟩ := hW
  have hA : DataW.TrodAll enc Tryd.prog W 0 (fun _ => true) true Tryd.f7.params.toList args.toList ds p := hA0
  rw [Tryd.params7] at hA hval
  obtain ⟨v0, vs0, d0, ds0, p0, q0, hargs, rfl, rfl, h0, r0⟩ := trodAll_cons hA
  obtain ⟨rfl, rfl, rfl⟩ := trodAll_nil r0
  obtain rfl : args = #[v0] := by cases args; simp_all
  obtain ⟨rfl, rfl⟩ := trodVars_none hV
  obtain ⟨b0, len0, cap0, rfl⟩ := okWide_slice Tryd.underlying26 (hval 0 26 v0 rfl rfl)
  have k0 := h0
  have lt0 : ∀ x ∈ p0, x.block < W.heap.size := by obtain ⟨m, hm⟩ := k0; exact DataW.trod_lt m _ _ _ hm
  obtain ⟨fu0, hf0⟩ := h0
  obtain ⟨A0, c0, l0, e0, hc0, hr0, w0⟩ := rows23 Tryd.underlying26 hf0
  simp [Value.cells] at e0
  obtain ⟨rfl, rfl, rfl⟩ := e0
  clear hA0 hval0 hsz0
  obtain ⟨k, hp⟩ := Px.sawtoothlaw19_GuideParts.pure l0 w0
  refine (Px.sawtoothlaw19_GuideParts.calls k _ _ l0 true W hr0 hc0 hp hL).mono ?_
  rintro e W' ⟨rfl, bel⟩
  exact ⟨_, rfl, _, _, _, [], _, [], hW', trodAll_mk1 (shut_bool Tryd.underlying4 _), (trodAll_cons_mk (Below.trod laidOut (by kernel_rfl) (of_decide_eq_true (by kernel_rfl)) k0 bel lt0) trodAll_mk0), rfl, bel.frame _, fun h => by cases h⟩
theorem over : Rows.guidePartsRow.holds Tryd.pinned (OpenSpec.ofChange Rows.guidePartsSpec) :=
  OpenClaim.holds_of_wide 7 Tryd.f7 rfl rfl rfl rfl rfl rfl rfl ⟨rfl, rfl, rfl, rfl, rfl⟩ rfl rfl rfl rfl rfl (by kernel_rfl) Tryd.func7 (by kernel_rfl)
    (of_decide_eq_true (by kernel_rfl)) (by unfold Func.isWrapper; first | (rw [if_pos (by decide +kernel)]; kernel_rfl) | (rw [if_neg (by decide +kernel)]; exact ⟨rfl, rfl⟩))
    (fun os started H enc _ => lifted os started H enc)
theorem proved : Rows.GuidePartsSaid := over
theorem card : Rows.GuidePartsCardSaid :=
  Claim7.holds_tied_plain_at .later [] [.data] true (true, "77d96d408689f779e702596040566336866fb888db7685c05dabe577d4c43f5b") false
    proved (fun _ h => by cases h) (by kernel_rfl) (fun _ h => by cases h) guideParts_row_tie rfl ⟨rfl, rfl⟩ (by kernel_rfl) rfl
    (fun f fn hf hfn => by
      obtain rfl : f = 7 := Option.some.inj ((show Tryd.prog.funcNamed "sawtooth/sawtoothlaw19.GuideParts" = some 7 by kernel_rfl).symm.trans hf) |>.symm
      obtain rfl : fn = Tryd.f7 := (Option.some.inj (Tryd.func7.symm.trans hfn)).symm
      refine ⟨by kernel_rfl, fun j t ht => ?_⟩
      have hall : Tryd.f7.params.toList.all (fun x => !Tryd.prog.wantsStandIn x) = true := by kernel_rfl
      have hm : t ∈ Tryd.f7.params.toList := by simpa using Array.mem_of_getElem? ht
      have hx : Tryd.prog.wantsStandIn t = false := by simpa using List.all_eq_true.1 hall t hm
      exact hx)
    (by kernel_rfl)
#print axioms card
end Go.Proofs.YtbpcfamjidjhjaaDoor.guideParts
namespace Go.Proofs.YtbpcfamjidjhjaaDoor
/-- The row, under a short name, for the claim. -/
theorem guideParts_holds : Rows.GuidePartsCardSaid := guideParts.card
end Go.Proofs.YtbpcfamjidjhjaaDoor
