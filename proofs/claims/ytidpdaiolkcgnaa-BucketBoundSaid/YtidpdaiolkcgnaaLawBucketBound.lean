/- The row of the law BucketBound: for every input the call answers true, and the arguments read as before. No conditions beside the row's own. -/
import Derived.Test.YtidpdaiolkcgnaaRows
import Derived.Test.YtidpdaiolkcgnaaPureBucketBound
import Derived.WalkKit
import Derived.ProofKit
import Derived.OpenShut
import Derived.ShutString
import Derived.ChangeOld
import Derived.Below
import Derived.SizedLaws
import Derived.Lib.SmallJoins
namespace Go.Proofs.Ytidpdaiolkcgnaa.bucketBound
open Go.ChangeShapes Go.WideShapes Go.ChangeAt Go.RowKit Go.Joins Go.Deep
set_option linter.unusedVariables false
open Go.Proofs.Ytidpdaiolkcgnaa.Px Go.Proofs.YtidpdaiolkcgnaaW.PrintWords in
theorem rows36 {H : Type} {enc : TypeId × Value → H} {W : World} {t : TypeId} {base : Nat} {held : Bool} {fuel : Nat} {cs : List Value} {x : DataW H × List MemPlace} (ht : Try.prog.underlying t = some (.slice 36)) (h : DataW.trod enc Try.prog W base (fun _ => true) held fuel t cs = some x) :
    ∃ (a : Option Addr) (c : Nat) (l : List S36), cs = [.slice a l.length c] ∧ l.length ≤ c ∧ Kd.C k36 W a l.length l ∧ ∀ x ∈ l, (Lit.int .i64 x.f0).wf = true ∧ (Lit.int .i64 x.f1).wf = true ∧ (Lit.int .i64 x.f2).wf = true := by
  rcases open_slice ht h with ⟨rfl, _⟩ | ⟨a, l, c, m, n, D, Pl, rfl, _, hl, hm, hmm, _, hx⟩
  · exact ⟨none, 0, [], rfl, Nat.le_refl _, ⟨rfl, by simp, by simp⟩, by simp⟩
  have each : ∀ i, i < l → ∃ s : S36, (W.cell? (a.add (i * 3 + 0)) = some (.int .i64 s.f0) ∧ W.cell? (a.add (i * 3 + 1)) = some (.int .i64 s.f1) ∧ W.cell? (a.add (i * 3 + 2)) = some (.int .i64 s.f2)) ∧ (Lit.int .i64 s.f0).wf = true ∧ (Lit.int .i64 s.f1).wf = true ∧ (Lit.int .i64 s.f2).wf = true := by
    intro i hi
    obtain ⟨cs', h1, h2⟩ := hx i (by rw [hmm]; simp; omega)
    rw [show Try.prog.cellsOf 36 = 3 by kernel_rfl] at h1
    obtain ⟨_, hlen, hcell⟩ := World.cells?_some h1
    obtain ⟨xs, k, _, _, _, hxl, hf⟩ := DataW.trod_struct Try.underlying36 h2
    match xs, hxl, cs', hlen with
    | [y0, y1, y2], _, [v0, v1, v2], _ =>
      have g0 := hf 0 _ rfl
      simp [show Try.prog.cellsOf 3 = 1 by kernel_rfl] at g0
      obtain ⟨a0, e0, _, w0⟩ := DataW.trod_int Try.underlying3 g0
      simp at e0
      subst e0
      have q0 := hcell 0 (by omega)
      rw [Go.Deep.add_add] at q0
      have g1 := hf 1 _ rfl
      simp [show Try.prog.cellsOf 3 = 1 by kernel_rfl] at g1
      obtain ⟨a1, e1, _, w1⟩ := DataW.trod_int Try.underlying3 g1
      simp at e1
      subst e1
      have q1 := hcell 1 (by omega)
      rw [Go.Deep.add_add] at q1
      have g2 := hf 2 _ rfl
      simp [show Try.prog.cellsOf 3 = 1 by kernel_rfl] at g2
      obtain ⟨a2, e2, _, w2⟩ := DataW.trod_int Try.underlying3 g2
      simp at e2
      subst e2
      have q2 := hcell 2 (by omega)
      rw [Go.Deep.add_add] at q2
      exact ⟨⟨a0, a1, a2⟩, ⟨q0, q1, q2⟩, w0, w1, w2⟩
  haveI : Inhabited S36 := ⟨z36⟩
  obtain ⟨f, hf⟩ := choose_lt each
  have hn : ((List.range l).map f).length = l := by simp
  refine ⟨some a, c, (List.range l).map f, by rw [hn], by rw [hn]; exact hl, ⟨rfl, by have h9 : maxLen ≤ 9223372036854775807 := (by decide +kernel); rw [hn]; omega, fun _ => ⟨a, rfl, fun j p hj => ?_⟩⟩, fun x hx => ?_⟩
  · obtain ⟨hj1, hj2⟩ := List.getElem?_eq_some_iff.1 hj
    rw [hn] at hj1
    have hp : f j = p := by simpa using hj2
    subst hp
    refine ⟨[.int .i64 (f j).f0, .int .i64 (f j).f1, .int .i64 (f j).f2], rfl, k36_mk W (f j), fun i u hu => ?_⟩
    have c_ := (hf j hj1).1
    match i, hu with
    | 0, hu => cases hu; exact c_.1
    | 1, hu => cases hu; exact c_.2.1
    | 2, hu => cases hu; exact c_.2.2
    | i + 3, hu => simp at hu
  · obtain ⟨j, hj, rfl⟩ := List.mem_map.1 hx
    exact (hf j (List.mem_range.1 hj)).2
theorem own : ownKnob Try.prog.godebug = none := by kernel_rfl
theorem laidOut : laidOutB Try.prog = true := by kernel_rfl
set_option maxRecDepth 100000 in
theorem lifted (os : Os) (started : os.Started) (H : Type) (enc : TypeId × Value → H) :
    ReturnsInHanded {} Try.checked os 4 .any (Rows.bucketBoundSpec.pre6 enc Try.prog Try.f4 Rows.bucketBoundRow.domain false) (Rows.bucketBoundSpec.post enc Try.prog Try.f4 false true false false) := by
  refine returnsInHanded_of_change_sized (C := Try.checked) own started (by kernel_rfl) Try.func4
    (ChangeSpec.witness6 (enc := enc) (C := Try.checked) false ⟨#[], #[.int .u32 0, .int .u32 0, .slice none 0 0], []⟩ 8 (by kernel_rfl) (by kernel_rfl) (by kernel_rfl) (by kernel_rfl)) ?_
  intro W base args ds gs before hval0 hW hcnd hsz0 _
  have hval : ∀ (j : Nat) t v, Try.f4.params[j]? = some t → args[j]? = some v → Value.okWide Try.prog W .any base t v := hval0
  have hW' := hW
  obtain ⟨p, q, hA0, hV, rfl, hfz, hnd⟩ := hW
  have hA : DataW.TrodAll enc Try.prog W 0 (fun _ => true) true Try.f4.params.toList args.toList ds p := hA0
  rw [Try.params4] at hA hval
  obtain ⟨v0, vs0, d0, ds0, p0, q0, hargs, rfl, rfl, h0, r0⟩ := trodAll_cons hA
  obtain ⟨v1, vs1, d1, ds1, p1, q1, rfl, rfl, rfl, h1, r1⟩ := trodAll_cons r0
  obtain ⟨v2, vs2, d2, ds2, p2, q2, rfl, rfl, rfl, h2, r2⟩ := trodAll_cons r1
  obtain ⟨rfl, rfl, rfl⟩ := trodAll_nil r2
  obtain rfl : args = #[v0, v1, v2] := by cases args; simp_all
  obtain ⟨rfl, rfl⟩ := trodVars_none hV
  obtain ⟨a0, rfl, rfl, rfl, w0⟩ := open_int Try.underlying33 (hval 0 33 v0 rfl rfl) h0
  obtain ⟨a1, rfl, rfl, rfl, w1⟩ := open_int Try.underlying33 (hval 1 33 v1 rfl rfl) h1
  obtain ⟨b2, len2, cap2, rfl⟩ := okWide_slice Try.underlying34 (hval 2 34 v2 rfl rfl)
  have k2 := h2
  have lt2 : ∀ x ∈ p2, x.block < W.heap.size := by obtain ⟨m, hm⟩ := k2; exact DataW.trod_lt m _ _ _ hm
  obtain ⟨fu2, hf2⟩ := h2
  obtain ⟨A2, c2, l2, e2, hc2, hr2, w2⟩ := rows36 Try.underlying34 hf2
  simp [Value.cells] at e2
  obtain ⟨rfl, rfl, rfl⟩ := e2
  clear hA0 hval0 hsz0
  obtain ⟨k, hp⟩ := Px.sawtoothlaw18_BucketBound.pure a0 a1 l2 w0 w1 w2
  refine (Px.sawtoothlaw18_BucketBound.calls k a0 a1 _ _ l2 true W hr2 hc2 hp).mono ?_
  rintro e W' ⟨rfl, bel⟩
  exact ⟨_, rfl, _, _, _, [], _, [], hW', trodAll_mk1 (shut_bool Try.underlying4 _), (trodAll_cons_mk (shut_int Try.underlying33 w0) (trodAll_cons_mk (shut_int Try.underlying33 w1) (trodAll_cons_mk (Below.trod laidOut (by kernel_rfl) (of_decide_eq_true (by kernel_rfl)) k2 bel lt2) trodAll_mk0))), rfl, bel.frame _, fun h => by cases h⟩
theorem over : Rows.bucketBoundRow.holds Try.pinned (OpenSpec.ofChange Rows.bucketBoundSpec) :=
  OpenClaim.holds_of_wide 4 Try.f4 rfl rfl rfl rfl rfl rfl rfl ⟨rfl, rfl, rfl, rfl, rfl⟩ rfl rfl rfl rfl rfl (by kernel_rfl) Try.func4 (by kernel_rfl)
    (of_decide_eq_true (by kernel_rfl)) (by unfold Func.isWrapper; first | (rw [if_pos (by decide +kernel)]; kernel_rfl) | (rw [if_neg (by decide +kernel)]; exact ⟨rfl, rfl⟩))
    (fun os started H enc _ => lifted os started H enc)
theorem proved : Rows.BucketBoundSaid := over
#print axioms proved
end Go.Proofs.Ytidpdaiolkcgnaa.bucketBound
namespace Go.Proofs.Ytidpdaiolkcgnaa
/-- The row, under a short name, for the claim. -/
theorem bucketBound_holds : Rows.BucketBoundSaid := bucketBound.proved
end Go.Proofs.Ytidpdaiolkcgnaa
