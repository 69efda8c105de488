/- The law GuideParts, of the Lean functions alone: it answers true at every input. No conditions. -/
import Derived.Test.YtbpcfamjidjhjaaDoorPx41
import Derived.Test.YtbpcfamjidjhjaaDoorSpec
namespace Go.Proofs.YtbpcfamjidjhjaaDoor.Px
open Go.Proofs.YtbpcfamjidjhjaaDoor.Sp Go.RowKit Go.Proofs.YtbpcfamjidjhjaaDoorW.PrintWords Go.Proofs.YtbpcfamjidjhjaaDoorW.PrintLast Go.Proofs.YtbpcfamjidjhjaaDoorW.PrintMore
theorem rd19 (l : List S23) (i : Nat) (h : i < l.length) : rd_T23 l (i : Int) = l[i] := by
  unfold rd_T23
  simp [List.getD_eq_getElem?_getD, List.getElem?_eq_getElem h]
theorem refSame19 (l : List S23) (hl : l.length ≤ 1000) : ∀ (n k i : Nat), i + n = l.length → n < k → sawtoothref19_Same.l0 k l l (i : Int) = some true := by
  intro n
  induction n with
  | zero =>
    intro k i h1 h2
    obtain ⟨k, rfl⟩ : ∃ k', k = k' + 1 := ⟨k - 1, by omega⟩
    rw [sawtoothref19_Same.l0, if_neg (by omega)]
  | succ n ih =>
    intro k i h1 h2
    obtain ⟨k, rfl⟩ : ∃ k', k = k' + 1 := ⟨k - 1, by omega⟩
    rw [sawtoothref19_Same.l0, if_pos (by omega), if_pos (by omega), if_pos (by omega), if_neg (by simp), w64 (by omega)]
    exact ih k (i + 1) (by omega) (by omega)
theorem sameAll19 (l : List S23) (hl : l.length ≤ 1000) (k : Nat) (hk : l.length < k) : sawtoothref19_Same.f k l l = some true := by
  unfold sawtoothref19_Same.f
  rw [if_pos rfl]
  exact refSame19 l hl l.length k 0 (by omega) hk
theorem chk19 (p : S23) : guide_Parts.chk p = 0 ∨ guide_Parts.chk p = 210 := by
  unfold guide_Parts.chk
  by_cases c : cfgOk p.f0 p.f1 p.f2 p.f3 p.f4 p.f5 p.f6
  · exact Or.inl (chkQ_ok c)
  · exact Or.inr (chkQ_bad c)
theorem at19 (q : S23 → Bool) (l : List S23) (j : Nat) (h : j < l.length) (hq : q l[j] = true) : ∃ rest, l.filter q = (l.take j).filter q ++ l[j] :: rest := by
  refine ⟨(l.drop (j + 1)).filter q, ?_⟩
  have e : l.filter q = (l.take j ++ l.drop j).filter q := by rw [List.take_append_drop]
  rw [e, List.filter_append, List.drop_eq_getElem_cons h, List.filter_cons_of_pos hq]
theorem rdApp19 (xs ys : List S23) (p : S23) : rd_T23 (xs ++ p :: ys) (xs.length : Int) = p := by
  rw [rd19 _ _ (by simp)]
  simp
theorem len19 (q : S23 → Bool) (l : List S23) (j : Nat) (h : j < l.length) : ((l.take (j + 1)).filter q).length = ((l.take j).filter q).length + (if q l[j] = true then 1 else 0) := by
  rw [List.take_add_one, List.getElem?_eq_getElem h]
  simp only [Option.toList_some, List.filter_append, List.filter_cons, List.filter_nil, List.length_append]
  split <;> simp
theorem loop19 (l : List S23) (hl : l.length ≤ 1000) : ∀ (n k j : Nat), j + n = l.length → 2 * n + l.length + 2 ≤ k →
    sawtoothlaw19_GuideParts.l0 k l true (l.filter guide_Parts.ok) (l.filter fun p => !guide_Parts.ok p) (l.filter guide_Parts.ok) [] [] (l.filter fun p => !guide_Parts.ok p) (((l.take j).filter guide_Parts.ok).length : Int) (((l.take j).filter fun p => !guide_Parts.ok p).length : Int) (j : Int) = some true := by
  have la := List.length_filter_le guide_Parts.ok l
  have lb := List.length_filter_le (fun p => !guide_Parts.ok p) l
  intro n
  induction n with
  | zero =>
    intro k j h1 h2
    obtain ⟨k, rfl⟩ : ∃ k', k = k' + 1 := ⟨k - 1, by omega⟩
    obtain rfl : j = l.length := by omega
    rw [sawtoothlaw19_GuideParts.l0, if_neg (by omega), List.take_length, if_pos rfl, if_pos rfl, if_pos rfl, sameAll19 _ (by omega) k (by omega), Option.bind_some, if_pos rfl, sameAll19 _ (by omega) k (by omega)]
    rfl
  | succ n ih =>
    intro k j h1 h2
    obtain ⟨k, rfl⟩ : ∃ k', k = k' + 1 + 1 := ⟨k - 2, by omega⟩
    have hj : j < l.length := by omega
    have ih' := ih k (j + 1) (by omega) (by omega)
    rw [len19 _ l j hj, len19 _ l j hj] at ih'
    have sa : ((l.take j).filter guide_Parts.ok).length ≤ l.length := Nat.le_trans (List.length_filter_le _ _) (List.length_take_le' j l)
    have sb : ((l.take j).filter fun p => !guide_Parts.ok p).length ≤ l.length := Nat.le_trans (List.length_filter_le _ _) (List.length_take_le' j l)
    rw [sawtoothlaw19_GuideParts.l0, if_pos (by omega), rd19 l j hj]
    have cc : guide_Check.f l[j].f0 l[j].f1 l[j].f2 l[j].f3 l[j].f4 l[j].f5 l[j].f6 = some (guide_Parts.chk l[j]) := rfl
    rw [cc]
    by_cases q : guide_Parts.ok l[j] = true
    · obtain ⟨rest, e⟩ := at19 guide_Parts.ok l j hj q
      have c0 : guide_Parts.chk l[j] = 0 := of_decide_eq_true q
      have lt : ((l.take j).filter guide_Parts.ok).length < (l.filter guide_Parts.ok).length := by rw [e]; simp
      have ra : rd_T23 (l.filter guide_Parts.ok) (((l.take j).filter guide_Parts.ok).length : Int) = l[j] := by
        have := rdApp19 ((l.take j).filter guide_Parts.ok) rest l[j]
        rw [← e] at this
        exact this
      rw [if_pos (by omega), if_pos (by omega), if_pos (by omega), ra, if_pos (by simp), Option.bind_some, c0, sawtoothlaw19_GuideParts.j1, if_pos (show ((0 : Int) == 0) = true from rfl), w64 (by omega), w64 (by omega)]
      rw [if_pos q, if_neg (by rw [q]; simp)] at ih'
      exact ih'
    · have q2 : guide_Parts.ok l[j] = false := Bool.eq_false_iff.mpr q
      obtain ⟨rest, e⟩ := at19 (fun p => !guide_Parts.ok p) l j hj (by rw [q2]; rfl)
      have c0 : ¬ guide_Parts.chk l[j] = 0 := of_decide_eq_false q2
      have lt : ((l.take j).filter fun p => !guide_Parts.ok p).length < (l.filter fun p => !guide_Parts.ok p).length := by rw [e]; simp
      have rb : rd_T23 (l.filter fun p => !guide_Parts.ok p) (((l.take j).filter fun p => !guide_Parts.ok p).length : Int) = l[j] := by
        have := rdApp19 ((l.take j).filter fun p => !guide_Parts.ok p) rest l[j]
        rw [← e] at this
        exact this
      have J : sawtoothlaw19_GuideParts.j1 (k + 1) l true (l.filter guide_Parts.ok) (l.filter fun p => !guide_Parts.ok p) (l.filter guide_Parts.ok) [] [] (l.filter fun p => !guide_Parts.ok p) (((l.take j).filter guide_Parts.ok).length : Int) (((l.take j).filter fun p => !guide_Parts.ok p).length : Int) (j : Int) false = some true := by
        rw [sawtoothlaw19_GuideParts.j1, if_neg (by simp), if_pos (by omega), if_pos (by omega), if_pos (by omega), if_pos (by omega), rb, rd19 l j hj, if_pos (by simp), cc, Option.bind_some, if_neg c0, w64 (by omega), w64 (by omega)]
        rw [if_neg q, if_pos (by rw [q2]; rfl)] at ih'
        exact ih'
      have c1 : (guide_Parts.chk l[j] == 0) = false := beq_eq_false_iff_ne.mpr c0
      rw [Option.bind_some, c1, J]
      split
      · rw [if_pos (by omega), if_pos (by omega)]
        split <;> rfl
      · rfl
theorem sawtoothlaw19_GuideParts.pure : ∀ (l0 : List S23), (∀ x ∈ l0, (Lit.int .i64 x.f0).wf = true ∧ (Lit.int .i64 x.f1).wf = true ∧ (Lit.int .i64 x.f2).wf = true ∧ (Lit.int .i64 x.f3).wf = true ∧ (Lit.int .i64 x.f4).wf = true ∧ (Lit.int .i64 x.f5).wf = true ∧ (Lit.int .i64 x.f6).wf = true) → ∃ k, sawtoothlaw19_GuideParts.f k l0 = some true := by
  intro l _
  refine ⟨400, ?_⟩
  unfold sawtoothlaw19_GuideParts.f sawtoothlaw19_awakeS.f
  by_cases c : (l.length : Int) > 100
  · rw [Option.bind_some, if_pos c]
  · have la := List.length_filter_le guide_Parts.ok l
    have lb := List.length_filter_le (fun p => !guide_Parts.ok p) l
    rw [Option.bind_some, if_neg c, guide_Parts.eq (by omega), Option.bind_some, guide_Parts.eq (by show (l.filter guide_Parts.ok).length ≤ _; omega), Option.bind_some, guide_Parts.eq (by show (l.filter fun p => !guide_Parts.ok p).length ≤ _; omega), Option.bind_some]
    have e1 : (l.filter guide_Parts.ok).filter guide_Parts.ok = l.filter guide_Parts.ok := by simp
    have e2 : (l.filter guide_Parts.ok).filter (fun p => !guide_Parts.ok p) = [] := by simp
    have e3 : (l.filter fun p => !guide_Parts.ok p).filter guide_Parts.ok = [] := by simp
    have e4 : (l.filter fun p => !guide_Parts.ok p).filter (fun p => !guide_Parts.ok p) = l.filter fun p => !guide_Parts.ok p := by simp
    have L := loop19 l (by omega) l.length 400 0 (by omega) (by omega)
    show sawtoothlaw19_GuideParts.l0 400 l true (l.filter guide_Parts.ok) (l.filter fun p => !guide_Parts.ok p) ((l.filter guide_Parts.ok).filter guide_Parts.ok) ((l.filter guide_Parts.ok).filter fun p => !guide_Parts.ok p) ((l.filter fun p => !guide_Parts.ok p).filter guide_Parts.ok) ((l.filter fun p => !guide_Parts.ok p).filter fun p => !guide_Parts.ok p) 0 0 0 = some true
    rw [e1, e2, e3, e4]
    exact L
end Go.Proofs.YtbpcfamjidjhjaaDoor.Px
