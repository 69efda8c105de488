/- The law GuideTells, of the Lean functions alone: it answers true at every input. No conditions. -/
import Derived.Test.YtbpcfamjidjhjaaDoorPx38
import Derived.Test.YtbpcfamjidjhjaaDoorSpec
namespace Go.Proofs.YtbpcfamjidjhjaaDoor.Px
open Go.Proofs.YtbpcfamjidjhjaaDoor.Sp Go.RowKit Go.Proofs.YtbpcfamjidjhjaaDoorW.PrintWords Go.Proofs.YtbpcfamjidjhjaaDoorW.PrintLast Go.Proofs.YtbpcfamjidjhjaaDoorW.PrintMore
theorem refCheck19 (n : Nat) (a b c d e f h : Int) : sawtoothref19_Check.f (n + 1) a b c d e f h = some (chkQ a b c d e f h) := by
  unfold sawtoothref19_Check.f
  simp only [sawtoothref19_Check.j0]
  by_cases k : cfgOk a b c d e f h
  · rw [chkQ_ok k]
    unfold cfgOk at k
    rw [if_neg (by omega), if_neg (by omega), if_neg (by omega), if_neg (by omega), if_neg (by omega), decide_eq_false (by omega), if_neg (by simp), if_neg (by omega), if_neg (by omega), if_neg (by omega), if_neg (by omega), if_neg (by omega), if_neg (by omega), if_neg (by omega)]
  · rw [chkQ_bad k]
    unfold cfgOk at k
    by_cases q0 : a < 1
    · rw [if_pos q0]; exact if_pos trivial
    rw [if_neg q0]
    by_cases q1 : a > 9000
    · rw [if_pos q1]; exact if_pos trivial
    rw [if_neg q1]
    by_cases q2 : b < 4
    · rw [if_pos q2]; exact if_pos trivial
    rw [if_neg q2]
    by_cases q3 : b > 1048576
    · rw [if_pos q3]; exact if_pos trivial
    rw [if_neg q3]
    by_cases q4 : c < 2
    · rw [if_pos q4]; exact if_pos trivial
    rw [if_neg q4]
    by_cases x : c > b
    · rw [decide_eq_true x]; exact if_pos rfl
    rw [decide_eq_false x, if_neg (show ¬ (false = true) from fun z => by cases z)]
    by_cases q5 : d < 1
    · exact if_pos q5
    rw [if_neg q5]
    by_cases q6 : d > 1000000
    · exact if_pos q6
    rw [if_neg q6]
    by_cases q7 : e < 1
    · exact if_pos q7
    rw [if_neg q7]
    by_cases q8 : e > f
    · exact if_pos q8
    rw [if_neg q8]
    by_cases q9 : f > 1099511627776
    · exact if_pos q9
    rw [if_neg q9]
    by_cases q10 : h < 1
    · exact if_pos q10
    rw [if_neg q10]
    by_cases q11 : h > 1000
    · exact if_pos q11
    · exact absurd (by omega) k
theorem rd19 (l : List S23) (i : Nat) (h : i < l.length) : rd_T23 l (i : Int) = l[i] := by
  unfold rd_T23
  simp [List.getD_eq_getElem?_getD, List.getElem?_eq_getElem h]
theorem refSame19 (l : List S23) (hl : l.length ≤ 1000) : ∀ (n k i : Nat), i + n = l.length → n < k → sawtoothref19_Same.l0 k l l (i : Int) = some true := by
  intro n
  induction n with
  | zero =>
    intro k i h1 h2
    obtain ⟨k, rfl⟩ : ∃ k', k = k' + 1 := ⟨k - 1, by omega⟩
    rw [sawtoothref19_Same.l0, if_neg (by omega)]
  | succ n ih =>
    intro k i h1 h2
    obtain ⟨k, rfl⟩ : ∃ k', k = k' + 1 := ⟨k - 1, by omega⟩
    rw [sawtoothref19_Same.l0, if_pos (by omega), if_pos (by omega), if_pos (by omega), if_neg (by simp), w64 (by omega)]
    exact ih k (i + 1) (by omega) (by omega)
theorem sameAll19 (l : List S23) (hl : l.length ≤ 1000) (k : Nat) (hk : l.length < k) : sawtoothref19_Same.f k l l = some true := by
  unfold sawtoothref19_Same.f
  rw [if_pos rfl]
  exact refSame19 l hl l.length k 0 (by omega) hk
theorem refParts19 (l : List S23) (hl : l.length ≤ 1000) (e : Int) : ∀ (n k i : Nat) (acc : List S23), i + n = l.length → n + 2 ≤ k → acc.length ≤ i → sawtoothref19_Parts.l0 k l e acc (i : Int) = some (acc ++ (l.drop i).filter (fun p => decide (guide_Parts.chk p = e))) := by
  intro n
  induction n with
  | zero =>
    intro k i acc h1 h2 h3
    obtain ⟨k, rfl⟩ : ∃ k', k = k' + 1 := ⟨k - 1, by omega⟩
    rw [sawtoothref19_Parts.l0, if_neg (by omega), List.drop_of_length_le (by omega)]
    simp
  | succ n ih =>
    intro k i acc h1 h2 h3
    obtain ⟨k, rfl⟩ : ∃ k', k = k' + 1 + 1 := ⟨k - 2, by omega⟩
    have hi : i < l.length := by omega
    rw [sawtoothref19_Parts.l0, if_pos (by omega), if_pos (by omega), refCheck19, Option.bind_some, rd19 l i hi, List.drop_eq_getElem_cons hi, w64 (by omega)]
    show (if guide_Parts.chk l[i] = e then (if acc.length < 2513169434916 then sawtoothref19_Parts.l0 (k + 1) l e (acc ++ [l[i]]) ((i : Int) + 1) else none) else sawtoothref19_Parts.l0 (k + 1) l e acc ((i : Int) + 1)) = _
    by_cases c : guide_Parts.chk l[i] = e
    · rw [if_pos c, if_pos (by omega)]
      have := ih (k + 1) (i + 1) (acc ++ [l[i]]) (by omega) (by omega) (by simp; omega)
      rw [List.filter_cons_of_pos (by simpa using c)]
      rw [List.append_assoc] at this
      exact this
    · rw [if_neg c, List.filter_cons_of_neg (by simpa using c)]
      exact ih (k + 1) (i + 1) acc (by omega) (by omega) (by omega)
theorem chk19 (p : S23) : guide_Parts.chk p = 0 ∨ guide_Parts.chk p = 210 := by
  unfold guide_Parts.chk
  by_cases c : cfgOk p.f0 p.f1 p.f2 p.f3 p.f4 p.f5 p.f6
  · exact Or.inl (chkQ_ok c)
  · exact Or.inr (chkQ_bad c)
theorem partsOk19 (l : List S23) (hl : l.length ≤ 1000) (k : Nat) (hk : l.length + 2 ≤ k) : sawtoothref19_Parts.f k l 0 = some (l.filter guide_Parts.ok) := by
  unfold sawtoothref19_Parts.f
  exact refParts19 l hl 0 l.length k 0 [] (by omega) hk (Nat.le_refl _)
theorem partsBad19 (l : List S23) (hl : l.length ≤ 1000) (k : Nat) (hk : l.length + 2 ≤ k) : sawtoothref19_Parts.f k l 210 = some (l.filter fun p => !guide_Parts.ok p) := by
  unfold sawtoothref19_Parts.f
  have := refParts19 l hl 210 l.length k 0 [] (by omega) hk (Nat.le_refl _)
  have e : (fun p => decide (guide_Parts.chk p = 210)) = fun p => !guide_Parts.ok p := by
    funext p
    unfold guide_Parts.ok
    rcases chk19 p with c | c <;> rw [c] <;> rfl
  rw [e] at this
  exact this
theorem refUsed19 (n : Nat) {a b c : Int} (h1 : I a) (h2 : I b) (h3 : I c) : sawtoothref19_Used.f (n + 1) a b c = some (usedQ a b c) := by
  unfold sawtoothref19_Used.f
  simp only [sawtoothref19_Used.j0]
  unfold usedQ sawtoothref02_MulS.f sawtoothref02_CmpS.f
  by_cases k1 : a < 0
  · rw [if_pos k1, if_pos trivial, if_neg (show ¬ (0 ≤ a ∧ 0 ≤ b ∧ 0 ≤ c) by omega)]
  · rw [if_neg k1]
    by_cases k2 : b < 0
    · rw [if_pos k2, if_pos trivial, if_neg (show ¬ (0 ≤ a ∧ 0 ≤ b ∧ 0 ≤ c) by omega)]
    · rw [if_neg k2]
      by_cases k3 : c < 0
      · rw [decide_eq_true k3, if_pos rfl, if_neg (show ¬ (0 ≤ a ∧ 0 ≤ b ∧ 0 ≤ c) by omega)]
      · have p1 := mul_le (A := 9223372036854775807) (C := 9223372036854775807) (show 0 ≤ a by omega) h1.2 (show 0 ≤ c by omega) h3.2
        rw [decide_eq_false k3, if_pos (show 0 ≤ a ∧ 0 ≤ b ∧ 0 ≤ c by omega), if_neg (show ¬ (false = true) from fun z => by cases z), mulF_eq h2 (by omega), mulF_eq h1 h3]
        simp only [Option.bind_some]
        rw [cmpF_enc (by omega) (by omega)]
        simp only [Option.bind_some]
        congr 1
        rw [decide_eq_decide]
        unfold cmpI
        split
        · omega
        · split <;> omega
theorem sawtoothlaw19_GuideTells.pure : ∀ (a0_0 : Int) (a0_1 : Int) (a0_2 : Int) (a0_3 : Int) (a0_4 : Int) (a0_5 : Int) (a0_6 : Int) (a1 : Int) (a2 : Int) (a3 : Int) (a4 : Int) (a5_0 : Bool) (a5_1 : Int) (a5_2 : Int) (a5_3 : Int) (a5_4 : Int) (a5_5 : Int) (l6 : List S23), (Lit.int .i64 a0_0).wf = true → (Lit.int .i64 a0_1).wf = true → (Lit.int .i64 a0_2).wf = true → (Lit.int .i64 a0_3).wf = true → (Lit.int .i64 a0_4).wf = true → (Lit.int .i64 a0_5).wf = true → (Lit.int .i64 a0_6).wf = true → (Lit.int .i64 a1).wf = true → (Lit.int .i64 a2).wf = true → (Lit.int .i64 a3).wf = true → (Lit.int .i64 a4).wf = true → (Lit.int .i64 a5_1).wf = true → (Lit.int .i64 a5_2).wf = true → (Lit.int .i64 a5_3).wf = true → (Lit.int .i64 a5_4).wf = true → (Lit.int .i64 a5_5).wf = true → (∀ x ∈ l6, (Lit.int .i64 x.f0).wf = true ∧ (Lit.int .i64 x.f1).wf = true ∧ (Lit.int .i64 x.f2).wf = true ∧ (Lit.int .i64 x.f3).wf = true ∧ (Lit.int .i64 x.f4).wf = true ∧ (Lit.int .i64 x.f5).wf = true ∧ (Lit.int .i64 x.f6).wf = true) → ∃ k, sawtoothlaw19_GuideTells.f k a0_0 a0_1 a0_2 a0_3 a0_4 a0_5 a0_6 a1 a2 a3 a4 a5_0 a5_1 a5_2 a5_3 a5_4 a5_5 l6 = some true := by
  intro g0 g1 g2 g3 g4 g5 g6 w last now t on s f m k e l v0 v1 v2 v3 v4 v5 v6 v7 v8 v9 v10 v11 v12 v13 v14 v15 _
  have h7 := wf_i64.1 v7
  have h8 := wf_i64.1 v8
  have h9 := wf_i64.1 v9
  have h11 := wf_i64.1 v11
  refine ⟨199 + 1, ?_⟩
  unfold sawtoothlaw19_GuideTells.f sawtoothlaw19_awakeS.f
  by_cases c : (l.length : Int) > 100
  · rw [Option.bind_some, if_pos c]
  · rw [Option.bind_some, if_neg c, guide_Parts.eq (by omega)]
    have ll : l.length ≤ 1000 := by omega
    have FE : sawtoothref19_First.f (199 + 1) g0 g1 g2 g3 g4 g5 g6 = guide_First.f g0 g1 g2 g3 g4 g5 g6 := by
      unfold sawtoothref19_First.f guide_First.f guide_Check.f
      rw [refCheck19, Int.mul_comm 65536 g2]
    obtain ⟨F, hF⟩ : ∃ F, guide_First.f g0 g1 g2 g3 g4 g5 g6 = some F := by
      unfold guide_First.f guide_Check.f
      rw [Option.bind_some]
      by_cases k : chkQ g0 g1 g2 g3 g4 g5 g6 = 0
      · rw [if_pos k]; exact ⟨_, rfl⟩
      · rw [if_neg k]; exact ⟨_, rfl⟩
    obtain ⟨Q, hQ, hQ2⟩ : ∃ Q, guide_Idle.f w last now t g0 g1 g2 g3 g4 g5 g6 = some Q ∧ sawtoothref19_Idle.f (199 + 1) w last now t g0 g1 g2 g3 g4 g5 g6 = some Q := by
      unfold guide_Idle.f sawtoothref19_Idle.f
      rw [FE, hF, safe_SubS.eq h9 h8, sawtoothref01_SubS.eq h9 h8]
      simp only [Option.bind_some]
      by_cases k : near (now - last) ≤ t
      · rw [if_pos k, if_neg (by omega)]; exact ⟨_, rfl, rfl⟩
      · rw [if_neg k, if_pos (by omega)]; exact ⟨_, rfl, rfl⟩
    have PE : sawtoothref19_Pause.f on s f m k e last now = guide_Pause.f on s f m k e last now := by
      unfold sawtoothref19_Pause.f guide_Pause.f
      rw [safe_SubS.eq h9 h8, sawtoothref01_SubS.eq h9 h8]
      simp only [Option.bind_some]
      rw [epoch_ShiftS.eq h11 (near_I _), sawtoothref11_ShiftS.eq h11 (near_I _)]
    obtain ⟨R, hR⟩ : ∃ R, guide_Pause.f on s f m k e last now = some R := by
      unfold guide_Pause.f
      rw [safe_SubS.eq h9 h8]
      simp only [Option.bind_some]
      rw [epoch_ShiftS.eq h11 (near_I _)]
      exact ⟨_, rfl⟩
    unfold guide_Check.f
    rw [refCheck19, FE, hF, hQ, hQ2]
    simp only [Option.bind_some, if_true, sawtoothlaw19_GuideTells.j0]
    rw [PE, hR, guide_UsedS.eq h7 h8 h9, refUsed19 198 h7 h8 h9]
    simp only [Option.bind_some, if_true, beq_self_eq_true, Bool.and_self]
    rw [partsOk19 l ll 199 (by omega)]
    simp only [Option.bind_some]
    rw [sameAll19 _ (by have := List.length_filter_le guide_Parts.ok l; omega) 199 (by have := List.length_filter_le guide_Parts.ok l; omega)]
    simp only [Option.bind_some, if_true]
    rw [partsBad19 l ll 199 (by omega)]
    simp only [Option.bind_some]
    rw [sameAll19 _ (by have := List.length_filter_le (fun p => !guide_Parts.ok p) l; omega) 199 (by have := List.length_filter_le (fun p => !guide_Parts.ok p) l; omega)]
    rfl
end Go.Proofs.YtbpcfamjidjhjaaDoor.Px
