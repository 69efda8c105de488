/- The law BucketBound, of the Lean functions alone: it answers true at every input. No conditions. -/
import Derived.Test.YtidpdaiolkcgnaaPx42
import Derived.Test.YtidpdaiolkcgnaaSpec
namespace Go.Proofs.Ytidpdaiolkcgnaa.Px
open Go.Proofs.Ytidpdaiolkcgnaa.Sp Go.RowKit Go.Proofs.YtidpdaiolkcgnaaW.PrintWords Go.Proofs.YtidpdaiolkcgnaaW.PrintLast Go.Proofs.YtidpdaiolkcgnaaW.PrintMore
theorem bound_loop {T : Int} (hT : 0 ≤ T ∧ T < 1048576) (l : List S36) (hl : ∀ x ∈ l, I x.f0 ∧ I x.f1 ∧ I x.f2) (hlen : l.length ≤ 60) :
    ∀ (n i : Nat) (had gone t h : Int), n + i = l.length → bOk t h = true → t ≤ 68719476736 → h ≤ T * 1000000 → 0 ≤ gone → gone * 1000000 + h ≤ had → had ≤ 4294967296 + 1048576 * t →
      sawtoothlaw18_BucketBound.l0 (2 * n + 1) l true T had gone (i : Int) t h = some true := by
  intro n
  induction n with
  | zero =>
    intro i had gone t h e b a1 a2 a3 a4 a5
    simp only [sawtoothlaw18_BucketBound.l0]
    rw [if_neg (by omega)]
  | succ n ih =>
    intro i had gone t h e b a1 a2 a3 a4 a5
    rw [show 2 * (n + 1) + 1 = (2 * n + 1) + 1 + 1 by omega]
    generalize 2 * n + 1 = m at ih ⊢
    simp only [sawtoothlaw18_BucketBound.l0, sawtoothlaw18_BucketBound.j1]
    have hi : (i : Int) < (l.length : Int) := by omega
    have h0 : (0 : Int) ≤ (i : Int) := by omega
    have hx : I (rd_T36 l (i : Int)).f0 ∧ I (rd_T36 l (i : Int)).f1 ∧ I (rd_T36 l (i : Int)).f2 := by
      apply hl
      unfold rd_T36
      rw [Int.toNat_natCast, List.getD_eq_getElem?_getD, List.getElem?_eq_getElem (show i < l.length by omega)]
      exact List.getElem_mem _
    generalize (rd_T36 l (i : Int)).f0 = A at *
    generalize (rd_T36 l (i : Int)).f1 = R at *
    generalize (rd_T36 l (i : Int)).f2 = M at *
    obtain ⟨x0, x1, x2⟩ := hx
    simp only [if_pos hi, if_pos h0, if_true]
    by_cases c1 : R < 0
    · rw [if_pos c1]
    rw [if_neg c1]
    by_cases c2 : R ≥ 1048576
    · rw [if_pos c2]
    rw [if_neg c2]
    by_cases c3 : A > 68719476736
    · rw [if_pos (decide_eq_true c3)]
    rw [if_neg (show ¬ decide (A > 68719476736) = true by simpa using c3)]
    have bb := bOk_iff.1 b
    have wi : RowKit.wrap64 ((i : Int) + 1) = ((i + 1 : Nat) : Int) := by rw [w64 (by omega)]; omega
    rw [wi, bucket_FillS.eq (by omega) (by omega) x0 x1 (by omega)]
    simp only [Option.bind_some]
    by_cases c4 : 0 ≤ A ∧ t ≤ A
    rotate_left
    · have f : fillB t h A R T = (t, h, if 0 ≤ A ∧ A ≤ 1099511627776 then 50 else 51) := by
        unfold fillB; rw [if_pos b]
        by_cases c5 : 0 ≤ A ∧ A ≤ 1099511627776
        · rw [if_pos c5, if_pos c5, if_pos (by omega)]
        · rw [if_neg c5, if_neg c5]
      rw [f]
      simp only
      rw [if_neg (by split <;> omega), if_neg (by simp)]
      exact ih (i + 1) had gone t h (by omega) b a1 a2 a3 a4 a5
    · have f : fillB t h A R T = (A, fillH t h A R T, 0) := fillB_in R T b c4.2 (by omega)
      have ok := fillH_ok R T b c4.2 (by omega)
      have bd := fillH_bd R T b c4.2
      have tp : topB T = T * 1000000 := by unfold topB; rw [clamp_in (by omega) (by omega)]
      have cr : clamp R 0 1099511627776 = R := clamp_in (by omega) (by omega)
      have p0 := Int.mul_nonneg (show 0 ≤ R by omega) (show 0 ≤ A - t by omega)
      have p1 := Int.mul_le_mul_of_nonneg_right (show R ≤ 1048576 by omega) (show 0 ≤ A - t by omega)
      have ub : fillH t h A R T ≤ h + R * (A - t) := by unfold fillH; rw [cr]; (repeat' split) <;> omega
      rw [f]
      simp only [if_true]
      rw [w64 (x := A - t) (by omega)]
      generalize fillH t h A R T = H at *
      generalize R * (A - t) = p at *
      rw [w64 (x := p) (by omega), w64 (x := had + p) (by omega), w64 (x := T * 1000000) (by omega), bucket_TakeS.eq x2]
      simp only [Option.bind_some]
      by_cases c6 : M < 1
      · have g : tkB A H M = (A, H, 201) := by unfold tkB; rw [if_pos ok, if_pos c6]
        rw [g]
        simp only
        rw [if_neg (by omega), bucket_CheckS.eq, ok]
        simp only [Option.bind_some, if_true]
        rw [if_neg (by omega), if_neg (by simp), w64 (x := gone * 1000000) (by omega), w64 (x := gone * 1000000 + H) (by omega), if_neg (by omega)]
        exact ih (i + 1) (had + p) gone A H (by omega) ok (by omega) (by omega) a3 (by omega) (by omega)
      · by_cases c7 : H / 1000000 < M
        · have g : tkB A H M = (A, H, 203) := by unfold tkB; rw [if_pos ok, if_neg c6, if_pos c7]
          rw [g]
          simp only
          rw [if_neg (by omega), bucket_CheckS.eq, ok]
          simp only [Option.bind_some, if_true]
          rw [if_neg (by omega), if_neg (by simp), w64 (x := gone * 1000000) (by omega), w64 (x := gone * 1000000 + H) (by omega), if_neg (by omega)]
          exact ih (i + 1) (had + p) gone A H (by omega) ok (by omega) (by omega) a3 (by omega) (by omega)
        · have g : tkB A H M = (A, H - M * 1000000, 0) := by unfold tkB; rw [if_pos ok, if_neg c6, if_neg c7]
          have ok2 : bOk A (H - M * 1000000) = true := bOk_iff.2 (by omega)
          rw [g]
          simp only [if_true]
          rw [bucket_CheckS.eq, ok2]
          simp only [Option.bind_some, if_true]
          rw [if_neg (by omega), w64 (x := gone + M) (by omega), w64 (x := (gone + M) * 1000000) (by omega), w64 (x := (gone + M) * 1000000 + (H - M * 1000000)) (by omega), if_neg (by omega)]
          exact ih (i + 1) (had + p) (gone + M) A (H - M * 1000000) (by omega) ok2 (by omega) (by omega) (by omega) (by omega) (by omega)
theorem sawtoothlaw18_BucketBound.pure : ∀ (a0 : Int) (a1 : Int) (l2 : List S36), (Lit.int .u32 a0).wf = true → (Lit.int .u32 a1).wf = true → (∀ x ∈ l2, (Lit.int .i64 x.f0).wf = true ∧ (Lit.int .i64 x.f1).wf = true ∧ (Lit.int .i64 x.f2).wf = true) → ∃ k, sawtoothlaw18_BucketBound.f k a0 a1 l2 = some true := by
  intro a b l w1 w2 w3
  have h1 := wf_u32.1 w1
  have h2 := wf_u32.1 w2
  refine ⟨2 * l.length + 1, ?_⟩
  unfold sawtoothlaw18_BucketBound.f sawtoothlaw18_awakeS.f
  simp only [Option.bind_some]
  by_cases c : (l.length : Int) > 60
  · rw [if_pos c]
  rw [if_neg c]
  have e : RowKit.wrap64 (Int.tmod a 1048576) = a % 1048576 := by rw [Int.tmod_eq_emod_of_nonneg h1.1, w64 (by omega)]
  rw [e, w64 (x := b) (by omega), w64 (x := a % 1048576 * 1000000) (by omega)]
  have m : mn b (a % 1048576 * 1000000) ≤ b ∧ mn b (a % 1048576 * 1000000) ≤ a % 1048576 * 1000000 ∧ 0 ≤ mn b (a % 1048576 * 1000000) := by unfold mn; split <;> omega
  generalize mn b (a % 1048576 * 1000000) = q at *
  exact bound_loop (T := a % 1048576) (by omega) l (fun x hx => ⟨wf_i64.1 (w3 x hx).1, wf_i64.1 (w3 x hx).2.1, wf_i64.1 (w3 x hx).2.2⟩) (by omega) l.length 0 q 0 0 q (by omega) (bOk_iff.2 (by omega)) (by omega) m.2.1 (by omega) (by omega) (by omega)
end Go.Proofs.Ytidpdaiolkcgnaa.Px
