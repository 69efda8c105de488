/- The law CubicReach, of the Lean functions alone: it answers true at every input. No conditions. -/
import Derived.Test.YtgakpcfmgcpeaaaDoorPx43
import Derived.Test.YtgakpcfmgcpeaaaDoorSpec
namespace Go.Proofs.YtgakpcfmgcpeaaaDoor.Px
open Go.Proofs.YtgakpcfmgcpeaaaDoor.Sp Go.RowKit Go.Proofs.YtgakpcfmgcpeaaaDoorW.PrintWords Go.Proofs.YtgakpcfmgcpeaaaDoorW.PrintLast Go.Proofs.YtgakpcfmgcpeaaaDoorW.PrintMore
theorem sawtoothlaw12_CubicReach.pure : ∀ (a0_0 : Bool) (a0_1 : Int) (a0_2 : Int) (a0_3 : Int) (a0_4 : Int) (a0_5 : Int) (a1 : Int) (a2 : Int), (Lit.int .i64 a0_1).wf = true → (Lit.int .i64 a0_2).wf = true → (Lit.int .i64 a0_3).wf = true → (Lit.int .i64 a0_4).wf = true → (Lit.int .i64 a0_5).wf = true → (Lit.int .i64 a1).wf = true → (Lit.int .u32 a2).wf = true → sawtoothlaw12_CubicReach.f a0_0 a0_1 a0_2 a0_3 a0_4 a0_5 a1 a2 = some true := by
  intro on s f m k e w more w1 w2 w3 w4 w5 w6 w7
  have h1 := wf_i64.1 w1
  have h2 := wf_i64.1 w2
  have h3 := wf_i64.1 w3
  have h4 := wf_i64.1 w4
  have h5 := wf_i64.1 w5
  have h6 := wf_i64.1 w6
  unfold sawtoothlaw12_CubicReach.f sawtoothlaw12_awakeS.f
  have iv : ∀ x : Int, I (RowKit.wrap64 x) := by intro x; unfold RowKit.wrap64; omega
  have hv := iv (RowKit.wrap64 (Int.tdiv w 2) + RowKit.wrap64 more)
  generalize RowKit.wrap64 (RowKit.wrap64 (Int.tdiv w 2) + RowKit.wrap64 more) = v at *
  rw [cubic_Reach.eq h1 h2 h3 h4 h5 h6, cubic_Reach.eq h1 h2 h3 h4 h5 hv, epoch_CheckS.eq h1 h2 h3]
  by_cases c : on = true ∧ eOk on s f m k e = true
  · obtain ⟨rfl, c2⟩ := c
    have ev := eOk_on.1 c2
    have kb := eOn_k ev
    unfold eOn at ev
    have at' : ∀ t, atQ true s f m k e t = lawQ m k (t - s) := by intro t; unfold atQ; rw [if_pos ⟨rfl, c2⟩]
    have far : lawQ m k (2147483648 + k) = 68719476736 := by
      unfold lawQ
      rw [show 2147483648 + k - k = 2147483648 by omega]
      have : riseQ 2147483648 ≥ 68719476736 := by simp [riseQ, c31, clamp]
      generalize riseQ 2147483648 = z at *
      unfold clamp
      (repeat' split) <;> omega
    unfold reachQ
    rw [far, c2]
    by_cases d : w ≤ 68719476736
    · have d' : w ≤ lawQ m k (2147483648 + k) := by omega
      obtain ⟨n0, n1, n2, n3⟩ := reachN_spec (h := 2147483648 + k) (by omega) d'
      have hr : ∀ x, x ≤ 68719476736 → w ≤ x → reachN m k w ≤ reachN m k x := by
        intro x x1 x2
        obtain ⟨y0, y1, y2, y3⟩ := reachN_spec (m := m) (k := k) (w := x) (h := 2147483648 + k) (by omega) (by omega)
        rcases Int.lt_or_le (reachN m k x) (reachN m k w) with z | z
        · have := n3 _ y0 z; omega
        · exact z
      have hr' := hr v
      rw [if_pos (show (true = true ∧ true = true) ∧ w ≤ 68719476736 from ⟨⟨rfl, rfl⟩, d⟩) ] 
      generalize reachN m k w = N at *
      generalize reachN m k v = N2 at *
      have A1 : cubic_AtS.f true s f m k e (RowKit.wrap64 (s + N)) = some (lawQ m k N) := by
        rw [w64 (x := s + N) (by omega), cubic_AtS.eq h1 h2 h3 h4 (by omega), at', show s + N - s = N by omega]
      have A2 : cubic_AtS.f true s f m k e (RowKit.wrap64 (RowKit.wrap64 (s + N) - 1)) = some (lawQ m k (N - 1)) := by
        rw [w64 (x := s + N) (by omega), w64 (x := s + N - 1) (by omega), cubic_AtS.eq h1 h2 h3 h4 (by omega), at', show s + N - 1 - s = N - 1 by omega]
      have d2 : lawQ m k N ≥ w := n2
      by_cases x : v ≤ 68719476736
      · rw [if_pos (show (true = true ∧ true = true) ∧ v ≤ 68719476736 from ⟨⟨rfl, rfl⟩, x⟩)]
        simp only [Option.bind_some, if_true]
        rw [A1, A2]
        simp only [Option.bind_some]
        have fin : (if v < w then some true else some (decide (N2 ≥ N))) = some true := by
          by_cases y : v < w
          · rw [if_pos y]
          · rw [if_neg y, decide_eq_true (hr' x (by omega))]
        rw [if_pos d2, fin]
        by_cases z : N = 0
        · rw [if_pos z]
        · rw [if_neg z, if_pos (n3 _ (by omega) (by omega)), if_pos d2]
      · rw [if_neg (show ¬ ((true = true ∧ true = true) ∧ v ≤ 68719476736) from fun y => x y.2)]
        simp only [Option.bind_some, if_true]
        rw [A1, A2]
        simp only [Option.bind_some]
        rw [if_pos d2]
        by_cases z : N = 0
        · rw [if_pos z]; simp
        · rw [if_neg z, if_pos (n3 _ (by omega) (by omega)), if_pos d2]; simp
    · rw [if_neg (show ¬ ((true = true ∧ true = true) ∧ w ≤ 68719476736) from fun y => d y.2)]
      have d' : w > 68719476736 := by omega
      generalize (if (true = true ∧ true = true) ∧ v ≤ 68719476736 then (reachN m k v, true) else ((0, false) : Int × Bool)) = r
      simp [d']
  · have hr : ∀ x, reachQ on s f m k e x = (0, false) := by intro x; unfold reachQ; rw [if_neg (fun y => c y.1)]
    rw [hr, hr]
    generalize eOk on s f m k e = o at *
    cases on
    · simp
    · cases o
      · simp
      · exact absurd ⟨rfl, rfl⟩ c
end Go.Proofs.YtgakpcfmgcpeaaaDoor.Px
