/- The law GuideIdle, of the Lean functions alone: it answers true at every input. No conditions. -/
import Derived.Test.YtbpcfamjidjhjaaDoorPx39
import Derived.Test.YtbpcfamjidjhjaaDoorSpec
namespace Go.Proofs.YtbpcfamjidjhjaaDoor.Px
open Go.Proofs.YtbpcfamjidjhjaaDoor.Sp Go.RowKit Go.Proofs.YtbpcfamjidjhjaaDoorW.PrintWords Go.Proofs.YtbpcfamjidjhjaaDoorW.PrintLast Go.Proofs.YtbpcfamjidjhjaaDoorW.PrintMore
theorem sawtoothlaw19_GuideIdle.pure : ∀ (a0 : Int) (a1 : Int) (a2 : Int) (a3 : Int) (a4_0 : Int) (a4_1 : Int) (a4_2 : Int) (a4_3 : Int) (a4_4 : Int) (a4_5 : Int) (a4_6 : Int), (Lit.int .u32 a0).wf = true → (Lit.int .u32 a1).wf = true → (Lit.int .u32 a2).wf = true → (Lit.int .u32 a3).wf = true → (Lit.int .i64 a4_0).wf = true → (Lit.int .i64 a4_1).wf = true → (Lit.int .i64 a4_2).wf = true → (Lit.int .i64 a4_3).wf = true → (Lit.int .i64 a4_4).wf = true → (Lit.int .i64 a4_5).wf = true → (Lit.int .i64 a4_6).wf = true → sawtoothlaw19_GuideIdle.f a0 a1 a2 a3 a4_0 a4_1 a4_2 a4_3 a4_4 a4_5 a4_6 = some true := by
  intro w a b t g0 g1 g2 g3 g4 g5 g6 w1 w2 w3 w4 w5 w6 w7 w8 w9 w10 w11
  have h1 := wf_u32.1 w1
  have h2 := wf_u32.1 w2
  have h3 := wf_u32.1 w3
  have h4 := wf_u32.1 w4
  unfold sawtoothlaw19_GuideIdle.f sawtoothlaw19_awakeS.f
  have ck : chkQ g0 g1 g2 g3 g4 g5 g6 = 0 → cfgOk g0 g1 g2 g3 g4 g5 g6 := fun e => Classical.byContradiction fun n => by rw [chkQ_bad n] at e; omega
  have fb : 131072 ≤ firstQ g0 g1 g2 g3 g4 g5 g6 ∧ firstQ g0 g1 g2 g3 g4 g5 g6 ≤ 68719476736 := by
    unfold firstQ
    split
    · have := ck (by assumption); unfold cfgOk at this; omega
    · omega
  have FQ : guide_First.f g0 g1 g2 g3 g4 g5 g6 = some (firstQ g0 g1 g2 g3 g4 g5 g6) := by
    unfold guide_First.f guide_Check.f firstQ
    rw [Option.bind_some]
    by_cases k : chkQ g0 g1 g2 g3 g4 g5 g6 = 0
    · have := ck k
      unfold cfgOk at this
      rw [if_pos k, if_pos k, w64 (by omega)]
    · rw [if_neg k, if_neg k]
  generalize firstQ g0 g1 g2 g3 g4 g5 g6 = F at *
  have hM : mx (mn (131072 + w) F) 131072 = mn (131072 + w) F ∧ 131072 ≤ mn (131072 + w) F ∧ mn (131072 + w) F ≤ 131072 + w := by unfold mx mn; (repeat' split) <;> omega
  have IQ : ∀ x, 0 ≤ x → x < 4294967296 → ∃ n, guide_Idle.f (131072 + w) 0 x t g0 g1 g2 g3 g4 g5 g6 = some n ∧ (x ≤ t ∧ n = 131072 + w ∨ t < x ∧ n = mn (131072 + w) F) := by
    intro x x0 x1
    unfold guide_Idle.f
    rw [safe_SubS.eq (by omega) (by omega), near_in (by omega), Option.bind_some]
    by_cases k : x ≤ t
    · exact ⟨_, by rw [if_pos (by omega)], Or.inl ⟨k, rfl⟩⟩
    · exact ⟨_, by rw [if_neg (by omega), FQ, Option.bind_some], Or.inr ⟨by omega, hM.1⟩⟩
  have m : (0 ≤ mn a b ∧ mn a b < 4294967296) ∧ (0 ≤ mx a b ∧ mx a b < 4294967296) ∧ mn a b ≤ mx a b := by unfold mx mn; (repeat' split) <;> omega
  rw [w64 (x := w) (by omega), w64 (x := 131072 + w) (by omega), w64 (x := a) (by omega), w64 (x := t) (by omega), w64 (x := mn a b) (by omega), w64 (x := mx a b) (by omega)]
  generalize mn a b = x at *
  generalize mx a b = y at *
  obtain ⟨n1, e1, k1⟩ := IQ a h2.1 (by omega)
  obtain ⟨n2, e2, k2⟩ := IQ x m.1.1 m.1.2
  obtain ⟨n3, e3, k3⟩ := IQ y m.2.1.1 m.2.1.2
  rw [e1, e2, e3]
  clear e1 e2 e3 IQ

  simp only [Option.bind_some, if_true]
  have c1 : n1 ≤ 131072 + w := by omega
  have c2 : n1 ≥ 131072 := by omega
  have c3 : n3 ≤ n2 := by omega
  rw [if_pos c1, if_pos c2, decide_eq_true c3]
  by_cases k : a > t
  · rw [if_pos k, if_neg (by omega), FQ, Option.bind_some, if_pos (by omega)]
  · rw [if_neg k, if_pos (by omega), if_pos (by omega)]
end Go.Proofs.YtbpcfamjidjhjaaDoor.Px
