/- The law CutMany, of the Lean functions alone: it answers true at every input. No conditions. -/
import Derived.Test.YtepmnfjcmppghaaPx47
import Derived.Test.YtepmnfjcmppghaaSpec
namespace Go.Proofs.Ytepmnfjcmppghaa.Px
open Go.Proofs.Ytepmnfjcmppghaa.Sp Go.RowKit Go.Proofs.YtepmnfjcmppghaaW.PrintWords Go.Proofs.YtepmnfjcmppghaaW.PrintLast Go.Proofs.YtepmnfjcmppghaaW.PrintMore
theorem sawtoothlaw15_CutMany.pure : ∀ (a0 : Int) (a1 : Int) (a2 : Int), (Lit.int .i64 a0).wf = true → (Lit.int .u8 a1).wf = true → (Lit.int .u8 a2).wf = true → sawtoothlaw15_CutMany.f a0 a1 a2 = some true := by
  intro n a b w0 w1 w2
  have h0 := wf_i64.1 w0
  have h1 := wf_u8.1 w1
  have h2 := wf_u8.1 w2
  unfold sawtoothlaw15_CutMany.f sawtoothlaw15_awakeS.f
  rw [w64 (x := a) (by omega), w64 (x := b) (by omega), w64 (x := a + b) (by omega), w64 (x := a + 1) (by omega)]
  have hn := win_bd n
  have hk : ∀ t : Int, 131072 ≤ manyW (clamp t 0 64).toNat (win n) ∧ manyW (clamp t 0 64).toNat (win n) ≤ 68719476736 := fun t => by
    have := manyW_bd (clamp t 0 64).toNat hn.1 hn.2; omega
  simp only [Option.bind_some]
  rw [cut_Many.eq h0 (by omega)]
  simp only [Option.bind_some]
  have ha := hk a
  rw [cut_Many.eq (by omega) (by omega), cut_Many.eq h0 (by omega), cut_Many.eq h0 (by omega), cut_Many.eq h0 (by omega), cut_Many.eq h0 (by omega), cut_LeastS.eq h0]
  simp only [Option.bind_some, if_true]
  have ew : win (manyW (clamp a 0 64).toNat (win n)) = manyW (clamp a 0 64).toNat (win n) := clamp_in ha.1 ha.2
  have c50 : (clamp 50 0 64).toNat = 50 := by rw [clamp_in (by omega) (by omega)]; rfl
  have c1 : (clamp 1 0 64).toNat = 1 := by rw [clamp_in (by omega) (by omega)]; rfl
  have E1 : manyW (clamp b 0 64).toNat (manyW (clamp a 0 64).toNat (win n)) = manyW (clamp (a + b) 0 64).toNat (win n) := by
    by_cases c : a + b ≤ 64
    · rw [clamp_in (by omega) (by omega), clamp_in (by omega) (by omega), clamp_in (by omega) (by omega), ← manyW_add, show a.toNat + b.toNat = (a + b).toNat by omega]
    · have e64 : (clamp (a + b) 0 64).toNat = 64 := by unfold clamp; rw [if_neg (by omega), if_pos (by omega)]; rfl
      have hs : 50 ≤ (clamp a 0 64).toNat + (clamp b 0 64).toNat := by
        unfold clamp; (repeat' split) <;> omega
      rw [e64, ← manyW_add, manyW_end hn.1 hn.2 hs, manyW_end hn.1 hn.2 (by omega)]
  have E2 : manyW 1 (win n) = leastW (win n) := by
    show (if 131072 < win n then leastW (win n) else win n) = _
    by_cases c : 131072 < win n
    · rw [if_pos c]
    · rw [if_neg c]
      have : win n = 131072 := by omega
      rw [this]; simp [leastW, clamp]
  have E3 : manyW (clamp (a + 1) 0 64).toNat (win n) ≤ manyW (clamp a 0 64).toNat (win n) := by
    by_cases c : a + 1 ≤ 64
    · rw [clamp_in (by omega) (by omega), clamp_in (by omega) (by omega), show (a + 1).toNat = a.toNat + 1 by omega, manyW_add]
      have bb := manyW_bd a.toNat hn.1 hn.2
      exact (manyS_bd bb.1 (by omega)).2
    · rw [show (clamp (a + 1) 0 64).toNat = (clamp a 0 64).toNat by unfold clamp; (repeat' split) <;> omega]
      exact Int.le_refl _
  rw [ew, if_pos E1, c50, manyW_end hn.1 hn.2 (by omega)]
  simp only [if_true]
  rw [c1, if_pos E2, decide_eq_true E3]
end Go.Proofs.Ytepmnfjcmppghaa.Px
