/- The law RateExact, of the Lean functions alone: it answers true at every input. No conditions. -/
import Derived.Test.YtghpecgpdhaibaaPx35
import Derived.Test.YtghpecgpdhaibaaSpec
namespace Go.Proofs.Ytghpecgpdhaibaa.Px
open Go.Proofs.Ytghpecgpdhaibaa.Sp Go.RowKit Go.Proofs.YtghpecgpdhaibaaW.PrintWords Go.Proofs.YtghpecgpdhaibaaW.PrintLast Go.Proofs.YtghpecgpdhaibaaW.PrintMore
theorem sawtoothlaw17_RateExact.pure : ∀ (a0 : Int) (a1 : Int) (a2 : Int) (a3 : Bool), (Lit.int .u32 a0).wf = true → (Lit.int .u16 a1).wf = true → (Lit.int .u32 a2).wf = true → sawtoothlaw17_RateExact.f a0 a1 a2 a3 = some true := by
  intro w sg t slow w1 w2 w3
  have h1 := wf_u32.1 w1
  have h2 := wf_u16.1 w2
  have h3 := wf_u32.1 w3
  unfold sawtoothlaw17_RateExact.f sawtoothlaw17_awakeS.f sawtoothref02_MulS.f sawtoothref02_CmpS.f
  simp only [Option.bind_some]
  have ep : RowKit.wrap64 (1 + RowKit.wrap64 (Int.tmod t 1073741824)) = 1 + t % 1073741824 := by
    rw [Int.tmod_eq_emod_of_nonneg (by omega), w64 (x := t % 1073741824) (by omega), w64 (by omega)]
  rw [ep]
  obtain ⟨p, hp⟩ : ∃ p : Int, p = 1 + t % 1073741824 := ⟨_, rfl⟩
  rw [← hp]
  have p1 : 1 ≤ p ∧ p ≤ 1073741824 := by omega
  rw [w64 (x := w) (by omega), w64 (x := sg) (by omega), w64 (x := 8 * p) (by omega)]
  have es : 1 ≤ mx sg 1 ∧ mx sg 1 ≤ 65535 := by unfold mx; split <;> omega
  generalize mx sg 1 = s at *
  have tq : timeQ true (8 * p) 0 = p := by unfold timeQ; rw [if_pos ⟨rfl, by omega, by omega, by omega, by omega⟩]; omega
  have hI := rate_I w s p1.1 p1.2 slow
  have hN := rateN_bd w s slow
  have hD := rateD_bd p1.1 p1.2 slow
  rw [rate_OfS.eq (by omega) (by omega) (by omega) (by omega), tq]
  have fin : ∀ nu d : Int, nu = (if slow = true then 2 else 5) → d = (if slow = true then 1 else 4) →
      ((some (rateQ w s p slow)).bind fun t457 => ((mulF w (RowKit.wrap64 ((RowKit.wrap64 (s * 1000000)) * nu))).bind fun bt458 => ((mulF t457 (RowKit.wrap64 ((RowKit.wrap64 (d * 65536)) * p))).bind fun bt462 => ((mulF (RowKit.wrap64 (t457 + 1)) (RowKit.wrap64 ((RowKit.wrap64 (d * 65536)) * p))).bind fun bt466 => (if t457 ≥ 1 then (if t457 = 1 then ((cmpF bt466.1 bt466.2.1 bt466.2.2 bt458.1 bt458.2.1 bt458.2.2).bind fun t470 => (some (decide (t470 > 0)))) else ((cmpF bt462.1 bt462.2.1 bt462.2.2 bt458.1 bt458.2.1 bt458.2.2).bind fun t471 => (if t471 ≤ 0 then ((cmpF bt466.1 bt466.2.1 bt466.2.2 bt458.1 bt458.2.1 bt458.2.2).bind fun t472 => (some (decide (t472 > 0)))) else (none)))) else (none)))))) = some true := by
    intro nu d hn hd
    have n1 : 2 ≤ nu ∧ nu ≤ 5 := by rw [hn]; cases slow <;> simp
    have d1 : 1 ≤ d ∧ d ≤ 4 := by rw [hd]; cases slow <;> simp
    have m1 : 0 ≤ s * 1000000 * nu ∧ s * 1000000 * nu ≤ 65535000000 * 5 := mul_le (by omega) (by omega) (by omega) n1.2
    have eN : w * (s * 1000000 * nu) = rateN w s slow := by
      unfold rateN
      rw [clamp_in (a := w) (by omega) (by omega), clamp_in (a := s) (by omega) (by omega), ← hn, Int.mul_assoc w nu, Int.mul_comm nu]
    have eD : d * 65536 * p = rateD p slow := by rw [hd]; rfl
    have q1 : 1 ≤ rateQ w s p slow ∧ rateQ w s p slow ≤ 343597383680000000 := by unfold rateQ max1; split <;> omega
    have lo := Int.ediv_mul_le (rateN w s slow) (show rateD p slow ≠ 0 by omega)
    have hi := Int.lt_ediv_add_one_mul_self (rateN w s slow) (show 0 < rateD p slow by omega)
    have q2 : rateQ w s p slow = 1 ∨ rateQ w s p slow * rateD p slow ≤ rateN w s slow := by
      unfold rateQ max1; split
      · exact Or.inl rfl
      · exact Or.inr lo
    have q3 : rateN w s slow < (rateQ w s p slow + 1) * rateD p slow := by
      refine Int.lt_of_lt_of_le hi (Int.mul_le_mul_of_nonneg_right ?_ (by omega))
      unfold rateQ max1; split <;> omega
    have b1 := mulI (a := rateQ w s p slow) (b := rateD p slow) (by omega) (by omega)
    have b2 := mulI (a := rateQ w s p slow + 1) (b := rateD p slow) (by omega) (by omega)
    rw [w64 (x := s * 1000000) (by omega), w64 (x := s * 1000000 * nu) (by omega), w64 (x := d * 65536) (by omega), eD, w64 (x := rateD p slow) (by omega)]
    simp only [Option.bind_some]
    generalize rateQ w s p slow = q at *
    rw [w64 (x := q + 1) (by omega), mulF_eq (a := w) (by omega) (by omega), mulF_eq (a := q) (by omega) (by omega), mulF_eq (a := q + 1) (by omega) (by omega), eN]
    simp only [Option.bind_some]
    generalize rateN w s slow = N at *
    generalize rateD p slow = D at *
    rw [if_pos q1.1, cmpF_enc (by omega) (by omega), cmpF_enc (by omega) (by omega)]
    simp only [Option.bind_some]
    have g : cmpI ((q + 1) * D) N > 0 := by unfold cmpI; split <;> (try split) <;> omega
    by_cases h : q = 1
    · rw [if_pos h, decide_eq_true g]
    · rw [if_neg h, if_pos, decide_eq_true g]
      unfold cmpI; split <;> (try split) <;> omega
  unfold rate_Gain.f
  by_cases s0 : slow = true
  · simp only [if_pos s0, Option.bind_some, if_true]
    exact fin 2 1 (by rw [if_pos s0]) (by rw [if_pos s0])
  · simp only [if_neg s0, Option.bind_some, if_true]
    exact fin 5 4 (by rw [if_neg s0]) (by rw [if_neg s0])
end Go.Proofs.Ytghpecgpdhaibaa.Px
