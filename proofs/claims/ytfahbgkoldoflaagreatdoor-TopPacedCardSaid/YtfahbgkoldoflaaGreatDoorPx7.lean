/- Printed by px.py, over the kit's print. Conditions: none beside the theorems' own. -/
import Derived.Test.YtfahbgkoldoflaaGreatDoorPx0
import Derived.Test.YtfahbgkoldoflaaGreatDoorPx6
import Derived.Test.YtfahbgkoldoflaaGreatDoorSpec
namespace Go.Proofs.YtfahbgkoldoflaaGreatDoor.Px
open Go.RowKit Go.Proofs.YtfahbgkoldoflaaGreatDoorW.PrintWords Go.Proofs.YtfahbgkoldoflaaGreatDoorW.PrintLast Go.Proofs.YtfahbgkoldoflaaGreatDoorW.PrintMore
attribute [local go_sem] max2_int min2_int max_two min_two max_three min_three max_four min_four
set_option linter.unusedVariables false
set_option linter.unusedSimpArgs false

/-! ### bits_Div64S: a quotient of 128 bits by 64, and what is left over: pure, behind function 106 -/
section Div64
open Go.Proofs.YtfahbgkoldoflaaGreatDoor.Sp

theorem div64_q0 {y yn1 yn0 u un q r : Int} (hy : y = yn1 * 4294967296 + yn0) (h1 : 2147483648 ≤ yn1) (h2 : yn1 < 4294967296) (h3 : 0 ≤ yn0) (h4 : yn0 < 4294967296)
  (hu0 : 0 ≤ u) (huy : u < y) (hn0 : 0 ≤ un) (hn : un < 4294967296) (hr : r = u - q * yn1) : q * y = (u - r) * 4294967296 + q * yn0 := by
 subst hr; subst hy
 rw [show u - (u - q * yn1) = q * yn1 by omega, Int.mul_add, Int.mul_assoc]

theorem div64_lt {y u un : Int} (hy : 0 < y) (huy : u < y) (hn : un < 4294967296) : (u * 4294967296 + un) / y < 4294967296 := by
 rw [Int.ediv_lt_iff_lt_mul hy]; omega

theorem div64_ge {y yn1 yn0 u un : Int} (hy : y = yn1 * 4294967296 + yn0) (h1 : 2147483648 ≤ yn1) (h3 : 0 ≤ yn0) (hu0 : 0 ≤ u) (hn0 : 0 ≤ un) (hn : un < 4294967296) : (u * 4294967296 + un) / y ≤ u / yn1 := by
 have hy0 : 0 < y := by omega
 have hQ0 : 0 ≤ (u * 4294967296 + un) / y := Int.ediv_nonneg (by omega) (by omega)
 rw [Int.le_ediv_iff_mul_le (by omega)]
 generalize hQ : (u * 4294967296 + un) / y = Q at *
 have h := Int.ediv_mul_le (u * 4294967296 + un) (b := y) (by omega)
 rw [hQ, hy, Int.mul_add] at h
 have e : Q * (yn1 * 4294967296) = (Q * yn1) * 4294967296 := by rw [Int.mul_assoc]
 have h5 : 0 ≤ Q * yn0 := Int.mul_nonneg hQ0 h3
 rw [e] at h
 omega

theorem div64_small {a b : Int} (ha0 : 0 ≤ a) (ha : a < 4294967296) (hb0 : 0 ≤ b) (hb : b < 4294967296) : 0 ≤ a * b ∧ a * b ≤ 18446744065119617025 :=
 prod_bound a b ha0 (by omega) hb0 (by omega)

/-- What one round's test, and its end, tell of the digit. -/
theorem div64_stop {y yn1 yn0 u un q r : Int} (hy : y = yn1 * 4294967296 + yn0) (h1 : 2147483648 ≤ yn1) (h2 : yn1 < 4294967296) (h3 : 0 ≤ yn0) (h4 : yn0 < 4294967296)
  (hu0 : 0 ≤ u) (huy : u < y) (hn0 : 0 ≤ un) (hn : un < 4294967296) (hr : r = u - q * yn1) (hq : (u * 4294967296 + un) / y ≤ q) (ht : q * yn0 ≤ 4294967296 * r + un) : q = (u * 4294967296 + un) / y := by
 have e := div64_q0 hy h1 h2 h3 h4 hu0 huy hn0 hn hr
 have : q ≤ (u * 4294967296 + un) / y := by rw [Int.le_ediv_iff_mul_le (by omega), e]; omega
 omega
theorem div64_more {y yn1 yn0 u un q r : Int} (hy : y = yn1 * 4294967296 + yn0) (h1 : 2147483648 ≤ yn1) (h2 : yn1 < 4294967296) (h3 : 0 ≤ yn0) (h4 : yn0 < 4294967296)
  (hu0 : 0 ≤ u) (huy : u < y) (hn0 : 0 ≤ un) (hn : un < 4294967296) (hr : r = u - q * yn1) (ht : 4294967296 * r + un < q * yn0) : (u * 4294967296 + un) / y < q := by
 have e := div64_q0 hy h1 h2 h3 h4 hu0 huy hn0 hn hr
 rw [Int.ediv_lt_iff_lt_mul (by omega), e]; omega
/-- Behind a round that leaves the loop. -/
theorem div64_break {y yn1 yn0 u un q r : Int} (hy : y = yn1 * 4294967296 + yn0) (h1 : 2147483648 ≤ yn1) (h2 : yn1 < 4294967296) (h3 : 0 ≤ yn0) (h4 : yn0 < 4294967296)
  (hu0 : 0 ≤ u) (huy : u < y) (hn0 : 0 ≤ un) (hn : un < 4294967296) (hr : r = u - q * yn1) (hq : (u * 4294967296 + un) / y ≤ q) (ht : 4294967296 ≤ r) : q = (u * 4294967296 + un) / y := by
 have hQ0 : 0 ≤ (u * 4294967296 + un) / y := Int.ediv_nonneg (by omega) (by omega)
 have hb : q < 4294967296 := by
  apply Int.not_le.mp
  intro hge
  have := Int.mul_le_mul_of_nonneg_right hge (show 0 ≤ yn1 by omega)
  omega
 have := (div64_small (by omega) hb h3 h4).2
 exact div64_stop hy h1 h2 h3 h4 hu0 huy hn0 hn hr hq (by omega)
/-- The rest, as the machine reckons it. -/
theorem div64_rest {y yn1 yn0 u un : Int} (hy : y = yn1 * 4294967296 + yn0) (h1 : 2147483648 ≤ yn1) (h2 : yn1 < 4294967296) (h3 : 0 ≤ yn0) (h4 : yn0 < 4294967296) (hu0 : 0 ≤ u) (hn0 : 0 ≤ un) :
  IntKind.u64.wrap (IntKind.u64.wrap (IntKind.u64.wrap (u * 4294967296) + un) - IntKind.u64.wrap ((u * 4294967296 + un) / y * y)) = (u * 4294967296 + un) % y := by
 have a := Int.emod_nonneg (u * 4294967296 + un) (show y ≠ 0 by omega)
 have b := Int.emod_lt_of_pos (u * 4294967296 + un) (show 0 < y by omega)
 have c := Int.emod_add_ediv_mul (u * 4294967296 + un) y
 simp only [u64w]
 generalize (u * 4294967296 + un) / y * y = Z at *
 generalize (u * 4294967296 + un) % y = R at *
 omega

theorem bits_Div64.l1_eq {y s yn1 yn0 un q1 u : Int} (hy : y = yn1 * 4294967296 + yn0) (h1 : 2147483648 ≤ yn1) (h2 : yn1 < 4294967296) (h3 : 0 ≤ yn0) (h4 : yn0 < 4294967296)
  (hu0 : 0 ≤ u) (huy : u < y) (hn0 : 0 ≤ un) (hn : un < 4294967296) (hs : 0 ≤ s) (hq0 : 0 ≤ q1) (hq1 : q1 < 4294967296) (m : Nat) :
  ∀ (k : Nat) (q r : Int), 2 * m + 2 ≤ k → 4294967296 ≤ r + m * 2147483648 → 0 ≤ r → r < 4294967296 → r = u - q * yn1 → (u * 4294967296 + un) / y ≤ q → q < 18446744073709551616 →
   bits_Div64.l1 k y s yn1 yn0 un q1 r u q = some (q1 * 4294967296 + (u * 4294967296 + un) / y, shr .u64 ((u * 4294967296 + un) % y) s) := by
 have hQ0 : 0 ≤ (u * 4294967296 + un) / y := Int.ediv_nonneg (by omega) (by omega)
 have hQB := div64_lt (y := y) (u := u) (un := un) (by omega) huy hn
 have hrest := div64_rest hy h1 h2 h3 h4 hu0 hn0
 induction m with
 | zero => intro k q r hk hm; omega
 | succ m ih =>
  intro k q r hk hm hr0 hrB hr hq hqW
  obtain ⟨k, rfl⟩ : ∃ j, k = j + 2 := ⟨k - 2, by omega⟩
  have key : ∀ b : Bool, (b = true → (u * 4294967296 + un) / y < q) → (b = false → q = (u * 4294967296 + un) / y) →
    bits_Div64.j4 (k + 1) y s yn1 yn0 un q1 r u q b = some (q1 * 4294967296 + (u * 4294967296 + un) / y, shr .u64 ((u * 4294967296 + un) % y) s) := by
   intro b hb1 hb0
   simp only [bits_Div64.j4]
   cases b with
   | true =>
    have hlt := hb1 rfl
    have w1 : IntKind.u64.wrap (r + yn1) = r + yn1 := u64w_in (by omega)
    have w2 : IntKind.u64.wrap (q - 1) = q - 1 := u64w_in (by omega)
    have hr' : r + yn1 = u - (q - 1) * yn1 := by rw [Int.sub_mul]; omega
    rw [if_pos rfl, w1, w2]
    by_cases hge : r + yn1 ≥ 4294967296
    ·have hQ := div64_break hy h1 h2 h3 h4 hu0 huy hn0 hn hr' (by omega) hge
     rw [if_pos hge, if_pos hs, hQ, hrest, u64w_in (x := q1 * 4294967296) (by omega), u64w_in (by omega)]
    ·rw [if_neg hge]
     exact ih k (q - 1) (r + yn1) (by omega) (by omega) (by omega) (by omega) hr' (by omega) (by omega)
   | false =>
    have hQ := hb0 rfl
    rw [if_neg (by simp), if_pos hs, hQ, hrest, u64w_in (x := q1 * 4294967296) (by omega), u64w_in (by omega)]
  show bits_Div64.l1 (k + 1 + 1) y s yn1 yn0 un q1 r u q = _
  simp only [bits_Div64.l1]
  by_cases hqB : q ≥ 4294967296
  ·rw [if_pos hqB]
   exact key true (fun _ => by omega) (fun h => by cases h)
  ·rw [if_neg hqB]
   have hp := div64_small (a := q) (b := yn0) (by omega) (by omega) h3 h4
   rw [u64w_in (x := q * yn0) (by omega), u64w_in (x := 4294967296 * r) (by omega), u64w_in (x := 4294967296 * r + un) (by omega)]
   refine key _ (fun h => ?_) (fun h => ?_)
   ·exact div64_more hy h1 h2 h3 h4 hu0 huy hn0 hn hr (of_decide_eq_true h)
   ·exact div64_stop hy h1 h2 h3 h4 hu0 huy hn0 hn hr hq (by have := of_decide_eq_false h; omega)

/-- Where the second digit begins. -/
theorem bits_Div64.j2_eq {y s yn1 yn0 un u un0 : Int} (hy : y = yn1 * 4294967296 + yn0) (h1 : 2147483648 ≤ yn1) (h2 : yn1 < 4294967296) (h3 : 0 ≤ yn0) (h4 : yn0 < 4294967296)
  (hu0 : 0 ≤ u) (huy : u < y) (hn0 : 0 ≤ un) (hn : un < 4294967296) (hm0 : 0 ≤ un0) (hm : un0 < 4294967296) (hs : 0 ≤ s) (k : Nat) (hk : 10 ≤ k) :
  bits_Div64.j2 k y s yn1 yn0 u un un0 ((u * 4294967296 + un) / y) = some ((u * 4294967296 + un) / y * 4294967296 + ((u * 4294967296 + un) % y * 4294967296 + un0) / y, shr .u64 (((u * 4294967296 + un) % y * 4294967296 + un0) % y) s) := by
 obtain ⟨k, rfl⟩ : ∃ j, k = j + 1 := ⟨k - 1, by omega⟩
 have hrest := div64_rest hy h1 h2 h3 h4 hu0 hn0
 simp only [bits_Div64.j2]
 rw [if_neg (by omega), hrest]
 have a := Int.emod_nonneg (u * 4294967296 + un) (show y ≠ 0 by omega)
 have b := Int.emod_lt_of_pos (u * 4294967296 + un) (show 0 < y by omega)
 have hQ0 : 0 ≤ (u * 4294967296 + un) / y := Int.ediv_nonneg (by omega) (by omega)
 have hQB := div64_lt (y := y) (u := u) (un := un) (by omega) huy hn
 generalize (u * 4294967296 + un) % y = v at *
 generalize (u * 4294967296 + un) / y = q1 at *
 have c := Int.emod_nonneg v (show yn1 ≠ 0 by omega)
 have d := Int.emod_lt_of_pos v (show 0 < yn1 by omega)
 have e := Int.emod_add_ediv_mul v yn1
 have f : 0 ≤ v / yn1 := Int.ediv_nonneg a (by omega)
 have f2 : 0 ≤ v / yn1 * yn1 := Int.mul_nonneg f (by omega)
 have g : v / yn1 ≤ v := Int.ediv_le_self yn1 a
 rw [Int.tdiv_eq_ediv_of_nonneg a, u64w_in (x := v / yn1) (by omega), u64w_in (x := v / yn1 * yn1) (by omega), u64w_in (x := v - v / yn1 * yn1) (by omega)]
 exact bits_Div64.l1_eq hy h1 h2 h3 h4 a b hm0 hm hs hQ0 hQB 2 k (v / yn1) (v - v / yn1 * yn1) (by omega) (by omega) (by omega) (by omega) rfl (div64_ge hy h1 h3 a hm0 hm) (by omega)

theorem bits_Div64.l0_eq {y s yn1 yn0 un u un0 : Int} (hy : y = yn1 * 4294967296 + yn0) (h1 : 2147483648 ≤ yn1) (h2 : yn1 < 4294967296) (h3 : 0 ≤ yn0) (h4 : yn0 < 4294967296)
  (hu0 : 0 ≤ u) (huy : u < y) (hn0 : 0 ≤ un) (hn : un < 4294967296) (hm0 : 0 ≤ un0) (hm : un0 < 4294967296) (hs : 0 ≤ s) (m : Nat) :
  ∀ (k : Nat) (q r : Int), 2 * m + 12 ≤ k → 4294967296 ≤ r + m * 2147483648 → 0 ≤ r → r < 4294967296 → r = u - q * yn1 → (u * 4294967296 + un) / y ≤ q → q < 18446744073709551616 →
   bits_Div64.l0 k y s yn1 yn0 u un un0 q r = some ((u * 4294967296 + un) / y * 4294967296 + ((u * 4294967296 + un) % y * 4294967296 + un0) / y, shr .u64 (((u * 4294967296 + un) % y * 4294967296 + un0) % y) s) := by
 have hQ0 : 0 ≤ (u * 4294967296 + un) / y := Int.ediv_nonneg (by omega) (by omega)
 have hQB := div64_lt (y := y) (u := u) (un := un) (by omega) huy hn
 have hend := fun k hk => bits_Div64.j2_eq (s := s) hy h1 h2 h3 h4 hu0 huy hn0 hn hm0 hm hs k hk
 induction m with
 | zero => intro k q r hk hm; omega
 | succ m ih =>
  intro k q r hk hm hr0 hrB hr hq hqW
  obtain ⟨k, rfl⟩ : ∃ j, k = j + 2 := ⟨k - 2, by omega⟩
  have key : ∀ b : Bool, (b = true → (u * 4294967296 + un) / y < q) → (b = false → q = (u * 4294967296 + un) / y) →
    bits_Div64.j1 (k + 1) y s yn1 yn0 u un un0 q r b = some ((u * 4294967296 + un) / y * 4294967296 + ((u * 4294967296 + un) % y * 4294967296 + un0) / y, shr .u64 (((u * 4294967296 + un) % y * 4294967296 + un0) % y) s) := by
   intro b hb1 hb0
   simp only [bits_Div64.j1]
   cases b with
   | true =>
    have hlt := hb1 rfl
    have w1 : IntKind.u64.wrap (r + yn1) = r + yn1 := u64w_in (by omega)
    have w2 : IntKind.u64.wrap (q - 1) = q - 1 := u64w_in (by omega)
    have hr' : r + yn1 = u - (q - 1) * yn1 := by rw [Int.sub_mul]; omega
    rw [if_pos rfl, w1, w2]
    by_cases hge : r + yn1 ≥ 4294967296
    ·have hQ := div64_break hy h1 h2 h3 h4 hu0 huy hn0 hn hr' (by omega) hge
     rw [if_pos hge, hQ]
     exact hend k (by omega)
    ·rw [if_neg hge]
     exact ih k (q - 1) (r + yn1) (by omega) (by omega) (by omega) (by omega) hr' (by omega) (by omega)
   | false =>
    have hQ := hb0 rfl
    rw [if_neg (by simp), hQ]
    exact hend k (by omega)
  show bits_Div64.l0 (k + 1 + 1) y s yn1 yn0 u un un0 q r = _
  simp only [bits_Div64.l0]
  by_cases hqB : q ≥ 4294967296
  ·rw [if_pos hqB]
   exact key true (fun _ => by omega) (fun h => by cases h)
  ·rw [if_neg hqB]
   have hp := div64_small (a := q) (b := yn0) (by omega) (by omega) h3 h4
   rw [u64w_in (x := q * yn0) (by omega), u64w_in (x := 4294967296 * r) (by omega), u64w_in (x := 4294967296 * r + un) (by omega)]
   refine key _ (fun h => ?_) (fun h => ?_)
   ·exact div64_more hy h1 h2 h3 h4 hu0 huy hn0 hn hr (of_decide_eq_true h)
   ·exact div64_stop hy h1 h2 h3 h4 hu0 huy hn0 hn hr hq (by have := of_decide_eq_false h; omega)

theorem div64_two {A c y : Int} (hy : 0 < y) : (A * 4294967296 + c) / y = A / y * 4294967296 + (A % y * 4294967296 + c) / y ∧ (A * 4294967296 + c) % y = (A % y * 4294967296 + c) % y := by
 have e := Int.emod_add_ediv_mul A y
 generalize A / y = q at *
 generalize A % y = r at *
 have e2 : A * 4294967296 + c = (r * 4294967296 + c) + (q * 4294967296) * y := by
  rw [← e, Int.add_mul, Int.mul_right_comm]; omega
 rw [e2, Int.add_mul_ediv_right _ _ (by omega), Int.add_mul_emod_self_right]
 omega

theorem bits_Div64.main {hi lo y : Int} (h0 : 0 ≤ hi) (h1 : hi < y) (h2 : y < 18446744073709551616) (h3 : 0 ≤ lo) (h4 : lo < 18446744073709551616) :
  bits_Div64.f 20 hi lo y = some ((hi * 18446744073709551616 + lo) / y, (hi * 18446744073709551616 + lo) % y) := by
 unfold bits_Div64.f
 rw [if_neg (by omega), if_neg (by omega)]
 by_cases hz : hi = 0
 ·subst hz
  have := Int.ediv_le_self y h3
  have := Int.ediv_nonneg h3 (show 0 ≤ y by omega)
  rw [if_pos rfl, Int.tdiv_eq_ediv_of_nonneg h3, Int.tmod_eq_emod_of_nonneg h3, u64w_in (by omega)]
  simp
 rw [if_neg hz]
 obtain ⟨Y, rfl⟩ := Int.eq_ofNat_of_zero_le (show 0 ≤ y by omega)
 unfold bits_LeadingZeros64.f
 rw [need_pos (by omega)]
 simp only [Option.bind_some, Int.toNat_natCast]
 obtain ⟨hLp, hLm, hL, hL2⟩ := bitLen_facts (Y := Y) (by omega) (by omega)
 generalize Lib.bitLen Y = L at *
 have hs : (64 - (L : Int)) = ((64 - L : Nat) : Int) := by omega
 have hs2 : (64 - ((64 - L : Nat) : Int)) = (L : Int) := by omega
 have hPR : 2 ^ (64 - L) * 2 ^ L = 18446744073709551616 := by rw [← Nat.pow_add, show 64 - L + L = 64 by omega]
 have hPQ : 2 ^ (64 - L) * 2 ^ (L - 1) = 9223372036854775808 := by rw [← Nat.pow_add, show 64 - L + (L - 1) = 63 by omega]
 rw [hs, u64w_in (x := ((64 - L : Nat) : Int)) (by omega), hs2, u64w_in (x := (L : Int)) (by omega), if_pos (by omega), if_pos (by omega)]
 have m1 : min (64 - L) 64 = 64 - L := by omega
 have m2 : min L 64 = L := by omega
 simp only [shl, shr, Int.toNat_natCast, show IntKind.u64.bits = 64 from rfl, m1, m2]
 have cP : ((2 : Int) ^ (64 - L)) = ((2 ^ (64 - L) : Nat) : Int) := by simp
 have cR : ((2 : Int) ^ L) = ((2 ^ L : Nat) : Int) := by simp
 have hPpos : 0 < 2 ^ (64 - L) := Nat.pow_pos (by decide)
 have hRpos : 0 < 2 ^ L := Nat.pow_pos (by decide)
 have hor : ∀ a b : Nat, b < 2 ^ (64 - L) → a * 2 ^ (64 - L) < 18446744073709551616 → Go.bits .or .u64 ((a * 2 ^ (64 - L) : Nat) : Int) (b : Int) = ((a * 2 ^ (64 - L) + b : Nat) : Int) := by
  intro a b hb ha
  have hle := Nat.pow_le_pow_right (show 0 < 2 by decide) (show 64 - L ≤ 64 by omega)
  have hle2 : 2 ^ (64 - L) ≤ 18446744073709551616 := hle
  rw [u64_or_nat _ _ ha (by omega), ← Nat.shiftLeft_eq, ← Nat.shiftLeft_add_eq_or_of_lt hb]
 rw [cP, cR]
 generalize (2 : Nat) ^ (64 - L) = P at *
 generalize (2 : Nat) ^ L = R at *
 generalize (2 : Nat) ^ (L - 1) = R2 at *
 obtain ⟨H, rfl⟩ := Int.eq_ofNat_of_zero_le h0
 obtain ⟨O, rfl⟩ := Int.eq_ofNat_of_zero_le h3
 have hyl : Y * P < 18446744073709551616 := by rw [← hPR, Nat.mul_comm (P)]; exact Nat.mul_lt_mul_of_pos_right hL hPpos
 have hyg : 9223372036854775808 ≤ Y * P := by rw [← hPQ, Nat.mul_comm]; exact Nat.mul_le_mul_right _ hL2
 have hHl : H * P < Y * P := Nat.mul_lt_mul_of_pos_right (by omega) hPpos
 have hOR : O / R < P := by rw [Nat.div_lt_iff_lt_mul hRpos, hPR]; omega
 have hO : O * P = O / R * 18446744073709551616 + O * P % 18446744073709551616 := by
  have : O * P / 18446744073709551616 = O / R := by
   rw [← hPR, Nat.mul_comm (P)]; exact Nat.mul_div_mul_right _ _ hPpos
  omega
 have hN : ((H : Int) * 18446744073709551616 + O) * ((P : Nat) : Int) = ((H * P + O / R : Nat) : Int) * 18446744073709551616 + ((O * P % 18446744073709551616 : Nat) : Int) := by
  rw [Int.add_mul, Int.mul_right_comm]
  have e1 := congrArg (fun n : Nat => (n : Int)) hO
  simp only [Int.natCast_add, Int.natCast_mul] at e1 ⊢
  omega
 have hlt : (H * P + O / R) * 18446744073709551616 + O * P % 18446744073709551616 < Y * P * 18446744073709551616 := by
  have e2 : (H * 18446744073709551616 + O) * P < Y * 18446744073709551616 * P := Nat.mul_lt_mul_of_pos_right (by omega) hPpos
  have e1 : (H * 18446744073709551616 + O) * P = (H * P + O / R) * 18446744073709551616 + O * P % 18446744073709551616 := by
   rw [Nat.add_mul, Nat.mul_right_comm]
   omega
  rw [e1, Nat.mul_right_comm Y] at e2
  exact e2
 have hq := @Int.mul_ediv_mul_of_pos_left
 have hm := @Int.mul_emod_mul_of_pos
 have c1 : (Y : Int) * ((P : Nat) : Int) = ((Y * P : Nat) : Int) := by simp
 have c2 : (H : Int) * ((P : Nat) : Int) = ((H * P : Nat) : Int) := by simp
 have c3 : (O : Int) * ((P : Nat) : Int) = ((O * P : Nat) : Int) := by simp
 have c4 : (O : Int) / ((R : Nat) : Int) = ((O / R : Nat) : Int) := by simp
 have hPc : (0 : Int) < ((P : Nat) : Int) := by omega
 have r1 : ((H : Int) * 18446744073709551616 + O) / (Y : Int) = (((H * P + O / R : Nat) : Int) * 18446744073709551616 + ((O * P % 18446744073709551616 : Nat) : Int)) / ((Y * P : Nat) : Int) := by
  rw [← hN, ← c1, Int.mul_ediv_mul_of_pos_left _ _ hPc]
 have r2 : ((H : Int) * 18446744073709551616 + O) % (Y : Int) = (((H * P + O / R : Nat) : Int) * 18446744073709551616 + ((O * P % 18446744073709551616 : Nat) : Int)) % ((Y * P : Nat) : Int) / ((P : Nat) : Int) := by
  rw [← hN, ← c1, Int.mul_comm _ ((P : Nat) : Int), Int.mul_comm _ ((P : Nat) : Int), Int.mul_emod_mul_of_pos _ _ hPc, Int.mul_ediv_cancel_left _ (by omega)]
 rw [c1, c2, c3, c4, u64w_in (x := ((Y * P : Nat) : Int)) (by omega), u64w_in (x := ((H * P : Nat) : Int)) (by omega), hor H (O / R) hOR (by omega), r1, r2]
 clear r1 r2 hN hq hm hor c1 c2 c3 c4 hO hPQ hPR
 generalize hu : H * P + O / R = u at *
 generalize hyy : Y * P = y at *
 rw [u64w]
 rw [show (((O * P : Nat) : Int) % 18446744073709551616) = ((O * P % 18446744073709551616 : Nat) : Int) by simp]
 have hx : O * P % 18446744073709551616 < 18446744073709551616 := Nat.mod_lt _ (by decide)
 generalize O * P % 18446744073709551616 = x at *
 have huy : u < y := by omega
 rw [and_low32 (y : Int) (by omega) (by omega), and_low32 (x : Int) (by omega) (by omega), if_neg (by omega)]
 have k1 := div64_two (A := (u : Int) * 4294967296 + (x : Int) / 4294967296) (c := (x : Int) % 4294967296) (show (0 : Int) < (y : Int) by omega)
 have k2 : ((u : Int) * 4294967296 + (x : Int) / 4294967296) * 4294967296 + (x : Int) % 4294967296 = (u : Int) * 18446744073709551616 + x := by omega
 rw [k2] at k1
 have a0 : (0 : Int) ≤ (u : Int) := by omega
 have c := Int.emod_nonneg (u : Int) (show ((y : Int) / 4294967296) ≠ 0 by omega)
 have d := Int.emod_lt_of_pos (u : Int) (show 0 < ((y : Int) / 4294967296) by omega)
 have e := Int.emod_add_ediv_mul (u : Int) ((y : Int) / 4294967296)
 have f : 0 ≤ (u : Int) / ((y : Int) / 4294967296) := Int.ediv_nonneg a0 (by omega)
 have f2 : 0 ≤ (u : Int) / ((y : Int) / 4294967296) * ((y : Int) / 4294967296) := Int.mul_nonneg f (by omega)
 have g : (u : Int) / ((y : Int) / 4294967296) ≤ u := Int.ediv_le_self _ a0
 rw [Int.tdiv_eq_ediv_of_nonneg a0, u64w_in (x := (u : Int) / ((y : Int) / 4294967296)) (by omega), u64w_in (x := (u : Int) / ((y : Int) / 4294967296) * ((y : Int) / 4294967296)) (by omega),
  u64w_in (x := (u : Int) - (u : Int) / ((y : Int) / 4294967296) * ((y : Int) / 4294967296)) (by omega)]
 rw [bits_Div64.l0_eq (y := (y : Int)) (yn1 := (y : Int) / 4294967296) (yn0 := (y : Int) % 4294967296) (by omega) (by omega) (by omega) (by omega) (by omega) a0 (by omega) (by omega) (by omega) (by omega) (by omega) (by omega) 2 20 _ _ (by omega) (by omega) (by omega) (by omega) rfl
  (div64_ge (yn0 := (y : Int) % 4294967296) (by omega) (by omega) (by omega) a0 (by omega) (by omega)) (by omega)]
 rw [k1.1, k1.2]
 simp only [shr, Int.toNat_natCast, show IntKind.u64.bits = 64 from rfl, m1, cP]
end Div64

noncomputable def bits_Div64S.f (hi lo y : Int) : Option (Int × Int) := Sp.need (0 ≤ hi ∧ hi < y ∧ y < 18446744073709551616 ∧ 0 ≤ lo ∧ lo < 18446744073709551616) (some ((hi * 18446744073709551616 + lo) / y, (hi * 18446744073709551616 + lo) % y))
theorem bits_Div64S.calls (a0 a1 a2 r1 r2 : Int) (w : World) (h : bits_Div64S.f a0 a1 a2 = some (r1, r2)) :
  Calls Tryz.prog 106 #[.int .u64 a0, .int .u64 a1, .int .u64 a2] w fun e w' => e = .returned (.tuple #[.int .u64 r1, .int .u64 r2]) ∧ Drawn0 w w' := by
 obtain ⟨hc, h⟩ := Sp.need_some h
 obtain ⟨h1, h2, h3, h4, h5⟩ := hc
 refine bits_Div64.calls 20 a0 a1 a2 r1 r2 w ?_
 rw [bits_Div64.main h1 h2 h3 h4 h5]; exact h

/-! ### big_of: function 148 -/
noncomputable def big_of.f (a0_0 : Bool) (a0_1 : Int) (a0_2 : Int) : Option (Int × Int) := some (a0_1, a0_2)
set_option maxHeartbeats 8000000 in
set_option maxRecDepth 100000 in
theorem big_of.calls (a0_0 : Bool) (a0_1 : Int) (a0_2 : Int) (r1 : Int) (r2 : Int) (w : World) (h : big_of.f a0_0 a0_1 a0_2 = some (r1, r2)) :
  Calls Tryz.prog 148 #[.agg #[.bool a0_0, .int .u64 a0_1, .int .u64 a0_2]] w fun e w' => e = .returned (.agg #[.int .u64 r1, .int .u64 r2]) ∧ Below w.heap.size w w' := by
 have hu99 := Tryz.underlying99
 have hu154 := Tryz.underlying154
 have HB := Aside0.mk (Below.refl w.heap.size w)
 have H : (some (a0_1, a0_2)) = some (r1, r2) := h
 clear h
 simp only [Option.some.injEq, Prod.mk.injEq] at H
 obtain ⟨rfl, rfl⟩ := H
 go_enter Tryz.func148, Tryz.ntmps148
 go_wp2_with (first | ((with_reducible refine gate_dst (N := 1) rfl ?_); refine box_event ?hg (N := 1) ?hd (cs := #[.bool a0_0, .int .u64 a0_1, .int .u64 a0_2]) (t := 99) ?hr ?_; (case hd => rfl); (case hg => rfl); (case hr => first | (go_simp; done) | (go_simp; rfl)); intro gb120 hg w2 hbox hb; have BK120 := Aside0.mk (hbox); have GW120 := Aside0.mk ((by rw [hg]; exact (below_size (by repeat (first | (with_reducible first | exact HB.out | apply below_alloc | apply pw_below_drewN | apply below_drew1) | exact HB.out))) : w.heap.size ≤ gb120)); have GE120 := Aside0.mk ((by rw [hg]; exact (below_size (by repeat (first | (with_reducible first | exact HB.out | apply below_alloc | apply pw_below_drewN | apply below_drew1) | exact HB.out))) : w.heap.size ≤ gb120)); replace HB := Aside0.mk (below_step (by repeat (first | (with_reducible first | exact HB.out | apply below_alloc | apply pw_below_drewN | apply below_drew1) | exact HB.out)) hb); clear hb hbox hg) | ((with_reducible refine gate_dst (N := 2) rfl ?_); refine box_event ?hg (N := 2) ?hd (cs := #[.int .u64 0, .int .u64 0]) (t := 154) ?hr ?_; (case hd => rfl); (case hg => rfl); (case hr => first | (go_simp; done) | (go_simp; rfl)); intro gb121 hg w3 hbox hb; have BK121 := Aside0.mk (hbox); have GW121 := Aside0.mk ((by rw [hg]; exact (below_size (by repeat (first | (with_reducible first | exact HB.out | apply below_alloc | apply pw_below_drewN | apply below_drew1 | refine below_set ?_ GE120.out) | exact HB.out))) : w.heap.size ≤ gb121)); have GE121 := Aside0.mk ((by rw [hg]; exact (below_size (by repeat (first | (with_reducible first | exact HB.out | apply below_alloc | apply pw_below_drewN | apply below_drew1 | refine below_set ?_ GE120.out) | exact HB.out))) : w.heap.size ≤ gb121)); have NB120_121 := Aside0.mk ((by rw [hg]; exact Nat.ne_of_lt (blk_lt (g := gb120) (o := .cells #[.bool a0_0, .int .u64 a0_1, .int .u64 a0_2] 99 (0, 0)) (by (with_reducible repeat (first | refine blk_drewN ?_ _ | refine blk_drew ?_ | refine blk_alloc ?_ _)); exact BK120.out)) : gb120 ≠ gb121)); have NB121_120 := Aside0.mk ((by rw [hg]; exact Nat.ne_of_gt (blk_lt (g := gb120) (o := .cells #[.bool a0_0, .int .u64 a0_1, .int .u64 a0_2] 99 (0, 0)) (by (with_reducible repeat (first | refine blk_drewN ?_ _ | refine blk_drew ?_ | refine blk_alloc ?_ _)); exact BK120.out)) : gb121 ≠ gb120)); replace BK120 := Aside0.mk (blk_below (g := gb120) (o := .cells #[.bool a0_0, .int .u64 a0_1, .int .u64 a0_2] 99 (0, 0)) (by (with_reducible repeat (first | refine blk_drewN ?_ _ | refine blk_drew ?_ | refine blk_alloc ?_ _)); exact BK120.out) hb); replace HB := Aside0.mk (below_step (by repeat (first | (with_reducible first | exact HB.out | apply below_alloc | apply pw_below_drewN | apply below_drew1 | refine below_set ?_ GE120.out) | exact HB.out)) hb); clear hb hbox hg; have hnb4 := NB120_121.out; have hnc4 := NB121_120.out; have hcz5_0 : w3.cell? ⟨gb120, 0, none⟩ = some (.bool a0_0) := (blk_cell BK120.out 0).trans rfl; have hcz5_1 : w3.cell? ⟨gb120, 1, none⟩ = some (.int .u64 a0_1) := (blk_cell BK120.out 1).trans rfl; have hcz5_2 : w3.cell? ⟨gb120, 2, none⟩ = some (.int .u64 a0_2) := (blk_cell BK120.out 2).trans rfl; have hfz5_0 := blk_frozen BK120.out 0; have hfz5_1 := blk_frozen BK120.out 1; have hfz5_2 := blk_frozen BK120.out 2; have hcz6_0 : w3.cell? ⟨gb121, 0, none⟩ = some (.int .u64 0) := (blk_cell BK121.out 0).trans rfl; have hcz6_1 : w3.cell? ⟨gb121, 1, none⟩ = some (.int .u64 0) := (blk_cell BK121.out 1).trans rfl; have hfz6_0 := blk_frozen BK121.out 0; have hfz6_1 := blk_frozen BK121.out 1))
 refine bodyPost_ret (results_cell_row rfl _ _ gb121 154 #[.int .u64 a0_1, .int .u64 a0_2] (0, 0) _ rfl (by (with_reducible repeat (first | refine blk_drewN ?_ _ | refine blk_drew ?_ | refine blk_alloc ?_ _)); refine blk_put (cs := #[.int .u64 a0_1, .int .u64 0]) ?_ 1 _ rfl; (with_reducible repeat (first | refine blk_drewN ?_ _ | refine blk_drew ?_ | refine blk_alloc ?_ _)); refine blk_put (cs := #[.int .u64 0, .int .u64 0]) ?_ 0 _ rfl; (with_reducible repeat (first | refine blk_drewN ?_ _ | refine blk_drew ?_ | refine blk_alloc ?_ _)); exact BK121.out) Tryz.underlying154 rfl (by kernel_rfl)) rfl ?_
 exact ⟨by first | rfl | (simp [errW_none, errW_some] <;> rfl) | (simp [*, errW_none, errW_some] <;> rfl), by repeat (first | (with_reducible first | exact HB.out | apply below_alloc | apply pw_below_drewN | apply below_drew1 | refine below_set ?_ GE120.out | refine below_set ?_ GE121.out) | exact HB.out)⟩

/-! ### cmp_Or_int: function 168 -/
noncomputable def cmp_Or_int.l0 : Nat → Int → List Int → Int → Int → Option (Int)
 | 0, _, _, _, _ => none
 | k + 1, x3, x6, x7, x8 => if x8 < x7 then (if 0 ≤ x8 then (if x8 < (x6.length : Int) then (if (rd x6 x8) = x3 then (cmp_Or_int.l0 k x3 x6 x7 (wrap64 (x8 + 1))) else (some (rd x6 x8))) else (none)) else (none)) else (some x3)
noncomputable def cmp_Or_int.f (k : Nat) (l0 : List Int) : Option (Int) := cmp_Or_int.l0 k 0 l0 (l0.length : Int) 0
set_option maxHeartbeats 8000000 in
set_option maxRecDepth 100000 in
theorem cmp_Or_int.calls (k : Nat) (A0 : Option Addr) (c0 : Nat) (l0 : List Int) (r : Int) (w : World) (hr0 : Kd.C (Kd.int .i64) w A0 l0.length l0) (hc0 : l0.length ≤ c0) (h : cmp_Or_int.f k l0 = some r) :
  Calls Tryz.prog 168 #[.slice A0 l0.length c0] w fun e w' => e = .returned (.int .i64 r) ∧ Drawn0 w w' := by
 have HR0 := Aside0.mk hr0
 have HC0 := Aside0.mk hc0
 clear hr0 hc0
 have H : (cmp_Or_int.l0 k 0 l0 (l0.length : Int) 0) = some r := h
 clear h
 have H' := Aside0.mk H
 clear H
 go_enter Tryz.func168, Tryz.ntmps168
 go_wp2
 go_loopg [8] k (fun kq v8 w' => ∃ (x8_1 : Int), v8 = .int .i64 x8_1 ∧ Aside0 (cmp_Or_int.l0 kq 0 l0 (l0.length : Int) x8_1 = some r) ∧ Aside0 (kq ≤ k) ∧ Drawn0 w w')
 case atStart => exact ⟨(0), (by first | rfl | (simp; done) | (simp [*]; done)), H', ⟨Nat.le_refl _⟩, by repeat (first | exact Drawn0.refl _ | apply Drawn0.step)⟩
 case round =>
  clear H'
  try clear c1
  obtain ⟨x8_1, rfl, HA, HK1, ⟨m1, rfl⟩⟩ := hrel
  cases gk with
  | zero => exact absurd HA.out (by simp [cmp_Or_int.l0])
  | succ k1 =>
   have H := HA.out
   clear HA
   simp only [cmp_Or_int.l0] at H
   by_cases c2 : x8_1 < (l0.length : Int)
   ·rw [if_pos c2] at H
    have c2b0 : decide (x8_1 < (l0.length : Int)) = true := decide_eq_true c2
    clear c2
    by_cases c3 : 0 ≤ x8_1
    ·rw [if_pos c3] at H
     have c3b0 : decide (0 ≤ x8_1) = true := decide_eq_true c3
     clear c3
     by_cases c4 : x8_1 < (l0.length : Int)
     ·rw [if_pos c4] at H
      have c4b0 : decide (x8_1 < (l0.length : Int)) = true := decide_eq_true c4
      clear c4
      by_cases c5 : (rd l0 x8_1) = 0
      ·rw [if_pos c5] at H
       have c5b0 : ((rd l0 x8_1) == 0) = true := beq_iff_eq.mpr c5
       have c5b1 : ((rd l0 x8_1) != 0) = false := bne_eq_false_iff_eq.mpr c5
       clear c5
       have H' := Aside0.mk H
       clear H
       have p122 : 0 ≤ (x8_1 : Int) := of_decide_eq_true (by first | (with_reducible assumption) | assumption)
       have q122 : x8_1 < (l0.length : Int) := of_decide_eq_true (by first | (with_reducible assumption) | assumption)
       obtain ⟨ad122, e122, hx122_0⟩ := Kd.at_int HR0.out x8_1 p122 q122
       cases e122
       replace p122 := eq_true p122
       replace q122 := eq_true q122
       go_wp2
       go_roundg k1
       case measure => have := HK1.out; omega
       case rel => exact ⟨(wrap64 (x8_1 + 1)), (by first | rfl | (simp; done) | (simp [*]; done)), H', ⟨by have := HK1.out; omega⟩, by repeat (first | exact Drawn0.refl _ | apply Drawn0.step)⟩
      ·rw [if_neg c5] at H
       have c5b0 : ((rd l0 x8_1) == 0) = false := beq_eq_false_iff_ne.mpr c5
       have c5b1 : ((rd l0 x8_1) != 0) = true := bne_iff_ne.mpr c5
       obtain rfl := Option.some.inj H
       have p122 : 0 ≤ (x8_1 : Int) := of_decide_eq_true (by first | (with_reducible assumption) | assumption)
       have q122 : x8_1 < (l0.length : Int) := of_decide_eq_true (by first | (with_reducible assumption) | assumption)
       obtain ⟨ad122, e122, hx122_0⟩ := Kd.at_int HR0.out x8_1 p122 q122
       cases e122
       replace p122 := eq_true p122
       replace q122 := eq_true q122
       go_wp2
       go_ret
       exact ⟨by first | rfl | (simp; done) | (simp [*]; done), by repeat (first | exact Drawn0.refl _ | apply Drawn0.step)⟩
     ·rw [if_neg c4] at H
      exact absurd H (by simp)
    ·rw [if_neg c3] at H
     exact absurd H (by simp)
   ·rw [if_neg c2] at H
    have c2b0 : decide (x8_1 < (l0.length : Int)) = false := decide_eq_false c2
    clear c2
    obtain rfl := Option.some.inj H
    go_wp2
    go_ret
    exact ⟨by first | rfl | (simp; done) | (simp [*]; done), by repeat (first | exact Drawn0.refl _ | apply Drawn0.step)⟩

/-! ### cmp_isNaN_uint64: function 174 -/
noncomputable def cmp_isNaN_uint64.f (a0 : Int) : Option (Bool) := some (a0 != a0)
set_option maxHeartbeats 8000000 in
set_option maxRecDepth 100000 in
theorem cmp_isNaN_uint64.calls (a0 : Int) (r : Bool) (w : World) (h : cmp_isNaN_uint64.f a0 = some r) :
  Calls Tryz.prog 174 #[.int .u64 a0] w fun e w' => e = .returned (.bool r) ∧ Drawn0 w w' := by
 have H : (some (a0 != a0)) = some r := h
 clear h
 obtain rfl := Option.some.inj H
 go_enter Tryz.func174, Tryz.ntmps174
 go_wp2
 go_ret
 exact ⟨by first | rfl | (simp; done) | (simp [*]; done), by repeat (first | exact Drawn0.refl _ | apply Drawn0.step)⟩

/-! ### cmp_Compare_uint64: function 169 -/
noncomputable def cmp_Compare_uint64.f (a0 : Int) (a1 : Int) : Option (Int) := (cmp_isNaN_uint64.f a0).bind fun t123 => ((cmp_isNaN_uint64.f a1).bind fun t124 => (if t123 = true then (if t124 = true then (some 0) else (some (-1))) else (if t124 = true then (some 1) else (if a0 < a1 then (some (-1)) else (if a0 > a1 then (some 1) else (some 0))))))
set_option maxHeartbeats 8000000 in
set_option maxRecDepth 100000 in
theorem cmp_Compare_uint64.calls (a0 : Int) (a1 : Int) (r : Int) (w : World) (h : cmp_Compare_uint64.f a0 a1 = some r) :
  Calls Tryz.prog 169 #[.int .u64 a0, .int .u64 a1] w fun e w' => e = .returned (.int .i64 r) ∧ Drawn0 w w' := by
 have H : ((cmp_isNaN_uint64.f a0).bind fun t123 => ((cmp_isNaN_uint64.f a1).bind fun t124 => (if t123 = true then (if t124 = true then (some 0) else (some (-1))) else (if t124 = true then (some 1) else (if a0 < a1 then (some (-1)) else (if a0 > a1 then (some 1) else (some 0))))))) = some r := h
 clear h
 replace H := Option.bind_eq_some_iff.mp H
 obtain ⟨t123, A30, H⟩ := H
 try dsimp only at H
 have A3 := Aside0.mk A30
 clear A30
 replace H := Option.bind_eq_some_iff.mp H
 obtain ⟨t124, A40, H⟩ := H
 replace H : (if t123 = true then (if t124 = true then (some 0) else (some (-1))) else (if t124 = true then (some 1) else (if a0 < a1 then (some (-1)) else (if a0 > a1 then (some 1) else (some 0))))) = some r := H
 have A4 := Aside0.mk A40
 clear A40
 by_cases c5 : t123 = true
 ·subst c5
  have H1 : (if t124 = true then (some 0) else (some (-1))) = some r := by rw [if_pos rfl] at H; exact H
  clear H
  have H := H1
  clear H1
  by_cases c6 : t124 = true
  ·subst c6
   have H1 : (some 0) = some r := by rw [if_pos rfl] at H; exact H
   clear H
   have H := H1
   clear H1
   obtain rfl := Option.some.inj H
   go_enter Tryz.func169, Tryz.ntmps169
   go_wp2_with (first | ((with_reducible refine gate_callee (f := 174) rfl ?_); refine goesL_ (some 8) rfl rfl Tryz.func174 (by kernel_rfl) rfl #[.int .u64 a0] rfl (by (try simp only [List.map_toArray, List.map_cons, List.map_nil]); first | done | rfl | (simp only [List.length_drop, List.length_take]; rfl)) ?_; (with_reducible refine (cmp_isNaN_uint64.calls a0 true _ A3.out).mono ?_); rintro e w' ⟨rfl, ⟨nd, rfl⟩⟩; refine ⟨_, rfl, ?_⟩) | ((with_reducible refine gate_callee (f := 174) rfl ?_); refine goesL_ (some 10) rfl rfl Tryz.func174 (by kernel_rfl) rfl #[.int .u64 a1] rfl (by (try simp only [List.map_toArray, List.map_cons, List.map_nil]); first | done | rfl | (simp only [List.length_drop, List.length_take]; rfl)) ?_; (with_reducible refine (cmp_isNaN_uint64.calls a1 true _ A4.out).mono ?_); rintro e w' ⟨rfl, ⟨nd, rfl⟩⟩; refine ⟨_, rfl, ?_⟩))
   go_ret
   exact ⟨by first | rfl | (simp; done) | (simp [*]; done), by repeat (first | exact Drawn0.refl _ | apply Drawn0.step)⟩
  ·replace c6 := Bool.eq_false_iff.mpr c6
   subst c6
   have H1 : (some (-1)) = some r := by rw [if_neg (show ¬ (false = true) by decide)] at H; exact H
   clear H
   have H := H1
   clear H1
   obtain rfl := Option.some.inj H
   go_enter Tryz.func169, Tryz.ntmps169
   go_wp2_with (first | ((with_reducible refine gate_callee (f := 174) rfl ?_); refine goesL_ (some 8) rfl rfl Tryz.func174 (by kernel_rfl) rfl #[.int .u64 a0] rfl (by (try simp only [List.map_toArray, List.map_cons, List.map_nil]); first | done | rfl | (simp only [List.length_drop, List.length_take]; rfl)) ?_; (with_reducible refine (cmp_isNaN_uint64.calls a0 true _ A3.out).mono ?_); rintro e w' ⟨rfl, ⟨nd, rfl⟩⟩; refine ⟨_, rfl, ?_⟩) | ((with_reducible refine gate_callee (f := 174) rfl ?_); refine goesL_ (some 10) rfl rfl Tryz.func174 (by kernel_rfl) rfl #[.int .u64 a1] rfl (by (try simp only [List.map_toArray, List.map_cons, List.map_nil]); first | done | rfl | (simp only [List.length_drop, List.length_take]; rfl)) ?_; (with_reducible refine (cmp_isNaN_uint64.calls a1 false _ A4.out).mono ?_); rintro e w' ⟨rfl, ⟨nd, rfl⟩⟩; refine ⟨_, rfl, ?_⟩))
   go_ret
   exact ⟨by first | rfl | (simp; done) | (simp [*]; done), by repeat (first | exact Drawn0.refl _ | apply Drawn0.step)⟩
 ·replace c5 := Bool.eq_false_iff.mpr c5
  subst c5
  have H1 : (if t124 = true then (some 1) else (if a0 < a1 then (some (-1)) else (if a0 > a1 then (some 1) else (some 0)))) = some r := by rw [if_neg (show ¬ (false = true) by decide)] at H; exact H
  clear H
  have H := H1
  clear H1
  by_cases c7 : t124 = true
  ·subst c7
   have H1 : (some 1) = some r := by rw [if_pos rfl] at H; exact H
   clear H
   have H := H1
   clear H1
   obtain rfl := Option.some.inj H
   go_enter Tryz.func169, Tryz.ntmps169
   go_wp2_with (first | ((with_reducible refine gate_callee (f := 174) rfl ?_); refine goesL_ (some 8) rfl rfl Tryz.func174 (by kernel_rfl) rfl #[.int .u64 a0] rfl (by (try simp only [List.map_toArray, List.map_cons, List.map_nil]); first | done | rfl | (simp only [List.length_drop, List.length_take]; rfl)) ?_; (with_reducible refine (cmp_isNaN_uint64.calls a0 false _ A3.out).mono ?_); rintro e w' ⟨rfl, ⟨nd, rfl⟩⟩; refine ⟨_, rfl, ?_⟩) | ((with_reducible refine gate_callee (f := 174) rfl ?_); refine goesL_ (some 10) rfl rfl Tryz.func174 (by kernel_rfl) rfl #[.int .u64 a1] rfl (by (try simp only [List.map_toArray, List.map_cons, List.map_nil]); first | done | rfl | (simp only [List.length_drop, List.length_take]; rfl)) ?_; (with_reducible refine (cmp_isNaN_uint64.calls a1 true _ A4.out).mono ?_); rintro e w' ⟨rfl, ⟨nd, rfl⟩⟩; refine ⟨_, rfl, ?_⟩))
   go_ret
   exact ⟨by first | rfl | (simp; done) | (simp [*]; done), by repeat (first | exact Drawn0.refl _ | apply Drawn0.step)⟩
  ·replace c7 := Bool.eq_false_iff.mpr c7
   subst c7
   have H1 : (if a0 < a1 then (some (-1)) else (if a0 > a1 then (some 1) else (some 0))) = some r := by rw [if_neg (show ¬ (false = true) by decide)] at H; exact H
   clear H
   have H := H1
   clear H1
   by_cases c8 : a0 < a1
   ·rw [if_pos c8] at H
    have c8b0 : decide (a0 < a1) = true := decide_eq_true c8
    clear c8
    obtain rfl := Option.some.inj H
    go_enter Tryz.func169, Tryz.ntmps169
    go_wp2_with (first | ((with_reducible refine gate_callee (f := 174) rfl ?_); refine goesL_ (some 8) rfl rfl Tryz.func174 (by kernel_rfl) rfl #[.int .u64 a0] rfl (by (try simp only [List.map_toArray, List.map_cons, List.map_nil]); first | done | rfl | (simp only [List.length_drop, List.length_take]; rfl)) ?_; (with_reducible refine (cmp_isNaN_uint64.calls a0 false _ A3.out).mono ?_); rintro e w' ⟨rfl, ⟨nd, rfl⟩⟩; refine ⟨_, rfl, ?_⟩) | ((with_reducible refine gate_callee (f := 174) rfl ?_); refine goesL_ (some 10) rfl rfl Tryz.func174 (by kernel_rfl) rfl #[.int .u64 a1] rfl (by (try simp only [List.map_toArray, List.map_cons, List.map_nil]); first | done | rfl | (simp only [List.length_drop, List.length_take]; rfl)) ?_; (with_reducible refine (cmp_isNaN_uint64.calls a1 false _ A4.out).mono ?_); rintro e w' ⟨rfl, ⟨nd, rfl⟩⟩; refine ⟨_, rfl, ?_⟩))
    go_ret
    exact ⟨by first | rfl | (simp; done) | (simp [*]; done), by repeat (first | exact Drawn0.refl _ | apply Drawn0.step)⟩
   ·rw [if_neg c8] at H
    have c8b0 : decide (a0 < a1) = false := decide_eq_false c8
    clear c8
    by_cases c9 : a0 > a1
    ·rw [if_pos c9] at H
     have c9b0 : decide (a1 < a0) = true := decide_eq_true c9
     clear c9
     obtain rfl := Option.some.inj H
     go_enter Tryz.func169, Tryz.ntmps169
     go_wp2_with (first | ((with_reducible refine gate_callee (f := 174) rfl ?_); refine goesL_ (some 8) rfl rfl Tryz.func174 (by kernel_rfl) rfl #[.int .u64 a0] rfl (by (try simp only [List.map_toArray, List.map_cons, List.map_nil]); first | done | rfl | (simp only [List.length_drop, List.length_take]; rfl)) ?_; (with_reducible refine (cmp_isNaN_uint64.calls a0 false _ A3.out).mono ?_); rintro e w' ⟨rfl, ⟨nd, rfl⟩⟩; refine ⟨_, rfl, ?_⟩) | ((with_reducible refine gate_callee (f := 174) rfl ?_); refine goesL_ (some 10) rfl rfl Tryz.func174 (by kernel_rfl) rfl #[.int .u64 a1] rfl (by (try simp only [List.map_toArray, List.map_cons, List.map_nil]); first | done | rfl | (simp only [List.length_drop, List.length_take]; rfl)) ?_; (with_reducible refine (cmp_isNaN_uint64.calls a1 false _ A4.out).mono ?_); rintro e w' ⟨rfl, ⟨nd, rfl⟩⟩; refine ⟨_, rfl, ?_⟩))
     go_ret
     exact ⟨by first | rfl | (simp; done) | (simp [*]; done), by repeat (first | exact Drawn0.refl _ | apply Drawn0.step)⟩
    ·rw [if_neg c9] at H
     have c9b0 : decide (a1 < a0) = false := decide_eq_false c9
     clear c9
     obtain rfl := Option.some.inj H
     go_enter Tryz.func169, Tryz.ntmps169
     go_wp2_with (first | ((with_reducible refine gate_callee (f := 174) rfl ?_); refine goesL_ (some 8) rfl rfl Tryz.func174 (by kernel_rfl) rfl #[.int .u64 a0] rfl (by (try simp only [List.map_toArray, List.map_cons, List.map_nil]); first | done | rfl | (simp only [List.length_drop, List.length_take]; rfl)) ?_; (with_reducible refine (cmp_isNaN_uint64.calls a0 false _ A3.out).mono ?_); rintro e w' ⟨rfl, ⟨nd, rfl⟩⟩; refine ⟨_, rfl, ?_⟩) | ((with_reducible refine gate_callee (f := 174) rfl ?_); refine goesL_ (some 10) rfl rfl Tryz.func174 (by kernel_rfl) rfl #[.int .u64 a1] rfl (by (try simp only [List.map_toArray, List.map_cons, List.map_nil]); first | done | rfl | (simp only [List.length_drop, List.length_take]; rfl)) ?_; (with_reducible refine (cmp_isNaN_uint64.calls a1 false _ A4.out).mono ?_); rintro e w' ⟨rfl, ⟨nd, rfl⟩⟩; refine ⟨_, rfl, ?_⟩))
     go_ret
     exact ⟨by first | rfl | (simp; done) | (simp [*]; done), by repeat (first | exact Drawn0.refl _ | apply Drawn0.step)⟩

/-! ### big_size_cmp: function 149 -/
noncomputable def big_size_cmp.f (k : Nat) (a0_0 : Int) (a0_1 : Int) (a1_0 : Int) (a1_1 : Int) : Option (Int) := (cmp_Compare_uint64.f a0_0 a1_0).bind fun t127 => ((cmp_Compare_uint64.f a0_1 a1_1).bind fun t128 => ((cmp_Or_int.f k (([t127, t128] : List Int))).bind fun t132 => (some t132)))
def big_size_cmp.T1 : Bool × List (List Nat × List Nat) := (true, [([], []), ([0], [0]), ([], []), ([2], [2]), ([1, 3], [1, 3]), ([], []), ([5], [5]), ([], []), ([7], [7]), ([6, 8, 4], [6, 8]), ([4, 9], [4, 9]), ([10, 9], [10]), ([11, 11, 0, 1, 2, 3, 4, 5, 6, 7, 8, 9, 10, 11], [11])])
def big_size_cmp.B1 : List Nat := [0, 1, 0, 4, 15, 0, 32, 0, 128, 511, 1023, 2047, 4095]
theorem big_size_cmp.tab1 : rtab .any (opsOf Tryz.f149 1) = big_size_cmp.T1 := by kernel_rfl
theorem big_size_cmp.bits1 : waitsOk big_size_cmp.T1.2 big_size_cmp.B1 = true := by kernel_rfl
set_option maxHeartbeats 8000000 in
set_option maxRecDepth 100000 in
theorem big_size_cmp.calls (k : Nat) (a0_0 : Int) (a0_1 : Int) (a1_0 : Int) (a1_1 : Int) (r : Int) (w : World) (h : big_size_cmp.f k a0_0 a0_1 a1_0 a1_1 = some r) :
  Calls Tryz.prog 149 #[.agg #[.int .u64 a0_0, .int .u64 a0_1], .agg #[.int .u64 a1_0, .int .u64 a1_1]] w fun e w' => e = .returned (.int .i64 r) ∧ Below w.heap.size w w' := by
 have hu154 := Tryz.underlying154
 have HB := Aside0.mk (Below.refl w.heap.size w)
 have H : ((cmp_Compare_uint64.f a0_0 a1_0).bind fun t127 => ((cmp_Compare_uint64.f a0_1 a1_1).bind fun t128 => ((cmp_Or_int.f k (([t127, t128] : List Int))).bind fun t132 => (some t132)))) = some r := h
 clear h
 replace H := Option.bind_eq_some_iff.mp H
 obtain ⟨t127, A30, H⟩ := H
 replace H : ((cmp_Compare_uint64.f a0_1 a1_1).bind fun t128 => ((cmp_Or_int.f k (([t127, t128] : List Int))).bind fun t132 => (some t132))) = some r := H
 have A3 := Aside0.mk A30
 clear A30
 replace H := Option.bind_eq_some_iff.mp H
 obtain ⟨t128, A40, H⟩ := H
 replace H : ((cmp_Or_int.f k (([t127, t128] : List Int))).bind fun t132 => (some t132)) = some r := H
 have A4 := Aside0.mk A40
 clear A40
 obtain ⟨y129, hy129⟩ : ∃ y_ : List Int, y_ = (([t127, t128] : List Int)) := ⟨_, rfl⟩
 replace H : ((cmp_Or_int.f k y129).bind fun t132 => (some t132)) = some r := by first | (rw [hy129]; with_reducible exact H) | (have H2_ := (Option.bind_some _ _).symm.trans H; rw [hy129]; with_reducible exact H2_) | (have H2_ := (Option.bind_some _ _).symm.trans H; with_reducible exact H2_) | with_reducible exact H | (rw [hy129]; exact H) | exact H
 have Ny129 := Aside0.mk hy129
 clear hy129
 replace H := Option.bind_eq_some_iff.mp H
 obtain ⟨t132, A50, H⟩ := H
 replace H : (some t132) = some r := H
 have A5 := Aside0.mk A50
 clear A50
 obtain rfl := Option.some.inj H
 go_enter Tryz.func149, Tryz.ntmps149
 try go_wp2_with (first | ((with_reducible refine gate_dst (N := 2) rfl ?_); refine box_event ?hg (N := 2) ?hd (cs := #[.int .u64 a0_0, .int .u64 a0_1]) (t := 154) ?hr ?_; (case hd => rfl); (case hg => rfl); (case hr => first | (go_simp; done) | (go_simp; rfl)); intro gb125 hg w6 hbox hb; have BK125 := Aside0.mk (hbox); have GW125 := Aside0.mk ((by rw [hg]; exact (below_size (by repeat (first | (with_reducible first | exact HB.out | apply below_alloc | apply pw_below_drewN | apply below_drew1) | exact HB.out))) : w.heap.size ≤ gb125)); have GE125 := Aside0.mk ((by rw [hg]; exact (below_size (by repeat (first | (with_reducible first | exact HB.out | apply below_alloc | apply pw_below_drewN | apply below_drew1) | exact HB.out))) : w.heap.size ≤ gb125)); replace HB := Aside0.mk (below_step (by repeat (first | (with_reducible first | exact HB.out | apply below_alloc | apply pw_below_drewN | apply below_drew1) | exact HB.out)) hb); clear hb hbox hg) | ((with_reducible refine gate_dst (N := 3) rfl ?_); refine box_event ?hg (N := 3) ?hd (cs := #[.int .u64 a1_0, .int .u64 a1_1]) (t := 154) ?hr ?_; (case hd => rfl); (case hg => rfl); (case hr => first | (go_simp; done) | (go_simp; rfl)); intro gb126 hg w7 hbox hb; have BK126 := Aside0.mk (hbox); have GW126 := Aside0.mk ((by rw [hg]; exact (below_size (by repeat (first | (with_reducible first | exact HB.out | apply below_alloc | apply pw_below_drewN | apply below_drew1 | refine below_set ?_ GE125.out) | exact HB.out))) : w.heap.size ≤ gb126)); have GE126 := Aside0.mk ((by rw [hg]; exact (below_size (by repeat (first | (with_reducible first | exact HB.out | apply below_alloc | apply pw_below_drewN | apply below_drew1 | refine below_set ?_ GE125.out) | exact HB.out))) : w.heap.size ≤ gb126)); have NB125_126 := Aside0.mk ((by rw [hg]; exact Nat.ne_of_lt (blk_lt (g := gb125) (o := .cells #[.int .u64 a0_0, .int .u64 a0_1] 154 (0, 0)) (by (with_reducible repeat (first | refine blk_drewN ?_ _ | refine blk_drew ?_ | refine blk_alloc ?_ _)); exact BK125.out)) : gb125 ≠ gb126)); have NB126_125 := Aside0.mk ((by rw [hg]; exact Nat.ne_of_gt (blk_lt (g := gb125) (o := .cells #[.int .u64 a0_0, .int .u64 a0_1] 154 (0, 0)) (by (with_reducible repeat (first | refine blk_drewN ?_ _ | refine blk_drew ?_ | refine blk_alloc ?_ _)); exact BK125.out)) : gb126 ≠ gb125)); replace BK125 := Aside0.mk (blk_below (g := gb125) (o := .cells #[.int .u64 a0_0, .int .u64 a0_1] 154 (0, 0)) (by (with_reducible repeat (first | refine blk_drewN ?_ _ | refine blk_drew ?_ | refine blk_alloc ?_ _)); exact BK125.out) hb); replace HB := Aside0.mk (below_step (by repeat (first | (with_reducible first | exact HB.out | apply below_alloc | apply pw_below_drewN | apply below_drew1 | refine below_set ?_ GE125.out) | exact HB.out)) hb); clear hb hbox hg))
 replace BK125 := Aside0.mk (blk_drew BK125.out)
 replace BK126 := Aside0.mk (blk_drew BK126.out)
 replace HB := Aside0.mk (below_drew1 HB.out)
 refine start_ (n := 13) (S := fun w' => w'.cell? ⟨gb125, 0, none⟩ = some (.int .u64 a0_0) ∧ w'.cell? ⟨gb125, 1, none⟩ = some (.int .u64 a0_1) ∧ w'.cell? ⟨gb126, 0, none⟩ = some (.int .u64 a1_0) ∧ w'.cell? ⟨gb126, 1, none⟩ = some (.int .u64 a1_1)) (ds := []) #[N,N,N,N,N,N,N,N,N,N,N,N,N] (by kernel_rfl) rfl rfl ⟨(blk_cell BK125.out 0).trans rfl, (blk_cell BK125.out 1).trans rfl, (blk_cell BK126.out 0).trans rfl, (blk_cell BK126.out 1).trans rfl⟩ (fun hHeld => ?_); refine with_tabW big_size_cmp.tab1 big_size_cmp.bits1 (fun HT_ HW_ => ?_)
 generalize w7.drew = w8 at BK125 BK126 HB hHeld ⊢
 refine pure_ (i := 0) (N := some 5) (v := ?_) (a' := ?_) #[Y,N,N,N,N,N,N,N,N,N,N,N,N] rfl rfl (any_of HT_.out (by kernel_rfl)) (fun _ _ _ h => h) (Or.inl ⟨by rfl, ?_⟩) ?_ ?_
 rotate_left
 ·intro w'
  go_simp
  with_reducible rfl
 rotate_left
 ·simp only [Act.put, sA, sB, sC, i64_w, i32_w]
  rfl
 refine pure_ (i := 2) (N := some 7) (v := ?_) (a' := ?_) #[Y,N,Y,N,N,N,N,N,N,N,N,N,N] rfl rfl (any_of HT_.out (by kernel_rfl)) (fun _ _ _ h => h) (Or.inl ⟨by rfl, ?_⟩) ?_ ?_
 rotate_left
 ·intro w'
  go_simp
  with_reducible rfl
 rotate_left
 ·simp only [Act.put, sA, sB, sC, i64_w, i32_w]
  rfl
 refine pure_ (i := 5) (N := some 10) (v := ?_) (a' := ?_) #[Y,N,Y,N,N,Y,N,N,N,N,N,N,N] rfl rfl (any_of HT_.out (by kernel_rfl)) (fun _ _ _ h => h) (Or.inl ⟨by rfl, ?_⟩) ?_ ?_
 rotate_left
 ·intro w'
  go_simp
  with_reducible rfl
 rotate_left
 ·simp only [Act.put, sA, sB, sC, i64_w, i32_w]
  rfl
 refine pure_ (i := 7) (N := some 12) (v := ?_) (a' := ?_) #[Y,N,Y,N,N,Y,N,Y,N,N,N,N,N] rfl rfl (any_of HT_.out (by kernel_rfl)) (fun _ _ _ h => h) (Or.inl ⟨by rfl, ?_⟩) ?_ ?_
 rotate_left
 ·intro w'
  go_simp
  with_reducible rfl
 rotate_left
 ·simp only [Act.put, sA, sB, sC, i64_w, i32_w]
  rfl
 refine take_ (i := 1) (N := some 6) (v := ?_) (a' := ?_) #[Y,Y,Y,N,N,Y,N,Y,N,N,N,N,N] rfl rfl (take_ofW HT_.out HW_.out (by kernel_rfl)) (fun _ _ _ h => h) (Or.inl ⟨by rfl, ?_⟩) hHeld ?_ ?_
 rotate_left
 ·rintro w' ⟨s0, s1, s2, s3⟩
  go_simp
  with_reducible rfl
 rotate_left
 ·simp only [Act.put, sA, sB, sC, i64_w, i32_w]
  rfl
 refine take_ (i := 3) (N := some 8) (v := ?_) (a' := ?_) #[Y,Y,Y,Y,N,Y,N,Y,N,N,N,N,N] rfl rfl (take_ofW HT_.out HW_.out (by kernel_rfl)) (fun _ _ _ h => h) (Or.inl ⟨by rfl, ?_⟩) hHeld ?_ ?_
 rotate_left
 ·rintro w' ⟨s0, s1, s2, s3⟩
  go_simp
  with_reducible rfl
 rotate_left
 ·simp only [Act.put, sA, sB, sC, i64_w, i32_w]
  rfl
 refine take_ (i := 6) (N := some 11) (v := ?_) (a' := ?_) #[Y,Y,Y,Y,N,Y,Y,Y,N,N,N,N,N] rfl rfl (take_ofW HT_.out HW_.out (by kernel_rfl)) (fun _ _ _ h => h) (Or.inl ⟨by rfl, ?_⟩) hHeld ?_ ?_
 rotate_left
 ·rintro w' ⟨s0, s1, s2, s3⟩
  go_simp
  with_reducible rfl
 rotate_left
 ·simp only [Act.put, sA, sB, sC, i64_w, i32_w]
  rfl
 refine take_ (i := 8) (N := some 13) (v := ?_) (a' := ?_) #[Y,Y,Y,Y,N,Y,Y,Y,Y,N,N,N,N] rfl rfl (take_ofW HT_.out HW_.out (by kernel_rfl)) (fun _ _ _ h => h) (Or.inl ⟨by rfl, ?_⟩) hHeld ?_ ?_
 rotate_left
 ·rintro w' ⟨s0, s1, s2, s3⟩
  go_simp
  with_reducible rfl
 rotate_left
 ·simp only [Act.put, sA, sB, sC, i64_w, i32_w]
  rfl
 refine one_ (i := 4) (N := some 9) #[Y,Y,Y,Y,Y,Y,Y,Y,Y,N,N,N,N] rfl rfl (one_of HT_.out (by kernel_rfl)) (by decide) (fun K hK => ?_)
 refine goes_ Tryz.func169 (by kernel_rfl) rfl #[.int .u64 a0_0, .int .u64 a1_0] (by rfl) rfl rfl (by (try simp only [List.map_toArray, List.map_cons, List.map_nil]); first | done | rfl | (simp only [List.length_drop, List.length_take]; rfl)) ?_
 with_reducible refine (cmp_Compare_uint64.calls a0_0 a1_0 t127 _ A3.out).mono ?_
 rintro e w' ⟨rfl, ⟨nd, rfl⟩⟩
 refine ⟨_, rfl, ?_⟩
 refine hK.out _ _ ⟨(blk_cell BK125.out 0).trans rfl, (blk_cell BK125.out 1).trans rfl, (blk_cell BK126.out 0).trans rfl, (blk_cell BK126.out 1).trans rfl⟩ (fun hHeld => ?_)
 clear hK K
 refine norm_ (a' := ?_) ?_ ?_
 rotate_left
 ·show Act.put _ (some 9) _ = _
  simp only [Act.put, sA, sB, sC, i64_w, i32_w]
  rfl
 refine one_ (i := 9) (N := some 14) #[Y,Y,Y,Y,Y,Y,Y,Y,Y,Y,N,N,N] rfl rfl (one_of HT_.out (by kernel_rfl)) (by decide) (fun K hK => ?_)
 refine goes_ Tryz.func169 (by kernel_rfl) rfl #[.int .u64 a0_1, .int .u64 a1_1] (by rfl) rfl rfl (by (try simp only [List.map_toArray, List.map_cons, List.map_nil]); first | done | rfl | (simp only [List.length_drop, List.length_take]; rfl)) ?_
 with_reducible refine (cmp_Compare_uint64.calls a0_1 a1_1 t128 _ A4.out).mono ?_
 rintro e w' ⟨rfl, ⟨nd, rfl⟩⟩
 refine ⟨_, rfl, ?_⟩
 refine hK.out _ _ ⟨(blk_cell BK125.out 0).trans rfl, (blk_cell BK125.out 1).trans rfl, (blk_cell BK126.out 0).trans rfl, (blk_cell BK126.out 1).trans rfl⟩ (fun hHeld => ?_)
 clear hK K
 refine norm_ (a' := ?_) ?_ ?_
 rotate_left
 ·show Act.put _ (some 14) _ = _
  simp only [Act.put, sA, sB, sC, i64_w, i32_w]
  rfl
 refine one_ (i := 10) (N := some 15) #[Y,Y,Y,Y,Y,Y,Y,Y,Y,Y,Y,N,N] rfl rfl (one_of HT_.out (by kernel_rfl)) (by decide) (fun K hK => ?_)
 refine Kd.R_lit_step (Kd.int .i64) _ 3 ?hg (N := 15) ?hd (xs := ([t127, t128] : List Int)) (inner := [.int .i64 t127, .int .i64 t128]) (ok := fun _ => True) (okp := fun _ => True) ?hr ?hp (fun _ hk => hk) trivial (Below.refl _ _) (Nat.le_refl _) (by simp) ?_; (case hd => rfl); (case hg => rfl); (case hr => first | (go_simp; done) | (go_simp; rfl)); (case hp => exact (Reps.one (show Kd.M (Kd.int .i64) _ _ _ t127 [.int .i64 t127] from rfl) (Reps.one (show Kd.M (Kd.int .i64) _ _ _ t128 [.int .i64 t128] from rfl) (Reps.none _ _))))
 intro v130 w9 ho10 hb hg_ hnew_
 clear hg_ hnew_
 (first | rw [← Ny129.out] at ho10 | (simp only [Int.reduceToNat] at ho10; rw [← Ny129.out] at ho10))
 have HO131 := Aside0.mk (Kd.R_lower ho10 (below_size (by repeat (first | (with_reducible first | exact HB.out | apply below_alloc | apply pw_below_drewN | apply below_drew1 | refine below_set ?_ GE125.out | refine below_set ?_ GE126.out) | exact HB.out))))
 replace BK125 := Aside0.mk (blk_below (g := gb125) (o := .cells #[.int .u64 a0_0, .int .u64 a0_1] 154 (0, 0)) (by (with_reducible repeat (first | refine blk_drewN ?_ _ | refine blk_drew ?_ | refine blk_alloc ?_ _)); exact BK125.out) hb)
 replace BK126 := Aside0.mk (blk_below (g := gb126) (o := .cells #[.int .u64 a1_0, .int .u64 a1_1] 154 (0, 0)) (by (with_reducible repeat (first | refine blk_drewN ?_ _ | refine blk_drew ?_ | refine blk_alloc ?_ _)); exact BK126.out) hb)
 replace HB := Aside0.mk (below_step (by repeat (first | (with_reducible first | exact HB.out | apply below_alloc | apply pw_below_drewN | apply below_drew1 | refine below_set ?_ GE125.out | refine below_set ?_ GE126.out) | exact HB.out)) hb)
 clear hb ho10
 obtain ⟨Ao11, co11, eo11⟩ := Kd.R_slice HO131.out
 (first | subst eo11 | (injection eo11 with f1_ f2_ f3_; have f4_ := f1_.symm; have f5_ := f3_.symm; clear f1_ f2_ f3_; subst f4_; subst f5_))
 refine hK.out _ _ ⟨(blk_cell BK125.out 0).trans rfl, (blk_cell BK125.out 1).trans rfl, (blk_cell BK126.out 0).trans rfl, (blk_cell BK126.out 1).trans rfl⟩ (fun hHeld => ?_)
 clear hK K
 refine norm_ (a' := ?_) ?_ ?_
 rotate_left
 ·show Act.put _ (some 15) _ = _
  simp only [Act.put, sA, sB, sC, i64_w, i32_w]
  rfl
 refine one_ (i := 11) (N := some 16) #[Y,Y,Y,Y,Y,Y,Y,Y,Y,Y,Y,Y,N] rfl rfl (one_of HT_.out (by kernel_rfl)) (by decide) (fun K hK => ?_)
 refine goes_ Tryz.func168 (by kernel_rfl) rfl #[.slice Ao11 y129.length co11] (by rfl) rfl rfl (by (try simp only [List.map_toArray, List.map_cons, List.map_nil]); first | done | rfl | (simp only [List.length_drop, List.length_take]; rfl)) ?_
 with_reducible refine (cmp_Or_int.calls k _ _ y129 t132 _ ?side1 ?side2 A5.out).mono ?_
 (case side1 => repeat (first | exact (Kd.R_reads' HO131.out).2.2 | (with_reducible refine Kd.C_alloc ?_ _) | (with_reducible refine Kd.C_drewN ?_ _) | (with_reducible refine Kd.C_drew ?_)))
 (case side2 => exact (Kd.R_reads' HO131.out).2.1)
 rintro e w' ⟨rfl, ⟨nd, rfl⟩⟩
 refine ⟨_, rfl, ?_⟩
 refine hK.out _ _ ⟨(blk_cell BK125.out 0).trans rfl, (blk_cell BK125.out 1).trans rfl, (blk_cell BK126.out 0).trans rfl, (blk_cell BK126.out 1).trans rfl⟩ (fun hHeld => ?_)
 clear hK K
 refine norm_ (a' := ?_) ?_ ?_
 rotate_left
 ·show Act.put _ (some 16) _ = _
  simp only [Act.put, sA, sB, sC, i64_w, i32_w]
  rfl
 refine pure_ (i := 12) (N := some 4) (v := ?_) (a' := ?_) #[Y,Y,Y,Y,Y,Y,Y,Y,Y,Y,Y,Y,Y] rfl rfl (any_of HT_.out (by kernel_rfl)) (fun _ _ _ h => h) (Or.inl ⟨by rfl, ?_⟩) ?_ ?_
 rotate_left
 ·intro w'
  go_simp
  with_reducible rfl
 rotate_left
 ·simp only [Act.put, sA, sB, sC, i64_w, i32_w]
  rfl
 refine done_ (done_of HT_.out (by kernel_rfl)) ?_
 try go_wp2
 go_ret
 exact ⟨by first | rfl | (simp [errW_none, errW_some] <;> rfl) | (simp [*, errW_none, errW_some] <;> rfl), by repeat (first | (with_reducible first | exact HB.out | apply below_alloc | apply pw_below_drewN | apply below_drew1 | refine below_set ?_ GE125.out | refine below_set ?_ GE126.out) | exact HB.out)⟩

/-! ### big_size_cmpS: which size is greater: pure, behind function 149 -/
section SizeCmp
open Go.Proofs.YtfahbgkoldoflaaGreatDoor.Sp
theorem cmpU_eq (a b : Int) : cmp_Compare_uint64.f a b = some (cmpI a b) := by
 unfold cmp_Compare_uint64.f cmp_isNaN_uint64.f cmpI
 simp
 split
 ·rfl
 ·split <;> split <;> first | rfl | omega
theorem orI_eq (a b : Int) : cmp_Or_int.f 3 [a, b] = some (if a = 0 then b else a) := by
 have w1 : wrap64 (0 + 1) = 1 := by unfold wrap64; omega
 have w2 : wrap64 (1 + 1) = 2 := by unfold wrap64; omega
 unfold cmp_Or_int.f
 simp only [cmp_Or_int.l0, List.length_cons, List.length_nil, rd, w1, w2]
 by_cases ha : a = 0 <;> by_cases hb : b = 0 <;> simp [ha, hb]
end SizeCmp
noncomputable def big_size_cmpS.f (a b c d : Int) : Option Int := Sp.need (0 ≤ a ∧ a < 18446744073709551616 ∧ 0 ≤ b ∧ b < 18446744073709551616 ∧ 0 ≤ c ∧ c < 18446744073709551616 ∧ 0 ≤ d ∧ d < 18446744073709551616) (some (Sp.cmpI (a * 18446744073709551616 + b) (c * 18446744073709551616 + d)))
theorem big_size_cmpS.calls (a0_0 a0_1 a1_0 a1_1 r : Int) (w : World) (h : big_size_cmpS.f a0_0 a0_1 a1_0 a1_1 = some r) :
  Calls Tryz.prog 149 #[.agg #[.int .u64 a0_0, .int .u64 a0_1], .agg #[.int .u64 a1_0, .int .u64 a1_1]] w fun e w' => e = .returned (.int .i64 r) ∧ Below w.heap.size w w' := by
 obtain ⟨hc, h⟩ := Sp.need_some h
 refine big_size_cmp.calls 3 a0_0 a0_1 a1_0 a1_1 r w ?_
 rw [← h]
 unfold big_size_cmp.f
 rw [cmpU_eq, cmpU_eq]
 simp only [Option.bind_some, orI_eq]
 congr 1
 unfold Sp.cmpI
 obtain ⟨_, _, _, _, _, _, _, _⟩ := hc
 (repeat' split) <;> omega

/-! ### bits_Sub64: function 170 -/
noncomputable def bits_Sub64.f (x y c : Int) : Option (Int × Int) := Sp.need (0 ≤ x ∧ 0 ≤ y ∧ y < 18446744073709551616 ∧ 0 ≤ c ∧ c ≤ 1) (some ((x - y - c) % 18446744073709551616, if x < y + c then 1 else 0))
def sub64Entry : Array Value → Sem Value := fun args => do
 let (x, y, b) ← Extern.MathBitsCarry.three "Sub64" args
 pure (Extern.MathBitsCarry.pair ((x + Extern.MathBitsCarry.m64 - y - b) % Extern.MathBitsCarry.m64) (if x < y + b then 1 else 0))
theorem bits_Sub64.runs (x y c r1 r2 : Int) (h : bits_Sub64.f x y c = some (r1, r2)) (w : World) :
  (callFunc 170 #[.int .u64 x, .int .u64 y, .int .u64 c]).run Tryz.prog w = .ok (.value (.tuple #[.int .u64 r1, .int .u64 r2])) w := by
 obtain ⟨hc, h⟩ := Sp.need_some h
 obtain ⟨h1, h2, h2', h3, h4⟩ := hc
 simp only [Option.some.injEq, Prod.mk.injEq] at h
 obtain ⟨rfl, rfl⟩ := h
 have key : ∀ k : Nat, k ≤ 1 → (sub64Entry #[.int .u64 x, .int .u64 y, .int .u64 (k : Int)]).run Tryz.prog w =
   .ok (Extern.MathBitsCarry.pair ((x.toNat + Extern.MathBitsCarry.m64 - y.toNat - k) % Extern.MathBitsCarry.m64) (if x.toNat < y.toNat + k then 1 else 0)) w := by
  intro k hk
  have : k = 0 ∨ k = 1 := by omega
  rcases this with rfl | rfl <;> rfl
 obtain ⟨k, rfl⟩ := Int.eq_ofNat_of_zero_le h3
 rw [run_callFunc_extern (e := sub64Entry) Tryz.func170 (by kernel_rfl) (by kernel_rfl) (by kernel_rfl) (by kernel_rfl), key k (by omega)]
 obtain ⟨X, rfl⟩ := Int.eq_ofNat_of_zero_le h1
 obtain ⟨Y, rfl⟩ := Int.eq_ofNat_of_zero_le h2
 simp only [Extern.MathBitsCarry.pair, Extern.MathBitsCarry.m64, Int.toNat_natCast, Result.andThen]
 have e1 : (((X + 18446744073709551616 - Y - k) % 18446744073709551616 : Nat) : Int) = ((X : Int) - Y - k) % 18446744073709551616 := by omega
 have e2 : ((if X < Y + k then 1 else 0 : Nat) : Int) = if (X : Int) < Y + k then 1 else 0 := by split <;> split <;> omega
 rw [← e1, ← e2]
 rfl

/-! ### big_size_minus: function 150 -/
noncomputable def big_size_minus.f (a0_0 : Int) (a0_1 : Int) (a1_0 : Int) (a1_1 : Int) : Option (Int × Int) := (bits_Sub64.f a0_1 a1_1 0).bind fun bt136 => ((bits_Sub64.f a0_0 a1_0 bt136.2).bind fun bt138 => (some (bt138.1, bt136.1)))
set_option maxHeartbeats 8000000 in
set_option maxRecDepth 100000 in
theorem big_size_minus.calls (a0_0 : Int) (a0_1 : Int) (a1_0 : Int) (a1_1 : Int) (r1 : Int) (r2 : Int) (w : World) (h : big_size_minus.f a0_0 a0_1 a1_0 a1_1 = some (r1, r2)) :
  Calls Tryz.prog 150 #[.agg #[.int .u64 a0_0, .int .u64 a0_1], .agg #[.int .u64 a1_0, .int .u64 a1_1]] w fun e w' => e = .returned (.agg #[.int .u64 r1, .int .u64 r2]) ∧ Below w.heap.size w w' := by
 have hu154 := Tryz.underlying154
 have HB := Aside0.mk (Below.refl w.heap.size w)
 have H : ((bits_Sub64.f a0_1 a1_1 0).bind fun bt136 => ((bits_Sub64.f a0_0 a1_0 bt136.2).bind fun bt138 => (some (bt138.1, bt136.1)))) = some (r1, r2) := h
 clear h
 replace H := Option.bind_eq_some_iff.mp H
 obtain ⟨⟨t136, t137⟩, A30, H⟩ := H
 replace H : ((bits_Sub64.f a0_0 a1_0 t137).bind fun bt138 => (some (bt138.1, t136))) = some (r1, r2) := H
 have A3 := Aside0.mk A30
 clear A30
 replace H := Option.bind_eq_some_iff.mp H
 obtain ⟨⟨t138, t139⟩, A40, H⟩ := H
 replace H : (some (t138, t136)) = some (r1, r2) := H
 have A4 := Aside0.mk A40
 clear A40
 simp only [Option.some.injEq, Prod.mk.injEq] at H
 obtain ⟨rfl, rfl⟩ := H
 go_enter Tryz.func150, Tryz.ntmps150
 go_wp2_with (first | ((with_reducible refine gate_dst (N := 2) rfl ?_); refine box_event ?hg (N := 2) ?hd (cs := #[.int .u64 a0_0, .int .u64 a0_1]) (t := 154) ?hr ?_; (case hd => rfl); (case hg => rfl); (case hr => first | (go_simp; done) | (go_simp; rfl)); intro gb133 hg w5 hbox hb; have BK133 := Aside0.mk (hbox); have GW133 := Aside0.mk ((by rw [hg]; exact (below_size (by repeat (first | (with_reducible first | exact HB.out | apply below_alloc | apply pw_below_drewN | apply below_drew1) | exact HB.out))) : w.heap.size ≤ gb133)); have GE133 := Aside0.mk ((by rw [hg]; exact (below_size (by repeat (first | (with_reducible first | exact HB.out | apply below_alloc | apply pw_below_drewN | apply below_drew1) | exact HB.out))) : w.heap.size ≤ gb133)); replace HB := Aside0.mk (below_step (by repeat (first | (with_reducible first | exact HB.out | apply below_alloc | apply pw_below_drewN | apply below_drew1) | exact HB.out)) hb); clear hb hbox hg) | ((with_reducible refine gate_dst (N := 3) rfl ?_); refine box_event ?hg (N := 3) ?hd (cs := #[.int .u64 a1_0, .int .u64 a1_1]) (t := 154) ?hr ?_; (case hd => rfl); (case hg => rfl); (case hr => first | (go_simp; done) | (go_simp; rfl)); intro gb134 hg w6 hbox hb; have BK134 := Aside0.mk (hbox); have GW134 := Aside0.mk ((by rw [hg]; exact (below_size (by repeat (first | (with_reducible first | exact HB.out | apply below_alloc | apply pw_below_drewN | apply below_drew1 | refine below_set ?_ GE133.out) | exact HB.out))) : w.heap.size ≤ gb134)); have GE134 := Aside0.mk ((by rw [hg]; exact (below_size (by repeat (first | (with_reducible first | exact HB.out | apply below_alloc | apply pw_below_drewN | apply below_drew1 | refine below_set ?_ GE133.out) | exact HB.out))) : w.heap.size ≤ gb134)); have NB133_134 := Aside0.mk ((by rw [hg]; exact Nat.ne_of_lt (blk_lt (g := gb133) (o := .cells #[.int .u64 a0_0, .int .u64 a0_1] 154 (0, 0)) (by (with_reducible repeat (first | refine blk_drewN ?_ _ | refine blk_drew ?_ | refine blk_alloc ?_ _)); exact BK133.out)) : gb133 ≠ gb134)); have NB134_133 := Aside0.mk ((by rw [hg]; exact Nat.ne_of_gt (blk_lt (g := gb133) (o := .cells #[.int .u64 a0_0, .int .u64 a0_1] 154 (0, 0)) (by (with_reducible repeat (first | refine blk_drewN ?_ _ | refine blk_drew ?_ | refine blk_alloc ?_ _)); exact BK133.out)) : gb134 ≠ gb133)); replace BK133 := Aside0.mk (blk_below (g := gb133) (o := .cells #[.int .u64 a0_0, .int .u64 a0_1] 154 (0, 0)) (by (with_reducible repeat (first | refine blk_drewN ?_ _ | refine blk_drew ?_ | refine blk_alloc ?_ _)); exact BK133.out) hb); replace HB := Aside0.mk (below_step (by repeat (first | (with_reducible first | exact HB.out | apply below_alloc | apply pw_below_drewN | apply below_drew1 | refine below_set ?_ GE133.out) | exact HB.out)) hb); clear hb hbox hg) | ((with_reducible refine gate_dst (N := 4) rfl ?_); refine box_event ?hg (N := 4) ?hd (cs := #[.int .u64 0, .int .u64 0]) (t := 154) ?hr ?_; (case hd => rfl); (case hg => rfl); (case hr => first | (go_simp; done) | (go_simp; rfl)); intro gb135 hg w7 hbox hb; have BK135 := Aside0.mk (hbox); have GW135 := Aside0.mk ((by rw [hg]; exact (below_size (by repeat (first | (with_reducible first | exact HB.out | apply below_alloc | apply pw_below_drewN | apply below_drew1 | refine below_set ?_ GE133.out | refine below_set ?_ GE134.out) | exact HB.out))) : w.heap.size ≤ gb135)); have GE135 := Aside0.mk ((by rw [hg]; exact (below_size (by repeat (first | (with_reducible first | exact HB.out | apply below_alloc | apply pw_below_drewN | apply below_drew1 | refine below_set ?_ GE133.out | refine below_set ?_ GE134.out) | exact HB.out))) : w.heap.size ≤ gb135)); have NB133_135 := Aside0.mk ((by rw [hg]; exact Nat.ne_of_lt (blk_lt (g := gb133) (o := .cells #[.int .u64 a0_0, .int .u64 a0_1] 154 (0, 0)) (by (with_reducible repeat (first | refine blk_drewN ?_ _ | refine blk_drew ?_ | refine blk_alloc ?_ _)); exact BK133.out)) : gb133 ≠ gb135)); have NB135_133 := Aside0.mk ((by rw [hg]; exact Nat.ne_of_gt (blk_lt (g := gb133) (o := .cells #[.int .u64 a0_0, .int .u64 a0_1] 154 (0, 0)) (by (with_reducible repeat (first | refine blk_drewN ?_ _ | refine blk_drew ?_ | refine blk_alloc ?_ _)); exact BK133.out)) : gb135 ≠ gb133)); have NB134_135 := Aside0.mk ((by rw [hg]; exact Nat.ne_of_lt (blk_lt (g := gb134) (o := .cells #[.int .u64 a1_0, .int .u64 a1_1] 154 (0, 0)) (by (with_reducible repeat (first | refine blk_drewN ?_ _ | refine blk_drew ?_ | refine blk_alloc ?_ _)); exact BK134.out)) : gb134 ≠ gb135)); have NB135_134 := Aside0.mk ((by rw [hg]; exact Nat.ne_of_gt (blk_lt (g := gb134) (o := .cells #[.int .u64 a1_0, .int .u64 a1_1] 154 (0, 0)) (by (with_reducible repeat (first | refine blk_drewN ?_ _ | refine blk_drew ?_ | refine blk_alloc ?_ _)); exact BK134.out)) : gb135 ≠ gb134)); replace BK133 := Aside0.mk (blk_below (g := gb133) (o := .cells #[.int .u64 a0_0, .int .u64 a0_1] 154 (0, 0)) (by (with_reducible repeat (first | refine blk_drewN ?_ _ | refine blk_drew ?_ | refine blk_alloc ?_ _)); exact BK133.out) hb); replace BK134 := Aside0.mk (blk_below (g := gb134) (o := .cells #[.int .u64 a1_0, .int .u64 a1_1] 154 (0, 0)) (by (with_reducible repeat (first | refine blk_drewN ?_ _ | refine blk_drew ?_ | refine blk_alloc ?_ _)); exact BK134.out) hb); replace HB := Aside0.mk (below_step (by repeat (first | (with_reducible first | exact HB.out | apply below_alloc | apply pw_below_drewN | apply below_drew1 | refine below_set ?_ GE133.out | refine below_set ?_ GE134.out) | exact HB.out)) hb); clear hb hbox hg; have hnb8 := NB133_134.out; have hnc8 := NB134_133.out; have hnb9 := NB133_135.out; have hnc9 := NB135_133.out; have hcz10_0 : w7.cell? ⟨gb133, 0, none⟩ = some (.int .u64 a0_0) := (blk_cell BK133.out 0).trans rfl; have hcz10_1 : w7.cell? ⟨gb133, 1, none⟩ = some (.int .u64 a0_1) := (blk_cell BK133.out 1).trans rfl; have hfz10_0 := blk_frozen BK133.out 0; have hfz10_1 := blk_frozen BK133.out 1; have hnb11 := NB134_135.out; have hnc11 := NB135_134.out; have hcz12_0 : w7.cell? ⟨gb134, 0, none⟩ = some (.int .u64 a1_0) := (blk_cell BK134.out 0).trans rfl; have hcz12_1 : w7.cell? ⟨gb134, 1, none⟩ = some (.int .u64 a1_1) := (blk_cell BK134.out 1).trans rfl; have hfz12_0 := blk_frozen BK134.out 0; have hfz12_1 := blk_frozen BK134.out 1) | (simp only [bits_Sub64.runs a0_1 a1_1 0 t136 t137 A3.out]) | (simp only [bits_Sub64.runs a0_0 a1_0 t137 t138 t139 A4.out]; have hcz13_0 : w7.cell? ⟨gb135, 0, none⟩ = some (.int .u64 0) := (blk_cell BK135.out 0).trans rfl; have hcz13_1 : w7.cell? ⟨gb135, 1, none⟩ = some (.int .u64 0) := (blk_cell BK135.out 1).trans rfl; have hfz13_0 := blk_frozen BK135.out 0; have hfz13_1 := blk_frozen BK135.out 1))
 refine bodyPost_ret (results_cell_row rfl _ _ gb135 154 #[.int .u64 t138, .int .u64 t136] (0, 0) _ rfl (by (with_reducible repeat (first | refine blk_drewN ?_ _ | refine blk_drew ?_ | refine blk_alloc ?_ _)); refine blk_put (cs := #[.int .u64 t138, .int .u64 0]) ?_ 1 _ rfl; (with_reducible repeat (first | refine blk_drewN ?_ _ | refine blk_drew ?_ | refine blk_alloc ?_ _)); refine blk_put (cs := #[.int .u64 0, .int .u64 0]) ?_ 0 _ rfl; (with_reducible repeat (first | refine blk_drewN ?_ _ | refine blk_drew ?_ | refine blk_alloc ?_ _)); exact BK135.out) Tryz.underlying154 rfl (by kernel_rfl)) rfl ?_
 exact ⟨by first | rfl | (simp [errW_none, errW_some] <;> rfl) | (simp [*, errW_none, errW_some] <;> rfl), by repeat (first | (with_reducible first | exact HB.out | apply below_alloc | apply pw_below_drewN | apply below_drew1 | refine below_set ?_ GE133.out | refine below_set ?_ GE134.out | refine below_set ?_ GE135.out) | exact HB.out)⟩

/-! ### big_size_minusS: a difference of sizes: pure, behind function 150 -/
noncomputable def big_size_minusS.f (a b c d : Int) : Option (Int × Int) := Sp.need (0 ≤ a ∧ a < 18446744073709551616 ∧ 0 ≤ b ∧ b < 18446744073709551616 ∧ 0 ≤ c ∧ c < 18446744073709551616 ∧ 0 ≤ d ∧ d < 18446744073709551616 ∧ c * 18446744073709551616 + d ≤ a * 18446744073709551616 + b) (some (((a * 18446744073709551616 + b) - (c * 18446744073709551616 + d)) / 18446744073709551616, ((a * 18446744073709551616 + b) - (c * 18446744073709551616 + d)) % 18446744073709551616))
theorem big_size_minusS.calls (a0_0 a0_1 a1_0 a1_1 r1 r2 : Int) (w : World) (h : big_size_minusS.f a0_0 a0_1 a1_0 a1_1 = some (r1, r2)) :
  Calls Tryz.prog 150 #[.agg #[.int .u64 a0_0, .int .u64 a0_1], .agg #[.int .u64 a1_0, .int .u64 a1_1]] w fun e w' => e = .returned (.agg #[.int .u64 r1, .int .u64 r2]) ∧ Below w.heap.size w w' := by
 obtain ⟨hc, h⟩ := Sp.need_some h
 refine big_size_minus.calls a0_0 a0_1 a1_0 a1_1 r1 r2 w ?_
 rw [← h]
 obtain ⟨h1, h2, h3, h4, h5, h6, h7, h8, h9⟩ := hc
 unfold big_size_minus.f bits_Sub64.f
 rw [Sp.need_pos (by omega)]
 simp only [Option.bind_some]
 by_cases hb : a0_1 < a1_1 + 0
 ·rw [if_pos hb, Sp.need_pos (by omega)]
  simp only [Option.bind_some, Option.some.injEq, Prod.mk.injEq]
  omega
 ·rw [if_neg hb, Sp.need_pos (by omega)]
  simp only [Option.bind_some, Option.some.injEq, Prod.mk.injEq]
  omega

end Go.Proofs.YtfahbgkoldoflaaGreatDoor.Px
