/- Printed by px.py, over the kit's print. Conditions: none beside the theorems' own. -/
import Derived.Test.YtbpcfamjidjhjaaDoorPx0
import Derived.Test.YtbpcfamjidjhjaaDoorPx19
import Derived.Test.YtbpcfamjidjhjaaDoorSpec
namespace Go.Proofs.YtbpcfamjidjhjaaDoor.Px
open Go.RowKit Go.Proofs.YtbpcfamjidjhjaaDoorW.PrintWords Go.Proofs.YtbpcfamjidjhjaaDoorW.PrintLast Go.Proofs.YtbpcfamjidjhjaaDoorW.PrintMore
attribute [local go_sem] max2_int min2_int max_two min_two max_three min_three max_four min_four
set_option linter.unusedVariables false
set_option linter.unusedSimpArgs false

/-! ### bits_Div64S: a quotient of 128 bits by 64, and what is left over: pure, behind function 69 -/
section Div64
open Go.Proofs.YtbpcfamjidjhjaaDoor.Sp

theorem div64_q0 {y yn1 yn0 u un q r : Int} (hy : y = yn1 * 4294967296 + yn0) (h1 : 2147483648 ≤ yn1) (h2 : yn1 < 4294967296) (h3 : 0 ≤ yn0) (h4 : yn0 < 4294967296)
  (hu0 : 0 ≤ u) (huy : u < y) (hn0 : 0 ≤ un) (hn : un < 4294967296) (hr : r = u - q * yn1) : q * y = (u - r) * 4294967296 + q * yn0 := by
 subst hr; subst hy
 rw [show u - (u - q * yn1) = q * yn1 by omega, Int.mul_add, Int.mul_assoc]

theorem div64_lt {y u un : Int} (hy : 0 < y) (huy : u < y) (hn : un < 4294967296) : (u * 4294967296 + un) / y < 4294967296 := by
 rw [Int.ediv_lt_iff_lt_mul hy]; omega

theorem div64_ge {y yn1 yn0 u un : Int} (hy : y = yn1 * 4294967296 + yn0) (h1 : 2147483648 ≤ yn1) (h3 : 0 ≤ yn0) (hu0 : 0 ≤ u) (hn0 : 0 ≤ un) (hn : un < 4294967296) : (u * 4294967296 + un) / y ≤ u / yn1 := by
 have hy0 : 0 < y := by omega
 have hQ0 : 0 ≤ (u * 4294967296 + un) / y := Int.ediv_nonneg (by omega) (by omega)
 rw [Int.le_ediv_iff_mul_le (by omega)]
 generalize hQ : (u * 4294967296 + un) / y = Q at *
 have h := Int.ediv_mul_le (u * 4294967296 + un) (b := y) (by omega)
 rw [hQ, hy, Int.mul_add] at h
 have e : Q * (yn1 * 4294967296) = (Q * yn1) * 4294967296 := by rw [Int.mul_assoc]
 have h5 : 0 ≤ Q * yn0 := Int.mul_nonneg hQ0 h3
 rw [e] at h
 omega

theorem div64_small {a b : Int} (ha0 : 0 ≤ a) (ha : a < 4294967296) (hb0 : 0 ≤ b) (hb : b < 4294967296) : 0 ≤ a * b ∧ a * b ≤ 18446744065119617025 :=
 prod_bound a b ha0 (by omega) hb0 (by omega)

/-- What one round's test, and its end, tell of the digit. -/
theorem div64_stop {y yn1 yn0 u un q r : Int} (hy : y = yn1 * 4294967296 + yn0) (h1 : 2147483648 ≤ yn1) (h2 : yn1 < 4294967296) (h3 : 0 ≤ yn0) (h4 : yn0 < 4294967296)
  (hu0 : 0 ≤ u) (huy : u < y) (hn0 : 0 ≤ un) (hn : un < 4294967296) (hr : r = u - q * yn1) (hq : (u * 4294967296 + un) / y ≤ q) (ht : q * yn0 ≤ 4294967296 * r + un) : q = (u * 4294967296 + un) / y := by
 have e := div64_q0 hy h1 h2 h3 h4 hu0 huy hn0 hn hr
 have : q ≤ (u * 4294967296 + un) / y := by rw [Int.le_ediv_iff_mul_le (by omega), e]; omega
 omega
theorem div64_more {y yn1 yn0 u un q r : Int} (hy : y = yn1 * 4294967296 + yn0) (h1 : 2147483648 ≤ yn1) (h2 : yn1 < 4294967296) (h3 : 0 ≤ yn0) (h4 : yn0 < 4294967296)
  (hu0 : 0 ≤ u) (huy : u < y) (hn0 : 0 ≤ un) (hn : un < 4294967296) (hr : r = u - q * yn1) (ht : 4294967296 * r + un < q * yn0) : (u * 4294967296 + un) / y < q := by
 have e := div64_q0 hy h1 h2 h3 h4 hu0 huy hn0 hn hr
 rw [Int.ediv_lt_iff_lt_mul (by omega), e]; omega
/-- Behind a round that leaves the loop. -/
theorem div64_break {y yn1 yn0 u un q r : Int} (hy : y = yn1 * 4294967296 + yn0) (h1 : 2147483648 ≤ yn1) (h2 : yn1 < 4294967296) (h3 : 0 ≤ yn0) (h4 : yn0 < 4294967296)
  (hu0 : 0 ≤ u) (huy : u < y) (hn0 : 0 ≤ un) (hn : un < 4294967296) (hr : r = u - q * yn1) (hq : (u * 4294967296 + un) / y ≤ q) (ht : 4294967296 ≤ r) : q = (u * 4294967296 + un) / y := by
 have hQ0 : 0 ≤ (u * 4294967296 + un) / y := Int.ediv_nonneg (by omega) (by omega)
 have hb : q < 4294967296 := by
  apply Int.not_le.mp
  intro hge; have := Int.mul_le_mul_of_nonneg_right hge (show 0 ≤ yn1 by omega)
  omega
 have := (div64_small (by omega) hb h3 h4).2; exact div64_stop hy h1 h2 h3 h4 hu0 huy hn0 hn hr hq (by omega)
/-- The rest, as the machine reckons it. -/
theorem div64_rest {y yn1 yn0 u un : Int} (hy : y = yn1 * 4294967296 + yn0) (h1 : 2147483648 ≤ yn1) (h2 : yn1 < 4294967296) (h3 : 0 ≤ yn0) (h4 : yn0 < 4294967296) (hu0 : 0 ≤ u) (hn0 : 0 ≤ un) :
  IntKind.u64.wrap (IntKind.u64.wrap (IntKind.u64.wrap (u * 4294967296) + un) - IntKind.u64.wrap ((u * 4294967296 + un) / y * y)) = (u * 4294967296 + un) % y := by
 have a := Int.emod_nonneg (u * 4294967296 + un) (show y ≠ 0 by omega); have b := Int.emod_lt_of_pos (u * 4294967296 + un) (show 0 < y by omega); have c := Int.emod_add_ediv_mul (u * 4294967296 + un) y; simp only [u64w]
 generalize (u * 4294967296 + un) / y * y = Z at *
 generalize (u * 4294967296 + un) % y = R at *
 omega

theorem bits_Div64.l1_eq {y s yn1 yn0 un q1 u : Int} (hy : y = yn1 * 4294967296 + yn0) (h1 : 2147483648 ≤ yn1) (h2 : yn1 < 4294967296) (h3 : 0 ≤ yn0) (h4 : yn0 < 4294967296)
  (hu0 : 0 ≤ u) (huy : u < y) (hn0 : 0 ≤ un) (hn : un < 4294967296) (hs : 0 ≤ s) (hq0 : 0 ≤ q1) (hq1 : q1 < 4294967296) (m : Nat) :
  ∀ (k : Nat) (q r : Int), 2 * m + 2 ≤ k → 4294967296 ≤ r + m * 2147483648 → 0 ≤ r → r < 4294967296 → r = u - q * yn1 → (u * 4294967296 + un) / y ≤ q → q < 18446744073709551616 →
   bits_Div64.l1 k y s yn1 yn0 un q1 r u q = some (q1 * 4294967296 + (u * 4294967296 + un) / y, shr .u64 ((u * 4294967296 + un) % y) s) := by
 have hQ0 : 0 ≤ (u * 4294967296 + un) / y := Int.ediv_nonneg (by omega) (by omega); have hQB := div64_lt (y := y) (u := u) (un := un) (by omega) huy hn; have hrest := div64_rest hy h1 h2 h3 h4 hu0 hn0
 induction m with
 | zero => intro k q r hk hm; omega
 | succ m ih =>
  intro k q r hk hm hr0 hrB hr hq hqW
  obtain ⟨k, rfl⟩ : ∃ j, k = j + 2 := ⟨k - 2, by omega⟩
  have key : ∀ b : Bool, (b = true → (u * 4294967296 + un) / y < q) → (b = false → q = (u * 4294967296 + un) / y) →
    bits_Div64.j4 (k + 1) y s yn1 yn0 un q1 r u q b = some (q1 * 4294967296 + (u * 4294967296 + un) / y, shr .u64 ((u * 4294967296 + un) % y) s) := by
   intro b hb1 hb0; simp only [bits_Div64.j4]
   cases b with
   | true =>
    have hlt := hb1 rfl; have w1 : IntKind.u64.wrap (r + yn1) = r + yn1 := u64w_in (by omega); have w2 : IntKind.u64.wrap (q - 1) = q - 1 := u64w_in (by omega)
    have hr' : r + yn1 = u - (q - 1) * yn1 := by rw [Int.sub_mul]; omega
    rw [if_pos rfl, w1, w2]
    by_cases hge : r + yn1 ≥ 4294967296
    ·have hQ := div64_break hy h1 h2 h3 h4 hu0 huy hn0 hn hr' (by omega) hge
     rw [if_pos hge, if_pos hs, hQ, hrest, u64w_in (x := q1 * 4294967296) (by omega), u64w_in (by omega)]
    ·rw [if_neg hge]
     exact ih k (q - 1) (r + yn1) (by omega) (by omega) (by omega) (by omega) hr' (by omega) (by omega)
   | false =>
    have hQ := hb0 rfl
    rw [if_neg (by simp), if_pos hs, hQ, hrest, u64w_in (x := q1 * 4294967296) (by omega), u64w_in (by omega)]
  show bits_Div64.l1 (k + 1 + 1) y s yn1 yn0 un q1 r u q = _
  simp only [bits_Div64.l1]
  by_cases hqB : q ≥ 4294967296
  ·rw [if_pos hqB]
   exact key true (fun _ => by omega) (fun h => by cases h)
  ·rw [if_neg hqB]
   have hp := div64_small (a := q) (b := yn0) (by omega) (by omega) h3 h4
   rw [u64w_in (x := q * yn0) (by omega), u64w_in (x := 4294967296 * r) (by omega), u64w_in (x := 4294967296 * r + un) (by omega)]
   refine key _ (fun h => ?_) (fun h => ?_)
   ·exact div64_more hy h1 h2 h3 h4 hu0 huy hn0 hn hr (of_decide_eq_true h)
   ·exact div64_stop hy h1 h2 h3 h4 hu0 huy hn0 hn hr hq (by have := of_decide_eq_false h; omega)

/-- Where the second digit begins. -/
theorem bits_Div64.j2_eq {y s yn1 yn0 un u un0 : Int} (hy : y = yn1 * 4294967296 + yn0) (h1 : 2147483648 ≤ yn1) (h2 : yn1 < 4294967296) (h3 : 0 ≤ yn0) (h4 : yn0 < 4294967296)
  (hu0 : 0 ≤ u) (huy : u < y) (hn0 : 0 ≤ un) (hn : un < 4294967296) (hm0 : 0 ≤ un0) (hm : un0 < 4294967296) (hs : 0 ≤ s) (k : Nat) (hk : 10 ≤ k) :
  bits_Div64.j2 k y s yn1 yn0 u un un0 ((u * 4294967296 + un) / y) = some ((u * 4294967296 + un) / y * 4294967296 + ((u * 4294967296 + un) % y * 4294967296 + un0) / y, shr .u64 (((u * 4294967296 + un) % y * 4294967296 + un0) % y) s) := by
 obtain ⟨k, rfl⟩ : ∃ j, k = j + 1 := ⟨k - 1, by omega⟩
 have hrest := div64_rest hy h1 h2 h3 h4 hu0 hn0; simp only [bits_Div64.j2]
 rw [if_neg (by omega), hrest]
 have a := Int.emod_nonneg (u * 4294967296 + un) (show y ≠ 0 by omega); have b := Int.emod_lt_of_pos (u * 4294967296 + un) (show 0 < y by omega); have hQ0 : 0 ≤ (u * 4294967296 + un) / y := Int.ediv_nonneg (by omega) (by omega); have hQB := div64_lt (y := y) (u := u) (un := un) (by omega) huy hn
 generalize (u * 4294967296 + un) % y = v at *
 generalize (u * 4294967296 + un) / y = q1 at *
 have c := Int.emod_nonneg v (show yn1 ≠ 0 by omega); have d := Int.emod_lt_of_pos v (show 0 < yn1 by omega); have e := Int.emod_add_ediv_mul v yn1; have f : 0 ≤ v / yn1 := Int.ediv_nonneg a (by omega); have f2 : 0 ≤ v / yn1 * yn1 := Int.mul_nonneg f (by omega); have g : v / yn1 ≤ v := Int.ediv_le_self yn1 a
 rw [Int.tdiv_eq_ediv_of_nonneg a, u64w_in (x := v / yn1) (by omega), u64w_in (x := v / yn1 * yn1) (by omega), u64w_in (x := v - v / yn1 * yn1) (by omega)]
 exact bits_Div64.l1_eq hy h1 h2 h3 h4 a b hm0 hm hs hQ0 hQB 2 k (v / yn1) (v - v / yn1 * yn1) (by omega) (by omega) (by omega) (by omega) rfl (div64_ge hy h1 h3 a hm0 hm) (by omega)

theorem bits_Div64.l0_eq {y s yn1 yn0 un u un0 : Int} (hy : y = yn1 * 4294967296 + yn0) (h1 : 2147483648 ≤ yn1) (h2 : yn1 < 4294967296) (h3 : 0 ≤ yn0) (h4 : yn0 < 4294967296)
  (hu0 : 0 ≤ u) (huy : u < y) (hn0 : 0 ≤ un) (hn : un < 4294967296) (hm0 : 0 ≤ un0) (hm : un0 < 4294967296) (hs : 0 ≤ s) (m : Nat) :
  ∀ (k : Nat) (q r : Int), 2 * m + 12 ≤ k → 4294967296 ≤ r + m * 2147483648 → 0 ≤ r → r < 4294967296 → r = u - q * yn1 → (u * 4294967296 + un) / y ≤ q → q < 18446744073709551616 →
   bits_Div64.l0 k y s yn1 yn0 u un un0 q r = some ((u * 4294967296 + un) / y * 4294967296 + ((u * 4294967296 + un) % y * 4294967296 + un0) / y, shr .u64 (((u * 4294967296 + un) % y * 4294967296 + un0) % y) s) := by
 have hQ0 : 0 ≤ (u * 4294967296 + un) / y := Int.ediv_nonneg (by omega) (by omega); have hQB := div64_lt (y := y) (u := u) (un := un) (by omega) huy hn
 have hend := fun k hk => bits_Div64.j2_eq (s := s) hy h1 h2 h3 h4 hu0 huy hn0 hn hm0 hm hs k hk
 induction m with
 | zero => intro k q r hk hm; omega
 | succ m ih =>
  intro k q r hk hm hr0 hrB hr hq hqW
  obtain ⟨k, rfl⟩ : ∃ j, k = j + 2 := ⟨k - 2, by omega⟩
  have key : ∀ b : Bool, (b = true → (u * 4294967296 + un) / y < q) → (b = false → q = (u * 4294967296 + un) / y) →
    bits_Div64.j1 (k + 1) y s yn1 yn0 u un un0 q r b = some ((u * 4294967296 + un) / y * 4294967296 + ((u * 4294967296 + un) % y * 4294967296 + un0) / y, shr .u64 (((u * 4294967296 + un) % y * 4294967296 + un0) % y) s) := by
   intro b hb1 hb0; simp only [bits_Div64.j1]
   cases b with
   | true =>
    have hlt := hb1 rfl; have w1 : IntKind.u64.wrap (r + yn1) = r + yn1 := u64w_in (by omega); have w2 : IntKind.u64.wrap (q - 1) = q - 1 := u64w_in (by omega)
    have hr' : r + yn1 = u - (q - 1) * yn1 := by rw [Int.sub_mul]; omega
    rw [if_pos rfl, w1, w2]
    by_cases hge : r + yn1 ≥ 4294967296
    ·have hQ := div64_break hy h1 h2 h3 h4 hu0 huy hn0 hn hr' (by omega) hge
     rw [if_pos hge, hQ]
     exact hend k (by omega)
    ·rw [if_neg hge]
     exact ih k (q - 1) (r + yn1) (by omega) (by omega) (by omega) (by omega) hr' (by omega) (by omega)
   | false =>
    have hQ := hb0 rfl
    rw [if_neg (by simp), hQ]
    exact hend k (by omega)
  show bits_Div64.l0 (k + 1 + 1) y s yn1 yn0 u un un0 q r = _
  simp only [bits_Div64.l0]
  by_cases hqB : q ≥ 4294967296
  ·rw [if_pos hqB]
   exact key true (fun _ => by omega) (fun h => by cases h)
  ·rw [if_neg hqB]
   have hp := div64_small (a := q) (b := yn0) (by omega) (by omega) h3 h4
   rw [u64w_in (x := q * yn0) (by omega), u64w_in (x := 4294967296 * r) (by omega), u64w_in (x := 4294967296 * r + un) (by omega)]
   refine key _ (fun h => ?_) (fun h => ?_)
   ·exact div64_more hy h1 h2 h3 h4 hu0 huy hn0 hn hr (of_decide_eq_true h)
   ·exact div64_stop hy h1 h2 h3 h4 hu0 huy hn0 hn hr hq (by have := of_decide_eq_false h; omega)

theorem div64_two {A c y : Int} (hy : 0 < y) : (A * 4294967296 + c) / y = A / y * 4294967296 + (A % y * 4294967296 + c) / y ∧ (A * 4294967296 + c) % y = (A % y * 4294967296 + c) % y := by
 have e := Int.emod_add_ediv_mul A y
 generalize A / y = q at *
 generalize A % y = r at *
 have e2 : A * 4294967296 + c = (r * 4294967296 + c) + (q * 4294967296) * y := by
  rw [← e, Int.add_mul, Int.mul_right_comm]; omega
 rw [e2, Int.add_mul_ediv_right _ _ (by omega), Int.add_mul_emod_self_right]
 omega

theorem bits_Div64.main {hi lo y : Int} (h0 : 0 ≤ hi) (h1 : hi < y) (h2 : y < 18446744073709551616) (h3 : 0 ≤ lo) (h4 : lo < 18446744073709551616) :
  bits_Div64.f 20 hi lo y = some ((hi * 18446744073709551616 + lo) / y, (hi * 18446744073709551616 + lo) % y) := by
 unfold bits_Div64.f
 rw [if_neg (by omega), if_neg (by omega)]
 by_cases hz : hi = 0
 ·subst hz
  have := Int.ediv_le_self y h3; have := Int.ediv_nonneg h3 (show 0 ≤ y by omega)
  rw [if_pos rfl, Int.tdiv_eq_ediv_of_nonneg h3, Int.tmod_eq_emod_of_nonneg h3, u64w_in (by omega)]
  simp
 rw [if_neg hz]
 obtain ⟨Y, rfl⟩ := Int.eq_ofNat_of_zero_le (show 0 ≤ y by omega)
 unfold bits_LeadingZeros64.f
 rw [need_pos (by omega)]
 simp only [Option.bind_some, Int.toNat_natCast]; obtain ⟨hLp, hLm, hL, hL2⟩ := bitLen_facts (Y := Y) (by omega) (by omega)
 generalize Lib.bitLen Y = L at *
 have hs : (64 - (L : Int)) = ((64 - L : Nat) : Int) := by omega
 have hs2 : (64 - ((64 - L : Nat) : Int)) = (L : Int) := by omega
 have hPR : 2 ^ (64 - L) * 2 ^ L = 18446744073709551616 := by rw [← Nat.pow_add, show 64 - L + L = 64 by omega]
 have hPQ : 2 ^ (64 - L) * 2 ^ (L - 1) = 9223372036854775808 := by rw [← Nat.pow_add, show 64 - L + (L - 1) = 63 by omega]
 rw [hs, u64w_in (x := ((64 - L : Nat) : Int)) (by omega), hs2, u64w_in (x := (L : Int)) (by omega), if_pos (by omega), if_pos (by omega)]
 have m1 : min (64 - L) 64 = 64 - L := by omega
 have m2 : min L 64 = L := by omega
 simp only [shl, shr, Int.toNat_natCast, show IntKind.u64.bits = 64 from rfl, m1, m2]
 have cP : ((2 : Int) ^ (64 - L)) = ((2 ^ (64 - L) : Nat) : Int) := by simp
 have cR : ((2 : Int) ^ L) = ((2 ^ L : Nat) : Int) := by simp
 have hPpos : 0 < 2 ^ (64 - L) := Nat.pow_pos (by decide); have hRpos : 0 < 2 ^ L := Nat.pow_pos (by decide)
 have hor : ∀ a b : Nat, b < 2 ^ (64 - L) → a * 2 ^ (64 - L) < 18446744073709551616 → Go.bits .or .u64 ((a * 2 ^ (64 - L) : Nat) : Int) (b : Int) = ((a * 2 ^ (64 - L) + b : Nat) : Int) := by
  intro a b hb ha; have hle := Nat.pow_le_pow_right (show 0 < 2 by decide) (show 64 - L ≤ 64 by omega); have hle2 : 2 ^ (64 - L) ≤ 18446744073709551616 := hle
  rw [u64_or_nat _ _ ha (by omega), ← Nat.shiftLeft_eq, ← Nat.shiftLeft_add_eq_or_of_lt hb]
 rw [cP, cR]
 generalize (2 : Nat) ^ (64 - L) = P at *
 generalize (2 : Nat) ^ L = R at *
 generalize (2 : Nat) ^ (L - 1) = R2 at *
 obtain ⟨H, rfl⟩ := Int.eq_ofNat_of_zero_le h0; obtain ⟨O, rfl⟩ := Int.eq_ofNat_of_zero_le h3
 have hyl : Y * P < 18446744073709551616 := by rw [← hPR, Nat.mul_comm (P)]; exact Nat.mul_lt_mul_of_pos_right hL hPpos
 have hyg : 9223372036854775808 ≤ Y * P := by rw [← hPQ, Nat.mul_comm]; exact Nat.mul_le_mul_right _ hL2
 have hHl : H * P < Y * P := Nat.mul_lt_mul_of_pos_right (by omega) hPpos
 have hOR : O / R < P := by rw [Nat.div_lt_iff_lt_mul hRpos, hPR]; omega
 have hO : O * P = O / R * 18446744073709551616 + O * P % 18446744073709551616 := by
  have : O * P / 18446744073709551616 = O / R := by
   rw [← hPR, Nat.mul_comm (P)]; exact Nat.mul_div_mul_right _ _ hPpos
  omega
 have hN : ((H : Int) * 18446744073709551616 + O) * ((P : Nat) : Int) = ((H * P + O / R : Nat) : Int) * 18446744073709551616 + ((O * P % 18446744073709551616 : Nat) : Int) := by
  rw [Int.add_mul, Int.mul_right_comm]
  have e1 := congrArg (fun n : Nat => (n : Int)) hO; simp only [Int.natCast_add, Int.natCast_mul] at e1 ⊢
  omega
 have hlt : (H * P + O / R) * 18446744073709551616 + O * P % 18446744073709551616 < Y * P * 18446744073709551616 := by
  have e2 : (H * 18446744073709551616 + O) * P < Y * 18446744073709551616 * P := Nat.mul_lt_mul_of_pos_right (by omega) hPpos
  have e1 : (H * 18446744073709551616 + O) * P = (H * P + O / R) * 18446744073709551616 + O * P % 18446744073709551616 := by
   rw [Nat.add_mul, Nat.mul_right_comm]
   omega
  rw [e1, Nat.mul_right_comm Y] at e2
  exact e2
 have hq := @Int.mul_ediv_mul_of_pos_left; have hm := @Int.mul_emod_mul_of_pos
 have c1 : (Y : Int) * ((P : Nat) : Int) = ((Y * P : Nat) : Int) := by simp
 have c2 : (H : Int) * ((P : Nat) : Int) = ((H * P : Nat) : Int) := by simp
 have c3 : (O : Int) * ((P : Nat) : Int) = ((O * P : Nat) : Int) := by simp
 have c4 : (O : Int) / ((R : Nat) : Int) = ((O / R : Nat) : Int) := by simp
 have hPc : (0 : Int) < ((P : Nat) : Int) := by omega
 have r1 : ((H : Int) * 18446744073709551616 + O) / (Y : Int) = (((H * P + O / R : Nat) : Int) * 18446744073709551616 + ((O * P % 18446744073709551616 : Nat) : Int)) / ((Y * P : Nat) : Int) := by
  rw [← hN, ← c1, Int.mul_ediv_mul_of_pos_left _ _ hPc]
 have r2 : ((H : Int) * 18446744073709551616 + O) % (Y : Int) = (((H * P + O / R : Nat) : Int) * 18446744073709551616 + ((O * P % 18446744073709551616 : Nat) : Int)) % ((Y * P : Nat) : Int) / ((P : Nat) : Int) := by
  rw [← hN, ← c1, Int.mul_comm _ ((P : Nat) : Int), Int.mul_comm _ ((P : Nat) : Int), Int.mul_emod_mul_of_pos _ _ hPc, Int.mul_ediv_cancel_left _ (by omega)]
 rw [c1, c2, c3, c4, u64w_in (x := ((Y * P : Nat) : Int)) (by omega), u64w_in (x := ((H * P : Nat) : Int)) (by omega), hor H (O / R) hOR (by omega), r1, r2]
 clear r1 r2 hN hq hm hor c1 c2 c3 c4 hO hPQ hPR
 generalize hu : H * P + O / R = u at *
 generalize hyy : Y * P = y at *
 rw [u64w]
 rw [show (((O * P : Nat) : Int) % 18446744073709551616) = ((O * P % 18446744073709551616 : Nat) : Int) by simp]
 have hx : O * P % 18446744073709551616 < 18446744073709551616 := Nat.mod_lt _ (by decide)
 generalize O * P % 18446744073709551616 = x at *
 have huy : u < y := by omega
 rw [and_low32 (y : Int) (by omega) (by omega), and_low32 (x : Int) (by omega) (by omega), if_neg (by omega)]
 have k1 := div64_two (A := (u : Int) * 4294967296 + (x : Int) / 4294967296) (c := (x : Int) % 4294967296) (show (0 : Int) < (y : Int) by omega)
 have k2 : ((u : Int) * 4294967296 + (x : Int) / 4294967296) * 4294967296 + (x : Int) % 4294967296 = (u : Int) * 18446744073709551616 + x := by omega
 rw [k2] at k1
 have a0 : (0 : Int) ≤ (u : Int) := by omega
 have c := Int.emod_nonneg (u : Int) (show ((y : Int) / 4294967296) ≠ 0 by omega); have d := Int.emod_lt_of_pos (u : Int) (show 0 < ((y : Int) / 4294967296) by omega); have e := Int.emod_add_ediv_mul (u : Int) ((y : Int) / 4294967296); have f : 0 ≤ (u : Int) / ((y : Int) / 4294967296) := Int.ediv_nonneg a0 (by omega); have f2 : 0 ≤ (u : Int) / ((y : Int) / 4294967296) * ((y : Int) / 4294967296) := Int.mul_nonneg f (by omega); have g : (u : Int) / ((y : Int) / 4294967296) ≤ u := Int.ediv_le_self _ a0
 rw [Int.tdiv_eq_ediv_of_nonneg a0, u64w_in (x := (u : Int) / ((y : Int) / 4294967296)) (by omega), u64w_in (x := (u : Int) / ((y : Int) / 4294967296) * ((y : Int) / 4294967296)) (by omega),
  u64w_in (x := (u : Int) - (u : Int) / ((y : Int) / 4294967296) * ((y : Int) / 4294967296)) (by omega)]
 rw [bits_Div64.l0_eq (y := (y : Int)) (yn1 := (y : Int) / 4294967296) (yn0 := (y : Int) % 4294967296) (by omega) (by omega) (by omega) (by omega) (by omega) a0 (by omega) (by omega) (by omega) (by omega) (by omega) (by omega) 2 20 _ _ (by omega) (by omega) (by omega) (by omega) rfl
  (div64_ge (yn0 := (y : Int) % 4294967296) (by omega) (by omega) (by omega) a0 (by omega) (by omega)) (by omega)]
 rw [k1.1, k1.2]
 simp only [shr, Int.toNat_natCast, show IntKind.u64.bits = 64 from rfl, m1, cP]
end Div64

noncomputable def bits_Div64S.f (hi lo y : Int) : Option (Int × Int) := Sp.need (0 ≤ hi ∧ hi < y ∧ y < 18446744073709551616 ∧ 0 ≤ lo ∧ lo < 18446744073709551616) (some ((hi * 18446744073709551616 + lo) / y, (hi * 18446744073709551616 + lo) % y))
theorem bits_Div64S.calls (a0 a1 a2 r1 r2 : Int) (w : World) (h : bits_Div64S.f a0 a1 a2 = some (r1, r2)) :
  Calls Tryd.prog 69 #[.int .u64 a0, .int .u64 a1, .int .u64 a2] w fun e w' => e = .returned (.tuple #[.int .u64 r1, .int .u64 r2]) ∧ Drawn0 w w' := by
 obtain ⟨hc, h⟩ := Sp.need_some h; obtain ⟨h1, h2, h3, h4, h5⟩ := hc; refine bits_Div64.calls 20 a0 a1 a2 r1 r2 w ?_
 rw [bits_Div64.main h1 h2 h3 h4 h5]; exact h

end Go.Proofs.YtbpcfamjidjhjaaDoor.Px
