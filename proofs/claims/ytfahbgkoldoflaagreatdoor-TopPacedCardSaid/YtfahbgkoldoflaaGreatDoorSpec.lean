/- Plain arithmetic behind the contracts: words of 64 bits, numbers of 128 bits and a sign, quotients; no program in it. Conditions: as each theorem states. -/
import Derived.RowKit
import Derived.MapKept
import Derived.Laws.ResultCell
import Derived.Laws.Rows
import Derived.LoopN
import Derived.Deep.QuietTactic
import Derived.BigQuiet
import Derived.Laws.BitsAllLaws
import Derived.Laws.MathBits
import Derived.Lib.ItoaNum
set_option linter.unusedVariables false
namespace Go.Proofs.YtfahbgkoldoflaaGreatDoor.Sp

/-- Results that are a row of cells, and a slot. -/
theorem results_row_tmp {P : Program} {fn : Func} {p u : Tmp} {ty : TypeId} (h : fn.results = #[.cell p ty, .tmp u]) (tmps : Array Value) (w : World) (g : Nat) (t : TypeId) (cs : Array Value) (fr : Nat × Nat) (d : TypeDesc)
    (hp : tmps.getD p undef = .pointer (some ⟨g, 0, none⟩)) (hg : w.heap[g]? = some (.cells cs t fr))
    (hu : P.underlying ty = some d) (hd : (match d with | .struct _ | .array _ _ => true | _ => false) = true) (hi : (P.info? ty).map (·.size) = some cs.size) :
    (results fn tmps).run P w = .ok (.tuple #[.agg cs, tmps.getD u undef]) w := by
  have hp' : tmps[p]?.getD undef = .pointer (some ⟨g, 0, none⟩) := by simpa using hp
  rw [results_cell_tmp h]
  simp [hp', asAddr, run_loadVar_row w g t ty cs fr d hg hu hd hi, Result.andThen]

/-- A word of 64 bits. -/
abbrev U (x : Int) : Prop := 0 ≤ x ∧ x < 18446744073709551616
/-- An int. -/
abbrev I (x : Int) : Prop := -9223372036854775808 ≤ x ∧ x ≤ 9223372036854775807
/-- A value that stands under a condition: the condition is not reckoned with. -/
noncomputable def need {α : Type} (p : Prop) (x : Option α) : Option α := @ite _ p (Classical.propDecidable p) x none
theorem need_pos {α : Type} {p : Prop} {x : Option α} (h : p) : need p x = x := by unfold need; rw [if_pos h]
theorem need_some {α : Type} {p : Prop} {x : Option α} {r : α} (h : need p x = some r) : p ∧ x = some r := by
  unfold need at h
  by_cases hp : p
  · rw [if_pos hp] at h; exact ⟨hp, h⟩
  · rw [if_neg hp] at h; cases h
/-- What a number of 128 bits, and its sign, is. -/
def val (n : Bool) (h l : Int) : Int := if n = true then -(h * 18446744073709551616 + l) else h * 18446744073709551616 + l
/-- The sign, and both words, of a number. -/
def encN (v : Int) : Bool := decide (v < 0)
def encH (v : Int) : Int := (v.natAbs : Int) / 18446744073709551616
def encL (v : Int) : Int := (v.natAbs : Int) % 18446744073709551616
/-- A number that 128 bits hold. -/
abbrev B (v : Int) : Prop := -340282366920938463463374607431768211456 < v ∧ v < 340282366920938463463374607431768211456

theorem u64w (x : Int) : IntKind.u64.wrap x = x % 18446744073709551616 := by
  simp [IntKind.wrap, IntKind.signed, IntKind.bits]
theorem u64w_in {x : Int} (h : U x) : IntKind.u64.wrap x = x := by rw [u64w]; omega
theorem bitLen_facts {Y : Nat} (h0 : Y ≠ 0) (h : Y < 18446744073709551616) : 0 < Lib.bitLen Y ∧ Lib.bitLen Y ≤ 64 ∧ Y < 2 ^ Lib.bitLen Y ∧ 2 ^ (Lib.bitLen Y - 1) ≤ Y := by
  obtain ⟨h1, h2, h3⟩ := Lib.bitLenAux_bounds 64 Y (by simpa using h) h0
  refine ⟨h1, ?_, h3, h2⟩
  have : 2 ^ (Lib.bitLenAux 64 Y - 1) < 2 ^ 64 := Nat.lt_of_le_of_lt h2 (by simpa using h)
  have := (Nat.pow_lt_pow_iff_right (by decide)).1 this
  show Lib.bitLenAux 64 Y ≤ 64
  omega
theorem val_B {n : Bool} {h l : Int} (h1 : U h) (h2 : U l) : B (val n h l) := by
  unfold val; cases n <;> simp <;> omega
theorem val_enc {v : Int} : val (encN v) (encH v) (encL v) = v := by
  unfold val encN encH encL
  by_cases h : v < 0 <;> simp [h] <;> omega
theorem encH_U {v : Int} (h : B v) : U (encH v) := by unfold encH; omega
theorem encL_U {v : Int} : U (encL v) := by unfold encL; omega
theorem enc_of {n : Bool} {h l : Int} (h1 : U h) (h2 : U l) (h3 : n = true → ¬ (h = 0 ∧ l = 0)) : encN (val n h l) = n ∧ encH (val n h l) = h ∧ encL (val n h l) = l := by
  unfold val encN encH encL
  cases n with
  | true => have := h3 rfl; simp; omega
  | false => simp; omega
theorem encN_neg {v : Int} (h : v < 0) : encN v = true := by simp [encN, h]
theorem encN_pos {v : Int} (h : 0 ≤ v) : encN v = false := by unfold encN; simp; omega
theorem enc_small {v : Int} (h : U v) : encN v = false ∧ encH v = 0 ∧ encL v = v := by
  unfold encN encH encL; simp; omega
theorem enc_neg {v : Int} (h : U v) (h0 : 0 < v) : encN (-v) = true ∧ encH (-v) = 0 ∧ encL (-v) = v := by
  unfold encN encH encL; simp; omega
theorem enc_inj {v w : Int} (h1 : encN v = encN w) (h2 : encH v = encH w) (h3 : encL v = encL w) : v = w := by
  have e1 := @val_enc v
  rw [h1, h2, h3, val_enc] at e1
  exact e1.symm

/-- Which is greater. -/
def cmpI (x y : Int) : Int := if x < y then -1 else if x = y then 0 else 1
/-- A number that is held, or its error. -/
def held (v : Int) : Option (Bool × Int × Int × Int) := if B v then some (encN v, encH v, encL v, 0) else some (false, 0, 0, 10)
/-- The nearest int. -/
def near (v : Int) : Int := if 9223372036854775807 < v then 9223372036854775807 else if v < -9223372036854775808 then -9223372036854775808 else v
theorem mul_sign (a b : Int) : ((decide (a < 0) != decide (b < 0)) = true → a * b ≤ 0) ∧ ((decide (a < 0) != decide (b < 0)) = false → 0 ≤ a * b) := by
  by_cases h1 : a < 0 <;> by_cases h2 : b < 0 <;> simp [h1, h2]
  · exact Int.mul_nonneg_of_nonpos_of_nonpos (by omega) (by omega)
  · exact Int.mul_nonpos_of_nonpos_of_nonneg (by omega) (by omega)
  · exact Int.mul_nonpos_of_nonneg_of_nonpos (by omega) (by omega)
  · exact Int.mul_nonneg (by omega) (by omega)
theorem mul_le {a b A C : Int} (h1 : 0 ≤ a) (h2 : a ≤ A) (h3 : 0 ≤ b) (h4 : b ≤ C) : 0 ≤ a * b ∧ a * b ≤ A * C :=
  ⟨Int.mul_nonneg h1 h3, Int.mul_le_mul h2 h4 h3 (by omega)⟩
theorem mulU {a b : Int} (h1 : U a) (h2 : U b) : a * b ≤ 340282366920938463426481119284349108225 := (mul_le (A := 18446744073709551615) (C := 18446744073709551615) h1.1 (by omega) h2.1 (by omega)).2
theorem mulI {a b : Int} (h1 : I a) (h2 : I b) : ((a * b).natAbs : Int) ≤ 85070591730234615865843651857942052864 := by
  rw [Int.natAbs_mul]
  have := (mul_le (a := (a.natAbs : Int)) (b := (b.natAbs : Int)) (A := 9223372036854775808) (C := 9223372036854775808) (by omega) (by omega) (by omega) (by omega)).2
  simpa using this

/-- A quotient from below, and what is left over, or the error of a divisor 0. -/
noncomputable def quo (v d : Int) : Option (Bool × Int × Int × Int × Int) := if d = 0 then some (false, 0, 0, 0, 20) else some (encN (v / d), encH (v / d), encL (v / d), v % d, 0)
theorem quo_pos {v d : Int} (h : d ≠ 0) : quo v d = some (encN (v / d), encH (v / d), encL (v / d), v % d, 0) := by unfold quo; rw [if_neg h]
theorem held_in {v : Int} (h : B v) : held v = some (encN v, encH v, encL v, 0) := by unfold held; rw [if_pos h]
theorem held_out {v : Int} (h : ¬ B v) : held v = some (false, 0, 0, 10) := by unfold held; rw [if_neg h]
theorem two_div {h l d : Int} (hp : 0 < d) : (h * 18446744073709551616 + l) / d = h / d * 18446744073709551616 + (h % d * 18446744073709551616 + l) / d ∧ (h * 18446744073709551616 + l) % d = (h % d * 18446744073709551616 + l) % d := by
  have e := Int.emod_add_ediv_mul h d
  generalize h / d = q at *
  generalize h % d = r at *
  have e2 : h * 18446744073709551616 + l = (r * 18446744073709551616 + l) + (q * 18446744073709551616) * d := by
    rw [← e, Int.add_mul, Int.mul_right_comm]; omega
  rw [e2, Int.add_mul_ediv_right _ _ (by omega), Int.add_mul_emod_self_right]
  omega
theorem neg_div {X d : Int} (hp : 0 < d) (h : X % d = 0) : -X / d = -(X / d) := Int.neg_ediv_of_dvd (Int.dvd_of_emod_eq_zero h)
theorem neg_mod {X d : Int} (hp : 0 < d) (h : X % d = 0) : -X % d = 0 := Int.emod_eq_zero_of_dvd ((Int.dvd_neg).2 (Int.dvd_of_emod_eq_zero h))
theorem neg_div' {X d : Int} (hp : 0 < d) (h : X % d ≠ 0) : -X / d = -(X / d) + -1 := by
  have a := Int.emod_nonneg X (show d ≠ 0 by omega)
  have b := Int.emod_lt_of_pos X hp
  have c := Int.emod_add_ediv_mul X d
  have e : -X = (d - X % d) + (-(X / d) + -1) * d := by rw [Int.add_mul, Int.neg_mul]; omega
  rw [e, Int.add_mul_ediv_right _ _ (by omega), Int.ediv_eq_zero_of_lt (by omega) (by omega)]
  omega
theorem neg_mod' {X d : Int} (hp : 0 < d) (h : X % d ≠ 0) : -X % d = d - X % d := by
  have a := Int.emod_nonneg X (show d ≠ 0 by omega)
  have b := Int.emod_lt_of_pos X hp
  have c := Int.emod_add_ediv_mul X d
  have e : -X = (d - X % d) + (-(X / d) + -1) * d := by rw [Int.add_mul, Int.neg_mul]; omega
  have e2 : -X % d = (d - X % d) % d := by rw [e, Int.add_mul_emod_self_right]
  rw [e2, Int.emod_eq_of_lt (by omega) (by omega)]
/-! Which numbers two are, told of their parts. -/
theorem enc_beq {v w : Int} : (encN v == encN w && (encH v == encH w && (encL v == encL w))) = decide (v = w) := by
  by_cases h : v = w
  · subst h; simp
  · rw [decide_eq_false h]
    apply Bool.eq_false_iff.2
    intro hx; simp at hx; exact h (enc_inj hx.1 hx.2.1 hx.2.2)
theorem near_I (v : Int) : I (near v) := by unfold near; split <;> (try split) <;> omega
theorem near_in {v : Int} (h : I v) : near v = v := by unfold near; rw [if_neg (by omega), if_neg (by omega)]
theorem val_f {h l : Int} : val false h l = h * 18446744073709551616 + l := by unfold val; simp
theorem val_t {h l : Int} : val true h l = -(h * 18446744073709551616 + l) := by unfold val; simp
theorem near_hi {v : Int} (h : 9223372036854775807 < v) : near v = 9223372036854775807 := by unfold near; rw [if_pos h]
theorem near_lo {v : Int} (h : v < -9223372036854775808) : near v = -9223372036854775808 := by unfold near; rw [if_neg (by omega), if_pos h]
theorem enc_bne {v w : Int} : (!(encN v == encN w) || (!(encH v == encH w) || (!(encL v == encL w)))) = !decide (v = w) := by
  rw [← enc_beq]; cases (encN v == encN w) <;> cases (encH v == encH w) <;> cases (encL v == encL w) <;> rfl
/-- An int, or the error of what is too great. -/
def fit (q : Int) : Option (Int × Int) := if I q then some (q, 0) else some (0, 10)
/-- Parts of products: from below, from above, the nearest. -/
def floorQ (a b c : Int) : Option (Int × Int) := if c < 1 then some (0, 20) else fit (a * b / c)
theorem fit_in {q : Int} (h : I q) : fit q = some (q, 0) := by unfold fit; rw [if_pos h]
theorem fit_out {q : Int} (h : ¬ I q) : fit q = some (0, 10) := by unfold fit; rw [if_neg h]
theorem quoI {p c : Int} (h : (p.natAbs : Int) ≤ 85070591730234615865843651857942052864) (hp : 0 < c) : -85070591730234615865843651857942052864 ≤ p / c ∧ p / c ≤ 85070591730234615865843651857942052864 := by
  by_cases hv : 0 ≤ p
  · have := Int.ediv_nonneg hv (show 0 ≤ c by omega)
    have := Int.ediv_le_self c hv
    omega
  · have h1 : p / c < 0 := Int.ediv_neg_of_neg_of_pos (by omega) hp
    have h2 : p ≤ p / c := by
      rw [Int.le_ediv_iff_mul_le hp]
      have := Int.mul_le_mul_of_nonpos_left (a := p) (b := c) (c := 1) (by omega) (by omega)
      omega
    omega

theorem w64 {x : Int} (h : I x) : RowKit.wrap64 x = x := by unfold RowKit.wrap64; omega
theorem floorQ_in {a b c : Int} (hc : 0 < c) (h : I (a * b / c)) : floorQ a b c = some (a * b / c, 0) := by unfold floorQ; rw [if_neg (by omega), fit_in h]
/-- A number between two. -/
def clamp (a low high : Int) : Int := if a < low then low else if high < a then high else a
/-- A window that is given; what is left of one; what some leave. -/
def win (n : Int) : Int := clamp n 131072 68719476736
def leastW (w : Int) : Int := clamp (w * 7 / 10) 131072 68719476736
/-- Up to where a window grows next. -/
def fastQ (last now : Int) : Int := if now ≥ last then now else (if now < 0 then 0 else now) * 17 / 20
/-- A window of the old law behind what was told. -/
def stepQ (est prior window told : Int) : Int :=
  clamp (clamp est 0 68719476736 + clamp told 0 68719476736 * (if est < prior then 9 else 1) * 65536 / (clamp window 65536 68719476736 * (if est < prior then 17 else 1))) 0 68719476736
theorem clamp_bd {a low high : Int} (h : low ≤ high) : low ≤ clamp a low high ∧ clamp a low high ≤ high := by unfold clamp; split <;> (try split) <;> omega
theorem win_bd (n : Int) : 131072 ≤ win n ∧ win n ≤ 68719476736 := clamp_bd (by omega)
theorem ediv_anti {n d d' : Int} (hn : 0 ≤ n) (hd : 0 < d) (h : d ≤ d') : n / d' ≤ n / d := by
  rw [Int.le_ediv_iff_mul_le hd]
  have h1 : 0 ≤ n / d' := Int.ediv_nonneg hn (by omega)
  have h2 : n / d' * d' ≤ n := Int.ediv_mul_le n (by omega)
  have h3 := Int.mul_le_mul_of_nonneg_left h h1
  omega
theorem times_fits {a b : Int} (ha : I a) (hb : I b) (c : I (a * b)) : ¬ (a = -1 ∧ b = -9223372036854775808) ∧ ¬ (b = -1 ∧ a = -9223372036854775808) ∧ (b ≠ 0 → RowKit.wrap64 (Int.tdiv (RowKit.wrap64 (a * b)) b) = a) := by
  refine ⟨?_, ?_, ?_⟩
  · rintro ⟨rfl, rfl⟩; omega
  · rintro ⟨rfl, rfl⟩; omega
  · intro h; rw [w64 c, Int.mul_tdiv_cancel _ h, w64 ha]
theorem times_over {a b : Int} (ha : I a) (hb : I b) (c : ¬ I (a * b)) (h1 : ¬ (a = -1 ∧ b = -9223372036854775808)) (h2 : ¬ (b = -1 ∧ a = -9223372036854775808)) : b ≠ 0 ∧ RowKit.wrap64 (Int.tdiv (RowKit.wrap64 (a * b)) b) ≠ a := by
  have h0 : b ≠ 0 := by rintro rfl; omega
  refine ⟨h0, fun h => ?_⟩
  by_cases hm : b = -1
  · subst hm; omega
  have hn : I (RowKit.wrap64 (a * b)) := by unfold RowKit.wrap64; omega
  obtain ⟨k, hk⟩ : ∃ k : Int, RowKit.wrap64 (a * b) = a * b + 18446744073709551616 * k := ⟨-((a * b + 9223372036854775808) / 18446744073709551616), by unfold RowKit.wrap64; omega⟩
  generalize RowKit.wrap64 (a * b) = n at *
  have e := Int.mul_tdiv_add_tmod n b
  have l1 : (Int.tmod n b).natAbs < b.natAbs := by
    rw [Int.natAbs_tmod]; exact Nat.mod_lt _ (by omega)
  have l2 : (Int.tdiv n b).natAbs ≤ n.natAbs := by rw [Int.natAbs_tdiv]; exact Nat.div_le_self _ _
  have l3 : I (Int.tdiv n b) := by
    by_cases hp : n = -9223372036854775808 ∧ b = 1
    · obtain ⟨rfl, rfl⟩ := hp; rw [Int.tdiv_one]; omega
    by_cases hq : 0 ≤ Int.tdiv n b
    · by_cases hz : n = -9223372036854775808
      · have : (Int.tdiv n b).natAbs ≤ 4611686018427387904 := by
          rw [Int.natAbs_tdiv, hz]
          show 9223372036854775808 / b.natAbs ≤ 4611686018427387904
          have : 2 ≤ b.natAbs := by omega
          apply Nat.div_le_of_le_mul; omega
        omega
      · omega
    · omega
  rw [w64 l3] at h
  rw [h, Int.mul_comm] at e
  omega
/-- The time there and back; a rate; how long bytes take. -/
def max1 (x : Int) : Int := if x < 1 then 1 else x
def timeQ (has : Bool) (mean far : Int) : Int := if has = true ∧ 8 ≤ mean ∧ mean ≤ 8589934592 ∧ 0 ≤ far ∧ far ≤ 4294967296 then mean / 8 else 100000
def rateD (t : Int) (slow : Bool) : Int := (if slow = true then 1 else 4) * 65536 * t
def rateN (w s : Int) (slow : Bool) : Int := clamp w 0 68719476736 * (if slow = true then 2 else 5) * (clamp s 1 65535 * 1000000)
def rateQ (w s t : Int) (slow : Bool) : Int := max1 (rateN w s slow / rateD t slow)
theorem timeQ_bd (has : Bool) (mean far : Int) : 1 ≤ timeQ has mean far ∧ timeQ has mean far ≤ 1073741824 := by unfold timeQ; split <;> omega
theorem rateD_bd {t : Int} (h1 : 1 ≤ t) (h2 : t ≤ 1073741824) (slow : Bool) : 65536 ≤ rateD t slow ∧ rateD t slow ≤ 281474976710656 := by unfold rateD; cases slow <;> simp <;> omega
theorem rateN_bd (w s : Int) (slow : Bool) : 0 ≤ rateN w s slow ∧ rateN w s slow ≤ 68719476736 * 5 * (65535 * 1000000) := by
  have a := clamp_bd (a := w) (low := 0) (high := 68719476736) (by omega)
  have b := clamp_bd (a := s) (low := 1) (high := 65535) (by omega)
  unfold rateN
  have h1 : 0 ≤ clamp w 0 68719476736 * (if slow = true then 2 else 5) ∧ clamp w 0 68719476736 * (if slow = true then 2 else 5) ≤ 68719476736 * 5 := by cases slow <;> simp <;> omega
  exact mul_le h1.1 h1.2 (by omega) (by omega)
theorem rate_I (w s : Int) {t : Int} (h1 : 1 ≤ t) (h2 : t ≤ 1073741824) (slow : Bool) : 0 ≤ rateN w s slow / rateD t slow ∧ rateN w s slow / rateD t slow ≤ 343597383680000000 := by
  have a := rateN_bd w s slow
  have b := rateD_bd h1 h2 slow
  refine ⟨Int.ediv_nonneg a.1 (by omega), ?_⟩
  have c := ediv_anti (n := rateN w s slow) (d := 65536) (d' := rateD t slow) a.1 (by omega) b.1
  have d : rateN w s slow / 65536 ≤ 343597383680000000 := by omega
  omega
/-- Windows behind what was told: in slow start, up to a target, by both laws. -/
def min2 (x y : Int) : Int := if y < x then y else x
def partQ (t : Int) (g d : Bool) : Int := if d = true then 0 else if g = true then min2 (clamp t 0 68719476736) 524288 / 4 else min2 (clamp t 0 68719476736) 524288
def slowQ (w t : Int) (g d : Bool) : Int := win (win w + partQ t g d)
def byQ (w t u : Int) : Int := if t ≤ win w then 0 else min2 (clamp u 0 68719476736 * (t - win w) / win w) (t - win w)
def bothQ (w t e u : Int) : Int := win (if win w + byQ w t u < e then e else win w + byQ w t u)
theorem partQ_bd (t : Int) (g d : Bool) : 0 ≤ partQ t g d ∧ partQ t g d ≤ 524288 := by
  have := clamp_bd (a := t) (low := 0) (high := 68719476736) (by omega)
  unfold partQ min2; repeat' split
  all_goals omega
theorem byQ_bd (w u : Int) {t : Int} (ht : t ≤ 9223372036854775807) : 0 ≤ byQ w t u ∧ win w + byQ w t u ≤ 9223372036854775807 ∧ (byQ w t u = 0 ∨ win w + byQ w t u ≤ t) := by
  have a := win_bd w
  have b := clamp_bd (a := u) (low := 0) (high := 68719476736) (by omega)
  unfold byQ
  by_cases c : t ≤ win w
  · rw [if_pos c]; omega
  · rw [if_neg c]
    have d : 0 ≤ clamp u 0 68719476736 * (t - win w) / win w := Int.ediv_nonneg (Int.mul_nonneg b.1 (by omega)) (by omega)
    unfold min2; split <;> omega


/-! ## A bucket of millionths of bytes. -/
def bOk (t h : Int) : Bool := decide (0 ≤ t ∧ t ≤ 1099511627776 ∧ 0 ≤ h ∧ h ≤ 1152921504606846976)
theorem bOk_iff {t h : Int} : bOk t h = true ↔ 0 ≤ t ∧ t ≤ 1099511627776 ∧ 0 ≤ h ∧ h ≤ 1152921504606846976 := by unfold bOk; exact decide_eq_true_iff
/-- What it has at most, of so many bytes. -/
def topB (m : Int) : Int := clamp m 0 1099511627776 * 1000000
/-- What it has behind a time. -/
def fillH (t h u r m : Int) : Int := if h < topB m then (if topB m < h + clamp r 0 1099511627776 * (u - t) then topB m else h + clamp r 0 1099511627776 * (u - t)) else h
def fillB (t h u r m : Int) : Int × Int × Int := if bOk t h = true then (if 0 ≤ u ∧ u ≤ 1099511627776 then (if u < t then (t, h, 50) else (u, fillH t h u r m, 0)) else (t, h, 51)) else (t, h, 201)
def bytesB (t h : Int) : Int := if bOk t h = true then h / 1000000 else 0
def tkB (t h n : Int) : Int × Int × Int := if bOk t h = true then (if n < 1 then (t, h, 201) else if h / 1000000 < n then (t, h, 203) else (t, h - n * 1000000, 0)) else (t, h, 201)
/-! ## Cube roots. -/
theorem cube_mono {a b : Int} (h0 : 0 ≤ a) (h : a ≤ b) : a * a * a ≤ b * b * b := by
  have h1 := Int.mul_le_mul h h h0 (show 0 ≤ b by omega)
  exact Int.mul_le_mul h1 h h0 (Int.mul_nonneg (by omega) (by omega))
theorem cube_lt {a b : Int} (h0 : 0 ≤ a) (h : a < b) : a * a * a < b * b * b := by
  have h1 := cube_mono (a := a + 1) (b := b) (by omega) (by omega)
  have e : (a + 1) * (a + 1) * (a + 1) = a * a * a + 3 * (a * a) + 3 * a + 1 := by
    simp only [Int.add_mul, Int.mul_add, Int.one_mul, Int.mul_one]; omega
  have h2 := Int.mul_nonneg h0 h0
  omega
theorem root3_ex (X : Nat) : ∃ r : Nat, r * r * r ≤ X ∧ X < (r + 1) * (r + 1) * (r + 1) := by
  induction X with
  | zero => exact ⟨0, by simp, by simp⟩
  | succ X ih =>
    obtain ⟨r, h1, h2⟩ := ih
    by_cases c : (r + 1) * (r + 1) * (r + 1) ≤ X + 1
    · have := cube_lt (a := ((r + 1 : Nat) : Int)) (b := ((r + 1 + 1 : Nat) : Int)) (by omega) (by omega)
      have e : (r + 1) * (r + 1) * (r + 1) < (r + 1 + 1) * (r + 1 + 1) * (r + 1 + 1) := by exact_mod_cast this
      exact ⟨r + 1, c, by omega⟩
    · exact ⟨r, by omega, by omega⟩
/-- The whole cube root. -/
noncomputable def root3 (X : Int) : Int := ((Classical.choose (root3_ex X.toNat) : Nat) : Int)
theorem root3_spec {X : Int} (h : 0 ≤ X) : 0 ≤ root3 X ∧ root3 X * root3 X * root3 X ≤ X ∧ X < (root3 X + 1) * (root3 X + 1) * (root3 X + 1) := by
  obtain ⟨h1, h2⟩ := Classical.choose_spec (root3_ex X.toNat)
  unfold root3
  generalize Classical.choose (root3_ex X.toNat) = r at *
  have e1 : ((r * r * r : Nat) : Int) ≤ (X.toNat : Int) := by exact_mod_cast h1
  have e2 : (X.toNat : Int) < (((r + 1) * (r + 1) * (r + 1) : Nat) : Int) := by exact_mod_cast h2
  rw [Int.toNat_of_nonneg h] at e1 e2
  exact ⟨by omega, by exact_mod_cast e1, by exact_mod_cast e2⟩
theorem cube_le_iff {X n : Int} (hX : 0 ≤ X) (hn : 0 ≤ n) : n * n * n ≤ X ↔ n ≤ root3 X := by
  obtain ⟨h0, h1, h2⟩ := root3_spec hX
  constructor
  · intro h
    rcases Int.lt_or_le (root3 X) n with c | c
    · have := cube_mono (a := root3 X + 1) (b := n) (by omega) (by omega); omega
    · exact c
  · intro h
    have := cube_mono hn h; omega
/-- How many bits a number's size has. -/
def longW (h l : Int) : Int := if 0 < h then 64 + (Lib.bitLen h.toNat : Int) else (Lib.bitLen l.toNat : Int)
theorem longW_bd {h l : Int} (h1 : U h) (h2 : U l) : 0 ≤ longW h l ∧ longW h l ≤ 128 ∧ h * 18446744073709551616 + l < 2 ^ (longW h l).toNat := by
  unfold longW
  by_cases c : 0 < h
  · rw [if_pos c]
    obtain ⟨a1, a2, a3, a4⟩ := bitLen_facts (Y := h.toNat) (by omega) (by omega)
    refine ⟨by omega, by omega, ?_⟩
    rw [show (64 + (Lib.bitLen h.toNat : Int)).toNat = 64 + Lib.bitLen h.toNat by omega, Int.pow_add]
    have e : (h.toNat : Int) < ((2 ^ Lib.bitLen h.toNat : Nat) : Int) := by exact_mod_cast a3
    rw [Int.toNat_of_nonneg h1.1] at e
    have e2 : ((2 ^ Lib.bitLen h.toNat : Nat) : Int) = (2 : Int) ^ Lib.bitLen h.toNat := by norm_cast
    rw [e2] at e
    generalize (2 : Int) ^ Lib.bitLen h.toNat = q at *
    have e3 : (2 : Int) ^ 64 = 18446744073709551616 := by decide
    rw [e3]; omega
  · rw [if_neg c]
    have h0 : h = 0 := by omega
    subst h0
    by_cases z : l = 0
    · subst z
      have : Lib.bitLen (0 : Int).toNat = 0 := by decide
      rw [this]; simp
    · obtain ⟨a1, a2, a3, a4⟩ := bitLen_facts (Y := l.toNat) (by omega) (by omega)
      refine ⟨by omega, by omega, ?_⟩
      rw [Int.toNat_natCast]
      have e : (l.toNat : Int) < ((2 ^ Lib.bitLen l.toNat : Nat) : Int) := by exact_mod_cast a3
      rw [Int.toNat_of_nonneg h2.1] at e
      have e2 : ((2 ^ Lib.bitLen l.toNat : Nat) : Int) = (2 : Int) ^ Lib.bitLen l.toNat := by norm_cast
      rw [e2] at e
      omega
theorem pow2_le {a b : Nat} (h : a ≤ b) : (2 : Int) ^ a ≤ 2 ^ b := by
  have := Nat.pow_le_pow_right (show 0 < 2 by omega) h
  exact_mod_cast this
/-- How many bits the cube root has at most. -/
theorem root3_bits {h l : Int} (h1 : U h) (h2 : U l) : 0 ≤ (longW h l + 2) / 3 ∧ (longW h l + 2) / 3 ≤ 43 ∧ root3 (h * 18446744073709551616 + l) < 2 ^ ((longW h l + 2) / 3).toNat := by
  obtain ⟨a, b, c⟩ := longW_bd h1 h2
  refine ⟨by omega, by omega, ?_⟩
  have hX : 0 ≤ h * 18446744073709551616 + l := by omega
  obtain ⟨r0, r1, r2⟩ := root3_spec hX
  rcases Int.lt_or_le (root3 (h * 18446744073709551616 + l)) (2 ^ ((longW h l + 2) / 3).toNat) with k | k
  · exact k
  · exfalso
    have p0 : (0 : Int) ≤ 2 ^ ((longW h l + 2) / 3).toNat := Int.pow_nonneg (by omega)
    have m := cube_mono p0 k
    have e : (2 : Int) ^ ((longW h l + 2) / 3).toNat * 2 ^ ((longW h l + 2) / 3).toNat * 2 ^ ((longW h l + 2) / 3).toNat = 2 ^ (((longW h l + 2) / 3).toNat + ((longW h l + 2) / 3).toNat + ((longW h l + 2) / 3).toNat) := by rw [Int.pow_add, Int.pow_add]
    rw [e] at m
    have n := pow2_le (show (longW h l).toNat ≤ ((longW h l + 2) / 3).toNat + ((longW h l + 2) / 3).toNat + ((longW h l + 2) / 3).toNat by omega)
    omega

/-! ## Epochs. -/
/-- How long a gap takes. -/
noncomputable def kQ (g : Int) : Int := root3 (clamp g 0 68719476736 * 10000000000000000000 / 262144)
theorem kQ_bd (g : Int) : 0 ≤ kQ g ∧ kQ g < 138000000 := by
  have c := clamp_bd (a := g) (low := 0) (high := 68719476736) (by omega)
  unfold kQ
  have h0 : 0 ≤ clamp g 0 68719476736 * 10000000000000000000 / 262144 := by omega
  refine ⟨(root3_spec h0).1, ?_⟩
  rcases Int.lt_or_le (root3 (clamp g 0 68719476736 * 10000000000000000000 / 262144)) 138000000 with k | k
  · exact k
  · have := (cube_le_iff h0 (show (0 : Int) ≤ 138000000 by omega)).2 k
    omega

def winOk (n : Int) : Bool := decide (0 ≤ n ∧ n ≤ 68719476736)
/-- The greater of two. -/
def max2 (a b : Int) : Int := if a < b then b else a
noncomputable def beginQ (s f m : Int) : Bool × Int × Int × Int × Int × Int × Int := if 0 ≤ s ∧ s ≤ 1099511627776 ∧ 0 ≤ f ∧ f ≤ 68719476736 ∧ 0 ≤ m ∧ m ≤ 68719476736 then (true, s, f, max2 m f, kQ (max2 m f - f), f, 0) else (false, 0, 0, 0, 0, 0, 201)
/-- Whether an epoch may be. -/
def eOn (s f m k e : Int) : Prop := 0 ≤ s ∧ s ≤ 1099511627776 ∧ 0 ≤ f ∧ f ≤ 68719476736 ∧ 0 ≤ m ∧ m ≤ 68719476736 ∧ 0 ≤ e ∧ e ≤ 68719476736 ∧ f ≤ m ∧ k = kQ (m - f)
noncomputable def eOk (on : Bool) (s f m k e : Int) : Bool := @ite _ (on = true) _ (@decide (eOn s f m k e) (Classical.propDecidable _)) (decide (s = 0 ∧ f = 0 ∧ m = 0 ∧ k = 0 ∧ e = 0))
theorem eOk_on {s f m k e : Int} : eOk true s f m k e = true ↔ eOn s f m k e := by unfold eOk; simp
theorem eOk_off {s f m k e : Int} : eOk false s f m k e = true ↔ s = 0 ∧ f = 0 ∧ m = 0 ∧ k = 0 ∧ e = 0 := by unfold eOk; simp
theorem eOk_of {on : Bool} {s f m k e : Int} {b : Bool} (h1 : on = true → (b = true ↔ eOn s f m k e)) (h2 : on = false → (b = true ↔ s = 0 ∧ f = 0 ∧ m = 0 ∧ k = 0 ∧ e = 0)) : b = eOk on s f m k e := by
  rw [Bool.eq_iff_iff]
  cases on
  · rw [h2 rfl, eOk_off]
  · rw [h1 rfl, eOk_on]
/-- When it begins, if it begins later. -/
def laterQ (on : Bool) (s by' : Int) : Int := if on = true ∧ 0 < by' then (if 1099511627776 < s + by' then 1099511627776 else s + by') else s

/-! ## The cubic law. -/
def c31 (d : Int) : Int := clamp d (-2147483648) 2147483648
/-- 4 tenths of a cube. -/
def riseQ (d : Int) : Int := c31 d * c31 d * c31 d * 262144 / 10000000000000000000
theorem c31_bd (d : Int) : -2147483648 ≤ c31 d ∧ c31 d ≤ 2147483648 := clamp_bd (by omega)
theorem cube_all {a b : Int} (h : a ≤ b) : a * a * a ≤ b * b * b := by
  by_cases h0 : 0 ≤ a
  · exact cube_mono h0 h
  · have na : 0 ≤ -a := by omega
    have ea : a * a * a = -((-a) * (-a) * (-a)) := by rw [Int.neg_mul_neg, Int.mul_neg, Int.neg_neg]
    by_cases h1 : 0 ≤ b
    · have p := Int.mul_nonneg (Int.mul_nonneg na na) na
      have q := Int.mul_nonneg (Int.mul_nonneg h1 h1) h1
      rw [ea]; omega
    · have eb : b * b * b = -((-b) * (-b) * (-b)) := by rw [Int.neg_mul_neg, Int.mul_neg, Int.neg_neg]
      have m := cube_mono (a := -b) (b := -a) (by omega) (by omega)
      rw [ea, eb]; omega
theorem c31_cube (d : Int) : -9903520314283042199192993792 ≤ c31 d * c31 d * c31 d ∧ c31 d * c31 d * c31 d ≤ 9903520314283042199192993792 := by
  have b := c31_bd d
  have h1 := cube_all b.1
  have h2 := cube_all b.2
  omega
theorem riseQ_bd (d : Int) : -300000000000000 ≤ riseQ d ∧ riseQ d ≤ 300000000000000 := by
  have b := c31_cube d
  unfold riseQ
  omega
theorem c31_near (d : Int) : c31 (near d) = c31 d := by unfold c31 clamp near; (repeat' split) <;> omega
theorem riseQ_near (d : Int) : riseQ (near d) = riseQ d := by unfold riseQ; rw [c31_near]
theorem near_clamp (v : Int) : clamp (near v) 0 68719476736 = clamp v 0 68719476736 := by unfold clamp near; (repeat' split) <;> omega
/-- The window after a time: of an epoch that grows up to m, and takes k. -/
def lawQ (m k t : Int) : Int := clamp (m + riseQ (t - k)) 0 68719476736
theorem lawQ_bd (m k t : Int) : 0 ≤ lawQ m k t ∧ lawQ m k t ≤ 68719476736 := clamp_bd (by omega)
theorem lawQ_near {m k : Int} (t : Int) (hk : 0 ≤ k ∧ k < 138000000) : lawQ m k (near t) = lawQ m k t := by
  have e : riseQ (near t - k) = riseQ (t - k) := by
    have c : c31 (near t - k) = c31 (t - k) := by unfold c31 clamp near; (repeat' split) <;> omega
    unfold riseQ; rw [c]
  unfold lawQ; rw [e]
/-- The window of the law. -/
noncomputable def atQ (on : Bool) (s f m k e now : Int) : Int := if on = true ∧ eOk on s f m k e = true then lawQ m k (now - s) else 0
theorem eOn_k {s f m k e : Int} (h : eOn s f m k e) : 0 ≤ k ∧ k < 138000000 := by
  obtain ⟨_, _, _, _, _, _, _, _, _, h9⟩ := h
  rw [h9]; exact kQ_bd _
/-- Up to where a window may grow. -/
noncomputable def targetQ (on : Bool) (s f m k e now w : Int) : Int := if w < 0 ∨ ¬ (on = true ∧ eOk on s f m k e = true) then w else clamp (atQ on s f m k e now) w (near (w + w / 2))

/-! ## Configurations. -/
/-- Whether a configuration may be. -/
def cfgOk (a b c d e f h : Int) : Prop := 1 ≤ a ∧ a ≤ 9000 ∧ 4 ≤ b ∧ b ≤ 1048576 ∧ 2 ≤ c ∧ c ≤ b ∧ 1 ≤ d ∧ d ≤ 1000000 ∧ 1 ≤ e ∧ e ≤ f ∧ 1 ≤ f ∧ f ≤ 1099511627776 ∧ 1 ≤ h ∧ h ≤ 1000
noncomputable def chkQ (a b c d e f h : Int) : Int := @ite _ (cfgOk a b c d e f h) (Classical.propDecidable _) 0 210
theorem chkQ_ok {a b c d e f h : Int} (k : cfgOk a b c d e f h) : chkQ a b c d e f h = 0 := if_pos k
theorem chkQ_bad {a b c d e f h : Int} (k : ¬ cfgOk a b c d e f h) : chkQ a b c d e f h = 210 := if_neg k
/-- Whether a window is used. -/
def usedQ (a b c : Int) : Bool := if 0 ≤ a ∧ 0 ≤ b ∧ 0 ≤ c then decide (a * c ≤ b * 131072) else false

end Go.Proofs.YtfahbgkoldoflaaGreatDoor.Sp
