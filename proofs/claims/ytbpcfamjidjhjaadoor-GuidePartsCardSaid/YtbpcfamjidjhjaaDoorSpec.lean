/- Plain arithmetic behind the contracts: words of 64 bits, numbers of 128 bits and a sign, quotients; no program in it. Conditions: as each theorem states. -/
import Derived.RowKit
import Derived.MapKept
import Derived.Laws.ResultCell
import Derived.Laws.Rows
import Derived.LoopN
import Derived.Deep.QuietTactic
import Derived.BigQuiet
import Derived.Laws.BitsAllLaws
import Derived.Laws.MathBits
import Derived.Lib.ItoaNum
set_option linter.unusedVariables false
namespace Go.Proofs.YtbpcfamjidjhjaaDoor.Sp

/-- Results that are a row of cells, and a slot. -/
theorem results_row_tmp {P : Program} {fn : Func} {p u : Tmp} {ty : TypeId} (h : fn.results = #[.cell p ty, .tmp u]) (tmps : Array Value) (w : World) (g : Nat) (t : TypeId) (cs : Array Value) (fr : Nat × Nat) (d : TypeDesc)
    (hp : tmps.getD p undef = .pointer (some ⟨g, 0, none⟩)) (hg : w.heap[g]? = some (.cells cs t fr))
    (hu : P.underlying ty = some d) (hd : (match d with | .struct _ | .array _ _ => true | _ => false) = true) (hi : (P.info? ty).map (·.size) = some cs.size) :
    (results fn tmps).run P w = .ok (.tuple #[.agg cs, tmps.getD u undef]) w := by
  have hp' : tmps[p]?.getD undef = .pointer (some ⟨g, 0, none⟩) := by simpa using hp
  rw [results_cell_tmp h]
  simp [hp', asAddr, run_loadVar_row w g t ty cs fr d hg hu hd hi, Result.andThen]

/-- A word of 64 bits. -/
abbrev U (x : Int) : Prop := 0 ≤ x ∧ x < 18446744073709551616
/-- An int. -/
abbrev I (x : Int) : Prop := -9223372036854775808 ≤ x ∧ x ≤ 9223372036854775807
/-- A value that stands under a condition: the condition is not reckoned with. -/
noncomputable def need {α : Type} (p : Prop) (x : Option α) : Option α := @ite _ p (Classical.propDecidable p) x none
theorem need_pos {α : Type} {p : Prop} {x : Option α} (h : p) : need p x = x := by unfold need; rw [if_pos h]
theorem need_some {α : Type} {p : Prop} {x : Option α} {r : α} (h : need p x = some r) : p ∧ x = some r := by
  unfold need at h
  by_cases hp : p
  · rw [if_pos hp] at h; exact ⟨hp, h⟩
  · rw [if_neg hp] at h; cases h
/-- What a number of 128 bits, and its sign, is. -/
def val (n : Bool) (h l : Int) : Int := if n = true then -(h * 18446744073709551616 + l) else h * 18446744073709551616 + l
/-- The sign, and both words, of a number. -/
def encN (v : Int) : Bool := decide (v < 0)
def encH (v : Int) : Int := (v.natAbs : Int) / 18446744073709551616
def encL (v : Int) : Int := (v.natAbs : Int) % 18446744073709551616
/-- A number that 128 bits hold. -/
abbrev B (v : Int) : Prop := -340282366920938463463374607431768211456 < v ∧ v < 340282366920938463463374607431768211456

theorem u64w (x : Int) : IntKind.u64.wrap x = x % 18446744073709551616 := by
  simp [IntKind.wrap, IntKind.signed, IntKind.bits]
theorem u64w_in {x : Int} (h : U x) : IntKind.u64.wrap x = x := by rw [u64w]; omega
theorem wf_i64 {x : Int} : (Lit.int .i64 x).wf = true ↔ I x := by
  simp only [Lit.wf, Bool.and_eq_true, decide_eq_true_eq, show IntKind.i64.min = -9223372036854775808 from rfl, show IntKind.i64.max = 9223372036854775807 from rfl]

theorem wf_u32 {x : Int} : (Lit.int .u32 x).wf = true ↔ 0 ≤ x ∧ x ≤ 4294967295 := by
  simp only [Lit.wf, Bool.and_eq_true, decide_eq_true_eq, show IntKind.u32.min = 0 from rfl, show IntKind.u32.max = 4294967295 from rfl]
theorem wf_u16 {x : Int} : (Lit.int .u16 x).wf = true ↔ 0 ≤ x ∧ x ≤ 65535 := by
  simp only [Lit.wf, Bool.and_eq_true, decide_eq_true_eq, show IntKind.u16.min = 0 from rfl, show IntKind.u16.max = 65535 from rfl]
theorem bitLen_facts {Y : Nat} (h0 : Y ≠ 0) (h : Y < 18446744073709551616) : 0 < Lib.bitLen Y ∧ Lib.bitLen Y ≤ 64 ∧ Y < 2 ^ Lib.bitLen Y ∧ 2 ^ (Lib.bitLen Y - 1) ≤ Y := by
  obtain ⟨h1, h2, h3⟩ := Lib.bitLenAux_bounds 64 Y (by simpa using h) h0
  refine ⟨h1, ?_, h3, h2⟩
  have : 2 ^ (Lib.bitLenAux 64 Y - 1) < 2 ^ 64 := Nat.lt_of_le_of_lt h2 (by simpa using h)
  have := (Nat.pow_lt_pow_iff_right (by decide)).1 this
  show Lib.bitLenAux 64 Y ≤ 64
  omega
theorem val_B {n : Bool} {h l : Int} (h1 : U h) (h2 : U l) : B (val n h l) := by
  unfold val; cases n <;> simp <;> omega
theorem val_enc {v : Int} : val (encN v) (encH v) (encL v) = v := by
  unfold val encN encH encL
  by_cases h : v < 0 <;> simp [h] <;> omega
theorem encH_U {v : Int} (h : B v) : U (encH v) := by unfold encH; omega
theorem encL_U {v : Int} : U (encL v) := by unfold encL; omega
theorem enc_of {n : Bool} {h l : Int} (h1 : U h) (h2 : U l) (h3 : n = true → ¬ (h = 0 ∧ l = 0)) : encN (val n h l) = n ∧ encH (val n h l) = h ∧ encL (val n h l) = l := by
  unfold val encN encH encL
  cases n with
  | true => have := h3 rfl; simp; omega
  | false => simp; omega
theorem encN_neg {v : Int} (h : v < 0) : encN v = true := by simp [encN, h]
theorem encN_pos {v : Int} (h : 0 ≤ v) : encN v = false := by unfold encN; simp; omega
theorem enc_inj {v w : Int} (h1 : encN v = encN w) (h2 : encH v = encH w) (h3 : encL v = encL w) : v = w := by
  have e1 := @val_enc v
  rw [h1, h2, h3, val_enc] at e1
  exact e1.symm

/-- Which is greater. -/
def cmpI (x y : Int) : Int := if x < y then -1 else if x = y then 0 else 1
/-- A number that is held, or its error. -/
def held (v : Int) : Option (Bool × Int × Int × Int) := if B v then some (encN v, encH v, encL v, 0) else some (false, 0, 0, 10)
/-- The nearest int. -/
def near (v : Int) : Int := if 9223372036854775807 < v then 9223372036854775807 else if v < -9223372036854775808 then -9223372036854775808 else v
theorem mul_sign (a b : Int) : ((decide (a < 0) != decide (b < 0)) = true → a * b ≤ 0) ∧ ((decide (a < 0) != decide (b < 0)) = false → 0 ≤ a * b) := by
  by_cases h1 : a < 0 <;> by_cases h2 : b < 0 <;> simp [h1, h2]
  · exact Int.mul_nonneg_of_nonpos_of_nonpos (by omega) (by omega)
  · exact Int.mul_nonpos_of_nonpos_of_nonneg (by omega) (by omega)
  · exact Int.mul_nonpos_of_nonneg_of_nonpos (by omega) (by omega)
  · exact Int.mul_nonneg (by omega) (by omega)
theorem mul_le {a b A C : Int} (h1 : 0 ≤ a) (h2 : a ≤ A) (h3 : 0 ≤ b) (h4 : b ≤ C) : 0 ≤ a * b ∧ a * b ≤ A * C :=
  ⟨Int.mul_nonneg h1 h3, Int.mul_le_mul h2 h4 h3 (by omega)⟩
theorem mulU {a b : Int} (h1 : U a) (h2 : U b) : a * b ≤ 340282366920938463426481119284349108225 := (mul_le (A := 18446744073709551615) (C := 18446744073709551615) h1.1 (by omega) h2.1 (by omega)).2
theorem mulI {a b : Int} (h1 : I a) (h2 : I b) : ((a * b).natAbs : Int) ≤ 85070591730234615865843651857942052864 := by
  rw [Int.natAbs_mul]
  have := (mul_le (a := (a.natAbs : Int)) (b := (b.natAbs : Int)) (A := 9223372036854775808) (C := 9223372036854775808) (by omega) (by omega) (by omega) (by omega)).2
  simpa using this

/-- A quotient from below, and what is left over, or the error of a divisor 0. -/
noncomputable def quo (v d : Int) : Option (Bool × Int × Int × Int × Int) := if d = 0 then some (false, 0, 0, 0, 20) else some (encN (v / d), encH (v / d), encL (v / d), v % d, 0)
theorem quo_pos {v d : Int} (h : d ≠ 0) : quo v d = some (encN (v / d), encH (v / d), encL (v / d), v % d, 0) := by unfold quo; rw [if_neg h]
theorem held_in {v : Int} (h : B v) : held v = some (encN v, encH v, encL v, 0) := by unfold held; rw [if_pos h]
theorem held_out {v : Int} (h : ¬ B v) : held v = some (false, 0, 0, 10) := by unfold held; rw [if_neg h]
theorem two_div {h l d : Int} (hp : 0 < d) : (h * 18446744073709551616 + l) / d = h / d * 18446744073709551616 + (h % d * 18446744073709551616 + l) / d ∧ (h * 18446744073709551616 + l) % d = (h % d * 18446744073709551616 + l) % d := by
  have e := Int.emod_add_ediv_mul h d
  generalize h / d = q at *
  generalize h % d = r at *
  have e2 : h * 18446744073709551616 + l = (r * 18446744073709551616 + l) + (q * 18446744073709551616) * d := by
    rw [← e, Int.add_mul, Int.mul_right_comm]; omega
  rw [e2, Int.add_mul_ediv_right _ _ (by omega), Int.add_mul_emod_self_right]
  omega
theorem neg_div {X d : Int} (hp : 0 < d) (h : X % d = 0) : -X / d = -(X / d) := Int.neg_ediv_of_dvd (Int.dvd_of_emod_eq_zero h)
theorem neg_mod {X d : Int} (hp : 0 < d) (h : X % d = 0) : -X % d = 0 := Int.emod_eq_zero_of_dvd ((Int.dvd_neg).2 (Int.dvd_of_emod_eq_zero h))
theorem neg_div' {X d : Int} (hp : 0 < d) (h : X % d ≠ 0) : -X / d = -(X / d) + -1 := by
  have a := Int.emod_nonneg X (show d ≠ 0 by omega)
  have b := Int.emod_lt_of_pos X hp
  have c := Int.emod_add_ediv_mul X d
  have e : -X = (d - X % d) + (-(X / d) + -1) * d := by rw [Int.add_mul, Int.neg_mul]; omega
  rw [e, Int.add_mul_ediv_right _ _ (by omega), Int.ediv_eq_zero_of_lt (by omega) (by omega)]
  omega
theorem neg_mod' {X d : Int} (hp : 0 < d) (h : X % d ≠ 0) : -X % d = d - X % d := by
  have a := Int.emod_nonneg X (show d ≠ 0 by omega)
  have b := Int.emod_lt_of_pos X hp
  have c := Int.emod_add_ediv_mul X d
  have e : -X = (d - X % d) + (-(X / d) + -1) * d := by rw [Int.add_mul, Int.neg_mul]; omega
  have e2 : -X % d = (d - X % d) % d := by rw [e, Int.add_mul_emod_self_right]
  rw [e2, Int.emod_eq_of_lt (by omega) (by omega)]
theorem near_I (v : Int) : I (near v) := by unfold near; split <;> (try split) <;> omega
theorem near_in {v : Int} (h : I v) : near v = v := by unfold near; rw [if_neg (by omega), if_neg (by omega)]
theorem val_f {h l : Int} : val false h l = h * 18446744073709551616 + l := by unfold val; simp
theorem val_t {h l : Int} : val true h l = -(h * 18446744073709551616 + l) := by unfold val; simp
theorem near_hi {v : Int} (h : 9223372036854775807 < v) : near v = 9223372036854775807 := by unfold near; rw [if_pos h]
theorem near_lo {v : Int} (h : v < -9223372036854775808) : near v = -9223372036854775808 := by unfold near; rw [if_neg (by omega), if_pos h]
/-- An int, or the error of what is too great. -/
def fit (q : Int) : Option (Int × Int) := if I q then some (q, 0) else some (0, 10)
theorem fit_in {q : Int} (h : I q) : fit q = some (q, 0) := by unfold fit; rw [if_pos h]
theorem fit_out {q : Int} (h : ¬ I q) : fit q = some (0, 10) := by unfold fit; rw [if_neg h]
theorem w64 {x : Int} (h : I x) : RowKit.wrap64 x = x := by unfold RowKit.wrap64; omega
/-- A digit of 32 bits. -/
abbrev Dg (x : Int) : Prop := 0 ≤ x ∧ x < 4294967296
/-- A number between two. -/
def clamp (a low high : Int) : Int := if a < low then low else if high < a then high else a
theorem clamp_bd {a low high : Int} (h : low ≤ high) : low ≤ clamp a low high ∧ clamp a low high ≤ high := by unfold clamp; split <;> (try split) <;> omega
noncomputable def negF (n : Bool) (h l : Int) : Option (Bool × Int × Int) := need (U h ∧ U l) (some (encN (-val n h l), encH (-val n h l), encL (-val n h l)))
theorem negF_eq {n : Bool} {h l : Int} (h1 : U h) (h2 : U l) : negF n h l = some (encN (-val n h l), encH (-val n h l), encL (-val n h l)) := need_pos ⟨h1, h2⟩
theorem negF_enc {v : Int} (h : B v) : negF (encN v) (encH v) (encL v) = some (encN (-v), encH (-v), encL (-v)) := by rw [negF_eq (encH_U h) encL_U, val_enc]
noncomputable def cmpF (n : Bool) (h l : Int) (m : Bool) (i k : Int) : Option Int := need (U h ∧ U l ∧ U i ∧ U k) (some (cmpI (val n h l) (val m i k)))
theorem cmpF_eq {n m : Bool} {h l i k : Int} (h1 : U h) (h2 : U l) (h3 : U i) (h4 : U k) : cmpF n h l m i k = some (cmpI (val n h l) (val m i k)) := need_pos ⟨h1, h2, h3, h4⟩
theorem cmpF_enc {v w : Int} (h1 : B v) (h2 : B w) : cmpF (encN v) (encH v) (encL v) (encN w) (encH w) (encL w) = some (cmpI v w) := by
  rw [cmpF_eq (encH_U h1) encL_U (encH_U h2) encL_U, val_enc, val_enc]
noncomputable def scaleF (n : Bool) (h l k : Int) : Option (Bool × Int × Int × Int) := need (U h ∧ U l ∧ U k) (held (val n h l * k))
theorem scaleF_eq {n : Bool} {h l k : Int} (h1 : U h) (h2 : U l) (h3 : U k) : scaleF n h l k = held (val n h l * k) := need_pos ⟨h1, h2, h3⟩
theorem scaleF_enc {v k : Int} (h : B v) (h3 : U k) : scaleF (encN v) (encH v) (encL v) k = held (v * k) := by rw [scaleF_eq (encH_U h) encL_U h3, val_enc]
noncomputable def mulF (a b : Int) : Option (Bool × Int × Int) := need (I a ∧ I b) (some (encN (a * b), encH (a * b), encL (a * b)))
theorem mulF_eq {a b : Int} (h1 : I a) (h2 : I b) : mulF a b = some (encN (a * b), encH (a * b), encL (a * b)) := need_pos ⟨h1, h2⟩
noncomputable def ofF (a : Int) : Option (Bool × Int × Int) := need (I a) (some (encN a, encH a, encL a))
theorem ofF_eq {a : Int} (h : I a) : ofF a = some (encN a, encH a, encL a) := need_pos h
/-! ## Cube roots. -/
theorem cube_mono {a b : Int} (h0 : 0 ≤ a) (h : a ≤ b) : a * a * a ≤ b * b * b := by
  have h1 := Int.mul_le_mul h h h0 (show 0 ≤ b by omega)
  exact Int.mul_le_mul h1 h h0 (Int.mul_nonneg (by omega) (by omega))
theorem cube_lt {a b : Int} (h0 : 0 ≤ a) (h : a < b) : a * a * a < b * b * b := by
  have h1 := cube_mono (a := a + 1) (b := b) (by omega) (by omega)
  have e : (a + 1) * (a + 1) * (a + 1) = a * a * a + 3 * (a * a) + 3 * a + 1 := by
    simp only [Int.add_mul, Int.mul_add, Int.one_mul, Int.mul_one]; omega
  have h2 := Int.mul_nonneg h0 h0
  omega
theorem root3_ex (X : Nat) : ∃ r : Nat, r * r * r ≤ X ∧ X < (r + 1) * (r + 1) * (r + 1) := by
  induction X with
  | zero => exact ⟨0, by simp, by simp⟩
  | succ X ih =>
    obtain ⟨r, h1, h2⟩ := ih
    by_cases c : (r + 1) * (r + 1) * (r + 1) ≤ X + 1
    · have := cube_lt (a := ((r + 1 : Nat) : Int)) (b := ((r + 1 + 1 : Nat) : Int)) (by omega) (by omega)
      have e : (r + 1) * (r + 1) * (r + 1) < (r + 1 + 1) * (r + 1 + 1) * (r + 1 + 1) := by exact_mod_cast this
      exact ⟨r + 1, c, by omega⟩
    · exact ⟨r, by omega, by omega⟩
/-- The whole cube root. -/
noncomputable def root3 (X : Int) : Int := ((Classical.choose (root3_ex X.toNat) : Nat) : Int)
theorem root3_spec {X : Int} (h : 0 ≤ X) : 0 ≤ root3 X ∧ root3 X * root3 X * root3 X ≤ X ∧ X < (root3 X + 1) * (root3 X + 1) * (root3 X + 1) := by
  obtain ⟨h1, h2⟩ := Classical.choose_spec (root3_ex X.toNat)
  unfold root3
  generalize Classical.choose (root3_ex X.toNat) = r at *
  have e1 : ((r * r * r : Nat) : Int) ≤ (X.toNat : Int) := by exact_mod_cast h1
  have e2 : (X.toNat : Int) < (((r + 1) * (r + 1) * (r + 1) : Nat) : Int) := by exact_mod_cast h2
  rw [Int.toNat_of_nonneg h] at e1 e2
  exact ⟨by omega, by exact_mod_cast e1, by exact_mod_cast e2⟩
theorem cube_le_iff {X n : Int} (hX : 0 ≤ X) (hn : 0 ≤ n) : n * n * n ≤ X ↔ n ≤ root3 X := by
  obtain ⟨h0, h1, h2⟩ := root3_spec hX
  constructor
  · intro h
    rcases Int.lt_or_le (root3 X) n with c | c
    · have := cube_mono (a := root3 X + 1) (b := n) (by omega) (by omega); omega
    · exact c
  · intro h
    have := cube_mono hn h; omega
/-- How many bits a number's size has. -/
def longW (h l : Int) : Int := if 0 < h then 64 + (Lib.bitLen h.toNat : Int) else (Lib.bitLen l.toNat : Int)
theorem longW_bd {h l : Int} (h1 : U h) (h2 : U l) : 0 ≤ longW h l ∧ longW h l ≤ 128 ∧ h * 18446744073709551616 + l < 2 ^ (longW h l).toNat := by
  unfold longW
  by_cases c : 0 < h
  · rw [if_pos c]
    obtain ⟨a1, a2, a3, a4⟩ := bitLen_facts (Y := h.toNat) (by omega) (by omega)
    refine ⟨by omega, by omega, ?_⟩
    rw [show (64 + (Lib.bitLen h.toNat : Int)).toNat = 64 + Lib.bitLen h.toNat by omega, Int.pow_add]
    have e : (h.toNat : Int) < ((2 ^ Lib.bitLen h.toNat : Nat) : Int) := by exact_mod_cast a3
    rw [Int.toNat_of_nonneg h1.1] at e
    have e2 : ((2 ^ Lib.bitLen h.toNat : Nat) : Int) = (2 : Int) ^ Lib.bitLen h.toNat := by norm_cast
    rw [e2] at e
    generalize (2 : Int) ^ Lib.bitLen h.toNat = q at *
    have e3 : (2 : Int) ^ 64 = 18446744073709551616 := by decide
    rw [e3]; omega
  · rw [if_neg c]
    have h0 : h = 0 := by omega
    subst h0
    by_cases z : l = 0
    · subst z
      have : Lib.bitLen (0 : Int).toNat = 0 := by decide
      rw [this]; simp
    · obtain ⟨a1, a2, a3, a4⟩ := bitLen_facts (Y := l.toNat) (by omega) (by omega)
      refine ⟨by omega, by omega, ?_⟩
      rw [Int.toNat_natCast]
      have e : (l.toNat : Int) < ((2 ^ Lib.bitLen l.toNat : Nat) : Int) := by exact_mod_cast a3
      rw [Int.toNat_of_nonneg h2.1] at e
      have e2 : ((2 ^ Lib.bitLen l.toNat : Nat) : Int) = (2 : Int) ^ Lib.bitLen l.toNat := by norm_cast
      rw [e2] at e
      omega
theorem pow2_le {a b : Nat} (h : a ≤ b) : (2 : Int) ^ a ≤ 2 ^ b := by
  have := Nat.pow_le_pow_right (show 0 < 2 by omega) h
  exact_mod_cast this
/-- How many bits the cube root has at most. -/
theorem root3_bits {h l : Int} (h1 : U h) (h2 : U l) : 0 ≤ (longW h l + 2) / 3 ∧ (longW h l + 2) / 3 ≤ 43 ∧ root3 (h * 18446744073709551616 + l) < 2 ^ ((longW h l + 2) / 3).toNat := by
  obtain ⟨a, b, c⟩ := longW_bd h1 h2
  refine ⟨by omega, by omega, ?_⟩
  have hX : 0 ≤ h * 18446744073709551616 + l := by omega
  obtain ⟨r0, r1, r2⟩ := root3_spec hX
  rcases Int.lt_or_le (root3 (h * 18446744073709551616 + l)) (2 ^ ((longW h l + 2) / 3).toNat) with k | k
  · exact k
  · exfalso
    have p0 : (0 : Int) ≤ 2 ^ ((longW h l + 2) / 3).toNat := Int.pow_nonneg (by omega)
    have m := cube_mono p0 k
    have e : (2 : Int) ^ ((longW h l + 2) / 3).toNat * 2 ^ ((longW h l + 2) / 3).toNat * 2 ^ ((longW h l + 2) / 3).toNat = 2 ^ (((longW h l + 2) / 3).toNat + ((longW h l + 2) / 3).toNat + ((longW h l + 2) / 3).toNat) := by rw [Int.pow_add, Int.pow_add]
    rw [e] at m
    have n := pow2_le (show (longW h l).toNat ≤ ((longW h l + 2) / 3).toNat + ((longW h l + 2) / 3).toNat + ((longW h l + 2) / 3).toNat by omega)
    omega

/-! ## Epochs. -/
/-- How long a gap takes. -/
noncomputable def kQ (g : Int) : Int := root3 (clamp g 0 68719476736 * 10000000000000000000 / 262144)
theorem kQ_bd (g : Int) : 0 ≤ kQ g ∧ kQ g < 138000000 := by
  have c := clamp_bd (a := g) (low := 0) (high := 68719476736) (by omega)
  unfold kQ
  have h0 : 0 ≤ clamp g 0 68719476736 * 10000000000000000000 / 262144 := by omega
  refine ⟨(root3_spec h0).1, ?_⟩
  rcases Int.lt_or_le (root3 (clamp g 0 68719476736 * 10000000000000000000 / 262144)) 138000000 with k | k
  · exact k
  · have := (cube_le_iff h0 (show (0 : Int) ≤ 138000000 by omega)).2 k
    omega

def winOk (n : Int) : Bool := decide (0 ≤ n ∧ n ≤ 68719476736)
/-- The greater of two. -/
def max2 (a b : Int) : Int := if a < b then b else a
noncomputable def beginQ (s f m : Int) : Bool × Int × Int × Int × Int × Int × Int := if 0 ≤ s ∧ s ≤ 1099511627776 ∧ 0 ≤ f ∧ f ≤ 68719476736 ∧ 0 ≤ m ∧ m ≤ 68719476736 then (true, s, f, max2 m f, kQ (max2 m f - f), f, 0) else (false, 0, 0, 0, 0, 0, 201)
/-- Whether an epoch may be. -/
def eOn (s f m k e : Int) : Prop := 0 ≤ s ∧ s ≤ 1099511627776 ∧ 0 ≤ f ∧ f ≤ 68719476736 ∧ 0 ≤ m ∧ m ≤ 68719476736 ∧ 0 ≤ e ∧ e ≤ 68719476736 ∧ f ≤ m ∧ k = kQ (m - f)
noncomputable def eOk (on : Bool) (s f m k e : Int) : Bool := @ite _ (on = true) _ (@decide (eOn s f m k e) (Classical.propDecidable _)) (decide (s = 0 ∧ f = 0 ∧ m = 0 ∧ k = 0 ∧ e = 0))
theorem eOk_on {s f m k e : Int} : eOk true s f m k e = true ↔ eOn s f m k e := by unfold eOk; simp
theorem eOk_off {s f m k e : Int} : eOk false s f m k e = true ↔ s = 0 ∧ f = 0 ∧ m = 0 ∧ k = 0 ∧ e = 0 := by unfold eOk; simp
theorem eOk_of {on : Bool} {s f m k e : Int} {b : Bool} (h1 : on = true → (b = true ↔ eOn s f m k e)) (h2 : on = false → (b = true ↔ s = 0 ∧ f = 0 ∧ m = 0 ∧ k = 0 ∧ e = 0)) : b = eOk on s f m k e := by
  rw [Bool.eq_iff_iff]
  cases on
  · rw [h2 rfl, eOk_off]
  · rw [h1 rfl, eOk_on]
/-- When it begins, if it begins later. -/
def laterQ (on : Bool) (s by' : Int) : Int := if on = true ∧ 0 < by' then (if 1099511627776 < s + by' then 1099511627776 else s + by') else s

/-! ## The cubic law. -/
def c31 (d : Int) : Int := clamp d (-2147483648) 2147483648
/-! ## Configurations. -/
/-- Whether a configuration may be. -/
def cfgOk (a b c d e f h : Int) : Prop := 1 ≤ a ∧ a ≤ 9000 ∧ 4 ≤ b ∧ b ≤ 1048576 ∧ 2 ≤ c ∧ c ≤ b ∧ 1 ≤ d ∧ d ≤ 1000000 ∧ 1 ≤ e ∧ e ≤ f ∧ 1 ≤ f ∧ f ≤ 1099511627776 ∧ 1 ≤ h ∧ h ≤ 1000
noncomputable def chkQ (a b c d e f h : Int) : Int := @ite _ (cfgOk a b c d e f h) (Classical.propDecidable _) 0 210
theorem chkQ_ok {a b c d e f h : Int} (k : cfgOk a b c d e f h) : chkQ a b c d e f h = 0 := if_pos k
theorem chkQ_bad {a b c d e f h : Int} (k : ¬ cfgOk a b c d e f h) : chkQ a b c d e f h = 210 := if_neg k
/-- Whether a window is used. -/
def usedQ (a b c : Int) : Bool := if 0 ≤ a ∧ 0 ≤ b ∧ 0 ≤ c then decide (a * c ≤ b * 131072) else false
/-- Its first window. -/
noncomputable def firstQ (a b c d e f h : Int) : Int := if chkQ a b c d e f h = 0 then c * 65536 else 131072

end Go.Proofs.YtbpcfamjidjhjaaDoor.Sp
