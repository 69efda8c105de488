/- Plain arithmetic behind the contracts: words of 64 bits, numbers of 128 bits and a sign, quotients; no program in it. Conditions: as each theorem states. -/
import Derived.RowKit
import Derived.MapKept
import Derived.Laws.ResultCell
import Derived.Laws.Rows
import Derived.LoopN
import Derived.Deep.QuietTactic
import Derived.BigQuiet
import Derived.Laws.BitsAllLaws
import Derived.Laws.MathBits
import Derived.Lib.ItoaNum
set_option linter.unusedVariables false
namespace Go.Proofs.Ytghpecgpdhaibaa.Sp

/-- Results that are a row of cells, and a slot. -/
theorem results_row_tmp {P : Program} {fn : Func} {p u : Tmp} {ty : TypeId} (h : fn.results = #[.cell p ty, .tmp u]) (tmps : Array Value) (w : World) (g : Nat) (t : TypeId) (cs : Array Value) (fr : Nat × Nat) (d : TypeDesc)
    (hp : tmps.getD p undef = .pointer (some ⟨g, 0, none⟩)) (hg : w.heap[g]? = some (.cells cs t fr))
    (hu : P.underlying ty = some d) (hd : (match d with | .struct _ | .array _ _ => true | _ => false) = true) (hi : (P.info? ty).map (·.size) = some cs.size) :
    (results fn tmps).run P w = .ok (.tuple #[.agg cs, tmps.getD u undef]) w := by
  have hp' : tmps[p]?.getD undef = .pointer (some ⟨g, 0, none⟩) := by simpa using hp
  rw [results_cell_tmp h]
  simp [hp', asAddr, run_loadVar_row w g t ty cs fr d hg hu hd hi, Result.andThen]

/-- A word of 64 bits. -/
abbrev U (x : Int) : Prop := 0 ≤ x ∧ x < 18446744073709551616
/-- An int. -/
abbrev I (x : Int) : Prop := -9223372036854775808 ≤ x ∧ x ≤ 9223372036854775807
/-- A value that stands under a condition: the condition is not reckoned with. -/
noncomputable def need {α : Type} (p : Prop) (x : Option α) : Option α := @ite _ p (Classical.propDecidable p) x none
theorem need_pos {α : Type} {p : Prop} {x : Option α} (h : p) : need p x = x := by unfold need; rw [if_pos h]
theorem need_some {α : Type} {p : Prop} {x : Option α} {r : α} (h : need p x = some r) : p ∧ x = some r := by
  unfold need at h
  by_cases hp : p
  · rw [if_pos hp] at h; exact ⟨hp, h⟩
  · rw [if_neg hp] at h; cases h
/-- What a number of 128 bits, and its sign, is. -/
def val (n : Bool) (h l : Int) : Int := if n = true then -(h * 18446744073709551616 + l) else h * 18446744073709551616 + l
/-- The sign, and both words, of a number. -/
def encN (v : Int) : Bool := decide (v < 0)
def encH (v : Int) : Int := (v.natAbs : Int) / 18446744073709551616
def encL (v : Int) : Int := (v.natAbs : Int) % 18446744073709551616
/-- A number that 128 bits hold. -/
abbrev B (v : Int) : Prop := -340282366920938463463374607431768211456 < v ∧ v < 340282366920938463463374607431768211456

theorem u64w (x : Int) : IntKind.u64.wrap x = x % 18446744073709551616 := by
  simp [IntKind.wrap, IntKind.signed, IntKind.bits]
theorem u64w_in {x : Int} (h : U x) : IntKind.u64.wrap x = x := by rw [u64w]; omega
theorem wf_u64 {x : Int} : (Lit.int .u64 x).wf = true ↔ U x := by
  simp only [Lit.wf, Bool.and_eq_true, decide_eq_true_eq, show IntKind.u64.min = 0 from rfl, show IntKind.u64.max = 18446744073709551615 from rfl]
  omega
theorem wf_i64 {x : Int} : (Lit.int .i64 x).wf = true ↔ I x := by
  simp only [Lit.wf, Bool.and_eq_true, decide_eq_true_eq, show IntKind.i64.min = -9223372036854775808 from rfl, show IntKind.i64.max = 9223372036854775807 from rfl]

theorem wf_i32 {x : Int} : (Lit.int .i32 x).wf = true ↔ -2147483648 ≤ x ∧ x ≤ 2147483647 := by
  simp only [Lit.wf, Bool.and_eq_true, decide_eq_true_eq, show IntKind.i32.min = -2147483648 from rfl, show IntKind.i32.max = 2147483647 from rfl]
theorem wf_u32 {x : Int} : (Lit.int .u32 x).wf = true ↔ 0 ≤ x ∧ x ≤ 4294967295 := by
  simp only [Lit.wf, Bool.and_eq_true, decide_eq_true_eq, show IntKind.u32.min = 0 from rfl, show IntKind.u32.max = 4294967295 from rfl]
theorem wf_u16 {x : Int} : (Lit.int .u16 x).wf = true ↔ 0 ≤ x ∧ x ≤ 65535 := by
  simp only [Lit.wf, Bool.and_eq_true, decide_eq_true_eq, show IntKind.u16.min = 0 from rfl, show IntKind.u16.max = 65535 from rfl]
theorem wf_u8 {x : Int} : (Lit.int .u8 x).wf = true ↔ 0 ≤ x ∧ x ≤ 255 := by
  simp only [Lit.wf, Bool.and_eq_true, decide_eq_true_eq, show IntKind.u8.min = 0 from rfl, show IntKind.u8.max = 255 from rfl]
theorem bitLen_facts {Y : Nat} (h0 : Y ≠ 0) (h : Y < 18446744073709551616) : 0 < Lib.bitLen Y ∧ Lib.bitLen Y ≤ 64 ∧ Y < 2 ^ Lib.bitLen Y ∧ 2 ^ (Lib.bitLen Y - 1) ≤ Y := by
  obtain ⟨h1, h2, h3⟩ := Lib.bitLenAux_bounds 64 Y (by simpa using h) h0
  refine ⟨h1, ?_, h3, h2⟩
  have : 2 ^ (Lib.bitLenAux 64 Y - 1) < 2 ^ 64 := Nat.lt_of_le_of_lt h2 (by simpa using h)
  have := (Nat.pow_lt_pow_iff_right (by decide)).1 this
  show Lib.bitLenAux 64 Y ≤ 64
  omega
theorem val_B {n : Bool} {h l : Int} (h1 : U h) (h2 : U l) : B (val n h l) := by
  unfold val; cases n <;> simp <;> omega
theorem val_enc {v : Int} : val (encN v) (encH v) (encL v) = v := by
  unfold val encN encH encL
  by_cases h : v < 0 <;> simp [h] <;> omega
theorem encH_U {v : Int} (h : B v) : U (encH v) := by unfold encH; omega
theorem encL_U {v : Int} : U (encL v) := by unfold encL; omega
theorem enc_of {n : Bool} {h l : Int} (h1 : U h) (h2 : U l) (h3 : n = true → ¬ (h = 0 ∧ l = 0)) : encN (val n h l) = n ∧ encH (val n h l) = h ∧ encL (val n h l) = l := by
  unfold val encN encH encL
  cases n with
  | true => have := h3 rfl; simp; omega
  | false => simp; omega
theorem encN_neg {v : Int} (h : v < 0) : encN v = true := by simp [encN, h]
theorem encN_pos {v : Int} (h : 0 ≤ v) : encN v = false := by unfold encN; simp; omega
theorem enc_small {v : Int} (h : U v) : encN v = false ∧ encH v = 0 ∧ encL v = v := by
  unfold encN encH encL; simp; omega
theorem enc_neg {v : Int} (h : U v) (h0 : 0 < v) : encN (-v) = true ∧ encH (-v) = 0 ∧ encL (-v) = v := by
  unfold encN encH encL; simp; omega
theorem enc_inj {v w : Int} (h1 : encN v = encN w) (h2 : encH v = encH w) (h3 : encL v = encL w) : v = w := by
  have e1 := @val_enc v
  rw [h1, h2, h3, val_enc] at e1
  exact e1.symm

/-- Which is greater. -/
def cmpI (x y : Int) : Int := if x < y then -1 else if x = y then 0 else 1
/-- A number that is held, or its error. -/
def held (v : Int) : Option (Bool × Int × Int × Int) := if B v then some (encN v, encH v, encL v, 0) else some (false, 0, 0, 10)
/-- The nearest int. -/
def near (v : Int) : Int := if 9223372036854775807 < v then 9223372036854775807 else if v < -9223372036854775808 then -9223372036854775808 else v
theorem mul_sign (a b : Int) : ((decide (a < 0) != decide (b < 0)) = true → a * b ≤ 0) ∧ ((decide (a < 0) != decide (b < 0)) = false → 0 ≤ a * b) := by
  by_cases h1 : a < 0 <;> by_cases h2 : b < 0 <;> simp [h1, h2]
  · exact Int.mul_nonneg_of_nonpos_of_nonpos (by omega) (by omega)
  · exact Int.mul_nonpos_of_nonpos_of_nonneg (by omega) (by omega)
  · exact Int.mul_nonpos_of_nonneg_of_nonpos (by omega) (by omega)
  · exact Int.mul_nonneg (by omega) (by omega)
theorem mul_le {a b A C : Int} (h1 : 0 ≤ a) (h2 : a ≤ A) (h3 : 0 ≤ b) (h4 : b ≤ C) : 0 ≤ a * b ∧ a * b ≤ A * C :=
  ⟨Int.mul_nonneg h1 h3, Int.mul_le_mul h2 h4 h3 (by omega)⟩
theorem mulU {a b : Int} (h1 : U a) (h2 : U b) : a * b ≤ 340282366920938463426481119284349108225 := (mul_le (A := 18446744073709551615) (C := 18446744073709551615) h1.1 (by omega) h2.1 (by omega)).2
theorem mulI {a b : Int} (h1 : I a) (h2 : I b) : ((a * b).natAbs : Int) ≤ 85070591730234615865843651857942052864 := by
  rw [Int.natAbs_mul]
  have := (mul_le (a := (a.natAbs : Int)) (b := (b.natAbs : Int)) (A := 9223372036854775808) (C := 9223372036854775808) (by omega) (by omega) (by omega) (by omega)).2
  simpa using this

/-- A quotient from below, and what is left over, or the error of a divisor 0. -/
noncomputable def quo (v d : Int) : Option (Bool × Int × Int × Int × Int) := if d = 0 then some (false, 0, 0, 0, 20) else some (encN (v / d), encH (v / d), encL (v / d), v % d, 0)
theorem quo_pos {v d : Int} (h : d ≠ 0) : quo v d = some (encN (v / d), encH (v / d), encL (v / d), v % d, 0) := by unfold quo; rw [if_neg h]
theorem held_in {v : Int} (h : B v) : held v = some (encN v, encH v, encL v, 0) := by unfold held; rw [if_pos h]
theorem held_out {v : Int} (h : ¬ B v) : held v = some (false, 0, 0, 10) := by unfold held; rw [if_neg h]
theorem two_div {h l d : Int} (hp : 0 < d) : (h * 18446744073709551616 + l) / d = h / d * 18446744073709551616 + (h % d * 18446744073709551616 + l) / d ∧ (h * 18446744073709551616 + l) % d = (h % d * 18446744073709551616 + l) % d := by
  have e := Int.emod_add_ediv_mul h d
  generalize h / d = q at *
  generalize h % d = r at *
  have e2 : h * 18446744073709551616 + l = (r * 18446744073709551616 + l) + (q * 18446744073709551616) * d := by
    rw [← e, Int.add_mul, Int.mul_right_comm]; omega
  rw [e2, Int.add_mul_ediv_right _ _ (by omega), Int.add_mul_emod_self_right]
  omega
theorem neg_div {X d : Int} (hp : 0 < d) (h : X % d = 0) : -X / d = -(X / d) := Int.neg_ediv_of_dvd (Int.dvd_of_emod_eq_zero h)
theorem neg_mod {X d : Int} (hp : 0 < d) (h : X % d = 0) : -X % d = 0 := Int.emod_eq_zero_of_dvd ((Int.dvd_neg).2 (Int.dvd_of_emod_eq_zero h))
theorem neg_div' {X d : Int} (hp : 0 < d) (h : X % d ≠ 0) : -X / d = -(X / d) + -1 := by
  have a := Int.emod_nonneg X (show d ≠ 0 by omega)
  have b := Int.emod_lt_of_pos X hp
  have c := Int.emod_add_ediv_mul X d
  have e : -X = (d - X % d) + (-(X / d) + -1) * d := by rw [Int.add_mul, Int.neg_mul]; omega
  rw [e, Int.add_mul_ediv_right _ _ (by omega), Int.ediv_eq_zero_of_lt (by omega) (by omega)]
  omega
theorem neg_mod' {X d : Int} (hp : 0 < d) (h : X % d ≠ 0) : -X % d = d - X % d := by
  have a := Int.emod_nonneg X (show d ≠ 0 by omega)
  have b := Int.emod_lt_of_pos X hp
  have c := Int.emod_add_ediv_mul X d
  have e : -X = (d - X % d) + (-(X / d) + -1) * d := by rw [Int.add_mul, Int.neg_mul]; omega
  have e2 : -X % d = (d - X % d) % d := by rw [e, Int.add_mul_emod_self_right]
  rw [e2, Int.emod_eq_of_lt (by omega) (by omega)]
/-! Which numbers two are, told of their parts. -/
theorem enc_beq {v w : Int} : (encN v == encN w && (encH v == encH w && (encL v == encL w))) = decide (v = w) := by
  by_cases h : v = w
  · subst h; simp
  · rw [decide_eq_false h]
    apply Bool.eq_false_iff.2
    intro hx; simp at hx; exact h (enc_inj hx.1 hx.2.1 hx.2.2)
theorem enc_lit {v H L : Int} (h1 : U H) (h2 : U L) : (!encN v && (encH v == H && (encL v == L))) = decide (v = H * 18446744073709551616 + L) := by
  by_cases h : v = H * 18446744073709551616 + L
  · obtain ⟨e1, e2, e3⟩ := enc_of (n := false) h1 h2 (by simp)
    have hv : val false H L = v := by rw [h]; unfold val; simp
    rw [hv] at e1 e2 e3
    rw [e1, e2, e3, h]; simp
  · rw [decide_eq_false h]
    apply Bool.eq_false_iff.2
    intro hx; simp at hx
    obtain ⟨a, b, c⟩ := hx
    apply h
    have := @val_enc v
    rw [a, b, c] at this
    rw [← this]; unfold val; simp
theorem enc_neg_lit {v H L : Int} (h1 : U H) (h2 : U L) (h3 : ¬ (H = 0 ∧ L = 0)) : (encN v && (encH v == H && (encL v == L))) = decide (v = -(H * 18446744073709551616 + L)) := by
  by_cases h : v = -(H * 18446744073709551616 + L)
  · obtain ⟨e1, e2, e3⟩ := enc_of (n := true) h1 h2 (fun _ => h3)
    have hv : val true H L = v := by rw [h]; unfold val; simp
    rw [hv] at e1 e2 e3
    rw [e1, e2, e3, h]; simp
  · rw [decide_eq_false h]
    apply Bool.eq_false_iff.2
    intro hx; simp at hx
    obtain ⟨a, b, c⟩ := hx
    apply h
    have := @val_enc v
    rw [a, b, c] at this
    rw [← this]; unfold val; simp
theorem near_I (v : Int) : I (near v) := by unfold near; split <;> (try split) <;> omega
theorem near_in {v : Int} (h : I v) : near v = v := by unfold near; rw [if_neg (by omega), if_neg (by omega)]
theorem I_B {v : Int} (h : I v) : B v := by omega

theorem val_f {h l : Int} : val false h l = h * 18446744073709551616 + l := by unfold val; simp
theorem val_t {h l : Int} : val true h l = -(h * 18446744073709551616 + l) := by unfold val; simp
theorem cmpI_lt {x y : Int} (h : x < y) : cmpI x y = -1 := by unfold cmpI; rw [if_pos h]
theorem cmpI_eq {x y : Int} (h : x = y) : cmpI x y = 0 := by unfold cmpI; rw [if_neg (by omega), if_pos h]
theorem cmpI_gt {x y : Int} (h : y < x) : cmpI x y = 1 := by unfold cmpI; rw [if_neg (by omega), if_neg (by omega)]
theorem near_hi {v : Int} (h : 9223372036854775807 < v) : near v = 9223372036854775807 := by unfold near; rw [if_pos h]
theorem near_lo {v : Int} (h : v < -9223372036854775808) : near v = -9223372036854775808 := by unfold near; rw [if_neg (by omega), if_pos h]
theorem quo_zero {v : Int} : quo v 0 = some (false, 0, 0, 0, 20) := by unfold quo; rw [if_pos rfl]

theorem div_B {v d : Int} (h : B v) (hp : 0 < d) : B (v / d) := by
  have a := Int.emod_nonneg v (show d ≠ 0 by omega)
  have b := Int.emod_lt_of_pos v hp
  have c := Int.emod_add_ediv_mul v d
  by_cases hv : 0 ≤ v
  · have := Int.ediv_nonneg hv (show 0 ≤ d by omega)
    have := Int.ediv_le_self d hv
    omega
  · have h1 : v / d < 0 := Int.ediv_neg_of_neg_of_pos (by omega) hp
    have h2 : v ≤ v / d := by
      rw [Int.le_ediv_iff_mul_le hp]
      have := Int.mul_le_mul_of_nonpos_left (a := v) (b := d) (c := 1) (by omega) (by omega)
      omega
    omega

theorem enc_bne {v w : Int} : (!(encN v == encN w) || (!(encH v == encH w) || (!(encL v == encL w)))) = !decide (v = w) := by
  rw [← enc_beq]; cases (encN v == encN w) <;> cases (encH v == encH w) <;> cases (encL v == encL w) <;> rfl
/-- An int, or the error of what is too great. -/
def fit (q : Int) : Option (Int × Int) := if I q then some (q, 0) else some (0, 10)
/-- Parts of products: from below, from above, the nearest. -/
def floorQ (a b c : Int) : Option (Int × Int) := if c < 1 then some (0, 20) else fit (a * b / c)
def ceilQ (a b c : Int) : Option (Int × Int) := if c < 1 then some (0, 20) else fit (-(-(a * b) / c))
def nearQ (a b c : Int) : Option (Int × Int) := if c < 1 then some (0, 20) else fit ((a * b + c / 2) / c)
theorem fit_in {q : Int} (h : I q) : fit q = some (q, 0) := by unfold fit; rw [if_pos h]
theorem fit_out {q : Int} (h : ¬ I q) : fit q = some (0, 10) := by unfold fit; rw [if_neg h]
theorem quoI {p c : Int} (h : (p.natAbs : Int) ≤ 85070591730234615865843651857942052864) (hp : 0 < c) : -85070591730234615865843651857942052864 ≤ p / c ∧ p / c ≤ 85070591730234615865843651857942052864 := by
  by_cases hv : 0 ≤ p
  · have := Int.ediv_nonneg hv (show 0 ≤ c by omega)
    have := Int.ediv_le_self c hv
    omega
  · have h1 : p / c < 0 := Int.ediv_neg_of_neg_of_pos (by omega) hp
    have h2 : p ≤ p / c := by
      rw [Int.le_ediv_iff_mul_le hp]
      have := Int.mul_le_mul_of_nonpos_left (a := p) (b := c) (c := 1) (by omega) (by omega)
      omega
    omega

theorem w64 {x : Int} (h : I x) : RowKit.wrap64 x = x := by unfold RowKit.wrap64; omega
theorem floorQ_in {a b c : Int} (hc : 0 < c) (h : I (a * b / c)) : floorQ a b c = some (a * b / c, 0) := by unfold floorQ; rw [if_neg (by omega), fit_in h]
theorem ceilQ_in {a b c : Int} (hc : 0 < c) (h : I (-(-(a * b) / c))) : ceilQ a b c = some (-(-(a * b) / c), 0) := by unfold ceilQ; rw [if_neg (by omega), fit_in h]

/-- A digit of 32 bits. -/
abbrev Dg (x : Int) : Prop := 0 ≤ x ∧ x < 4294967296
/-- A number between two. -/
def clamp (a low high : Int) : Int := if a < low then low else if high < a then high else a
/-- A window that is given; what is left of one; what some leave. -/
def win (n : Int) : Int := clamp n 131072 68719476736
def leastW (w : Int) : Int := clamp (w * 7 / 10) 131072 68719476736
def manyW : Nat → Int → Int
  | 0, w => w
  | k + 1, w => manyW k (if 131072 < w then leastW w else w)
/-- Up to where a window grows next. -/
def fastQ (last now : Int) : Int := if now ≥ last then now else (if now < 0 then 0 else now) * 17 / 20
/-- A window of the old law behind what was told. -/
def stepQ (est prior window told : Int) : Int :=
  clamp (clamp est 0 68719476736 + clamp told 0 68719476736 * (if est < prior then 9 else 1) * 65536 / (clamp window 65536 68719476736 * (if est < prior then 17 else 1))) 0 68719476736
theorem clamp_bd {a low high : Int} (h : low ≤ high) : low ≤ clamp a low high ∧ clamp a low high ≤ high := by unfold clamp; split <;> (try split) <;> omega
theorem clamp_in {a low high : Int} (h1 : low ≤ a) (h2 : a ≤ high) : clamp a low high = a := by unfold clamp; rw [if_neg (by omega), if_neg (by omega)]
theorem win_bd (n : Int) : 131072 ≤ win n ∧ win n ≤ 68719476736 := clamp_bd (by omega)
theorem leastW_bd (n : Int) : 131072 ≤ leastW n ∧ leastW n ≤ 68719476736 := clamp_bd (by omega)
/-- Windows of the old law behind some. -/
def stepsQ (est prior window : Int) (l : List Int) : Int := l.foldl (fun e n => stepQ e prior window n) est
theorem stepQ_bd (a b c d : Int) : 0 ≤ stepQ a b c d ∧ stepQ a b c d ≤ 68719476736 := clamp_bd (by omega)
theorem leastW_le {w : Int} (h : 131072 ≤ w) : leastW w ≤ w := by unfold leastW clamp; split <;> (try split) <;> omega
theorem leastW_mono {v w : Int} (h : v ≤ w) : leastW v ≤ leastW w := by unfold leastW clamp; split <;> split <;> (try split) <;> (try split) <;> omega
theorem manyS_bd {w : Int} (h1 : 131072 ≤ w) (h2 : w ≤ 68719476736) : 131072 ≤ (if 131072 < w then leastW w else w) ∧ (if 131072 < w then leastW w else w) ≤ w := by
  have := leastW_bd w; have := leastW_le h1; split <;> omega
theorem manyW_bd : ∀ (k : Nat) {w : Int}, 131072 ≤ w → w ≤ 68719476736 → 131072 ≤ manyW k w ∧ manyW k w ≤ w
  | 0, w, h1, h2 => ⟨h1, Int.le_refl _⟩
  | k + 1, w, h1, h2 => by
    have hs := manyS_bd h1 h2
    have := manyW_bd k hs.1 (by omega)
    unfold manyW; omega
theorem manyW_add : ∀ (i j : Nat) (w : Int), manyW (i + j) w = manyW j (manyW i w)
  | 0, j, w => by rw [Nat.zero_add]; rfl
  | i + 1, j, w => by rw [show i + 1 + j = (i + j) + 1 by omega]; show manyW (i + j) _ = manyW j (manyW i _); exact manyW_add i j _
theorem manyW_two : ∀ (k : Nat), manyW k 131072 = 131072
  | 0 => rfl
  | k + 1 => by unfold manyW; rw [if_neg (by omega)]; exact manyW_two k
theorem manyW_mono : ∀ (k : Nat) {v w : Int}, 131072 ≤ v → v ≤ w → manyW k v ≤ manyW k w
  | 0, _, _, _, h => h
  | k + 1, v, w, h1, h => by
    have b1 := leastW_bd v
    have b2 := leastW_bd w
    have b3 := leastW_mono h
    unfold manyW
    refine manyW_mono k ?_ ?_ <;> (split <;> (try split) <;> omega)
theorem manyW_fifty : manyW 50 68719476736 = 131072 := by simp [manyW, leastW, clamp]
theorem manyW_end {w : Int} (h1 : 131072 ≤ w) (h2 : w ≤ 68719476736) {k : Nat} (hk : 50 ≤ k) : manyW k w = 131072 := by
  obtain ⟨j, rfl⟩ : ∃ j, k = 50 + j := ⟨k - 50, by omega⟩
  have b := manyW_bd 50 h1 h2
  have m := manyW_mono 50 h1 h2
  rw [manyW_fifty] at m
  rw [manyW_add, show manyW 50 w = 131072 by omega, manyW_two]
theorem ediv_two (x y : Int) {D : Int} (hD : 0 < D) : x / D + y / D ≤ (x + y) / D ∧ (x + y) / D ≤ x / D + y / D + 1 := by
  have a1 := Int.mul_ediv_add_emod x D
  have a2 := Int.mul_ediv_add_emod y D
  have b1 := Int.emod_nonneg x (show D ≠ 0 by omega)
  have b2 := Int.emod_nonneg y (show D ≠ 0 by omega)
  have c1 := Int.emod_lt_of_pos x hD
  have c2 := Int.emod_lt_of_pos y hD
  constructor
  · rw [Int.le_ediv_iff_mul_le hD, Int.add_mul, Int.mul_comm, Int.mul_comm (y / D)]
    omega
  · have : (x + y) / D < x / D + y / D + 2 := by
      rw [Int.ediv_lt_iff_lt_mul hD, Int.add_mul, Int.add_mul, Int.mul_comm (x / D), Int.mul_comm (y / D)]
      omega
    omega
/-- What is told leads on by so much. -/
def gainQ (est prior window told : Int) : Int := clamp told 0 68719476736 * (if est < prior then 9 else 1) * 65536 / (clamp window 65536 68719476736 * (if est < prior then 17 else 1))
theorem stepQ_gain (e p w t : Int) : stepQ e p w t = clamp (clamp e 0 68719476736 + gainQ e p w t) 0 68719476736 := rfl
theorem clamp_mono {a b low high : Int} (h : a ≤ b) (hl : low ≤ high) : clamp a low high ≤ clamp b low high := by unfold clamp; split <;> split <;> (try split) <;> (try split) <;> omega
theorem den_pos (w : Int) (c : Prop) [Decidable c] : 0 < clamp w 65536 68719476736 * (if c then 17 else 1) := by
  have := clamp_bd (a := w) (low := 65536) (high := 68719476736) (by omega)
  apply Int.mul_pos (by omega); split <;> omega
theorem gainQ_pos (e p w t : Int) : 0 ≤ gainQ e p w t := by
  have := clamp_bd (a := t) (low := 0) (high := 68719476736) (by omega)
  unfold gainQ
  apply Int.ediv_nonneg
  · apply Int.mul_nonneg _ (by omega); apply Int.mul_nonneg (by omega); split <;> omega
  · exact Int.le_of_lt (den_pos w _)
theorem gainQ_told {e p w s t : Int} (h : s ≤ t) : gainQ e p w s ≤ gainQ e p w t := by
  have := clamp_mono (low := 0) (high := 68719476736) h (by omega)
  unfold gainQ
  apply Int.ediv_le_ediv (den_pos w _)
  apply Int.mul_le_mul_of_nonneg_right _ (by omega)
  apply Int.mul_le_mul_of_nonneg_right this
  split <;> omega
theorem ediv_anti {n d d' : Int} (hn : 0 ≤ n) (hd : 0 < d) (h : d ≤ d') : n / d' ≤ n / d := by
  rw [Int.le_ediv_iff_mul_le hd]
  have h1 : 0 ≤ n / d' := Int.ediv_nonneg hn (by omega)
  have h2 : n / d' * d' ≤ n := Int.ediv_mul_le n (by omega)
  have h3 := Int.mul_le_mul_of_nonneg_left h h1
  omega
theorem gainQ_window {e p v w t : Int} (h : v ≤ w) : gainQ e p w t ≤ gainQ e p v t := by
  have := clamp_mono (low := 65536) (high := 68719476736) h (by omega)
  have h0 := clamp_bd (a := t) (low := 0) (high := 68719476736) (by omega)
  unfold gainQ
  apply ediv_anti _ (den_pos v _)
  · apply Int.mul_le_mul_of_nonneg_right this; split <;> omega
  · apply Int.mul_nonneg _ (by omega); apply Int.mul_nonneg (by omega); split <;> omega
theorem gainQ_le {e p w t : Int} (h : 0 ≤ t) : gainQ e p w t ≤ 9 * t := by
  have h0 := clamp_bd (a := t) (low := 0) (high := 68719476736) (by omega)
  have h1 : clamp t 0 68719476736 ≤ t := by unfold clamp; split <;> (try split) <;> omega
  have h2 := clamp_bd (a := w) (low := 65536) (high := 68719476736) (by omega)
  unfold gainQ
  generalize clamp t 0 68719476736 = z at *
  generalize clamp w 65536 68719476736 = y at *
  have key : ∀ a b : Int, 1 ≤ a → a ≤ 9 → 1 ≤ b → z * a * 65536 / (y * b) ≤ 9 * t := by
    intro a b ha1 ha2 hb
    have m1 : 65536 * 1 ≤ y * b := Int.mul_le_mul (by omega) hb (by omega) (by omega)
    have m2 : 0 ≤ z * a := Int.mul_nonneg (by omega) (by omega)
    have m3 : z * a ≤ t * 9 := Int.mul_le_mul h1 ha2 (by omega) (by omega)
    generalize y * b = d at *
    generalize z * a = u at *
    have : u * 65536 / d ≤ u := by
      apply Int.ediv_le_of_le_mul (by omega)
      exact Int.mul_le_mul_of_nonneg_left (by omega) m2
    omega
  by_cases c : e < p
  · simp only [if_pos c]; exact key 9 17 (by omega) (by omega) (by omega)
  · simp only [if_neg c]; exact key 1 1 (by omega) (by omega) (by omega)
theorem stepQ_ge {e p w t : Int} (h1 : 0 ≤ e) (h2 : e ≤ 68719476736) : e ≤ stepQ e p w t := by
  have := gainQ_pos e p w t
  rw [stepQ_gain, clamp_in h1 h2]
  unfold clamp; split <;> (try split) <;> omega
theorem stepQ_told {e p w s t : Int} (h : s ≤ t) : stepQ e p w s ≤ stepQ e p w t := by
  have := gainQ_told (e := e) (p := p) (w := w) h
  rw [stepQ_gain, stepQ_gain]; exact clamp_mono (by omega) (by omega)
theorem stepQ_window {e p v w t : Int} (h : v ≤ w) : stepQ e p w t ≤ stepQ e p v t := by
  have := gainQ_window (e := e) (p := p) (t := t) h
  rw [stepQ_gain, stepQ_gain]; exact clamp_mono (by omega) (by omega)
theorem stepQ_plain {e p w t : Int} (h1 : 0 ≤ e) (ht : 0 ≤ t) (h : e + 9 * t ≤ 68719476736) : stepQ e p w t = e + gainQ e p w t := by
  have a := gainQ_pos e p w t
  have b := gainQ_le (e := e) (p := p) (w := w) ht
  rw [stepQ_gain, clamp_in h1 (by omega), clamp_in (by omega) (by omega)]
theorem gainQ_two {e f p w a b : Int} (ha : 0 ≤ a) (hb : 0 ≤ b) (h : a + b ≤ 68719476736) (hs : e < p ↔ f < p) : gainQ e p w a + gainQ f p w b ≤ gainQ e p w (a + b) ∧ gainQ e p w (a + b) ≤ gainQ e p w a + gainQ f p w b + 1 := by
  have h2 := clamp_bd (a := w) (low := 65536) (high := 68719476736) (by omega)
  have key : ∀ c d : Int, 1 ≤ d → a * c * 65536 / (clamp w 65536 68719476736 * d) + b * c * 65536 / (clamp w 65536 68719476736 * d) ≤ (a + b) * c * 65536 / (clamp w 65536 68719476736 * d) ∧ (a + b) * c * 65536 / (clamp w 65536 68719476736 * d) ≤ a * c * 65536 / (clamp w 65536 68719476736 * d) + b * c * 65536 / (clamp w 65536 68719476736 * d) + 1 := by
    intro c d hd
    have hD : 0 < clamp w 65536 68719476736 * d := Int.mul_pos (by omega) (by omega)
    generalize clamp w 65536 68719476736 * d = D at *
    have e1 : (a + b) * c * 65536 = a * c * 65536 + b * c * 65536 := by rw [Int.add_mul, Int.add_mul]
    rw [e1]
    generalize a * c * 65536 = x
    generalize b * c * 65536 = y
    exact ediv_two x y hD
  unfold gainQ
  rw [clamp_in ha (by omega), clamp_in hb (by omega), clamp_in (by omega) h]
  by_cases c : e < p
  · rw [if_pos c, if_pos c, if_pos (hs.1 c), if_pos (hs.1 c)]; exact key 9 17 (by omega)
  · rw [if_neg c, if_neg c, if_neg (fun k => c (hs.2 k)), if_neg (fun k => c (hs.2 k))]; exact key 1 1 (by omega)
theorem stepQ_none {e p w : Int} (h1 : 0 ≤ e) (h2 : e ≤ 68719476736) : stepQ e p w 0 = e := by
  have : gainQ e p w 0 = 0 := by unfold gainQ; rw [clamp_in (by omega) (by omega)]; simp
  rw [stepQ_gain, this, clamp_in h1 h2, Int.add_zero, clamp_in h1 h2]
theorem stepsQ_bd (p w : Int) : ∀ (l : List Int) {e : Int}, 0 ≤ e → e ≤ 68719476736 → e ≤ stepsQ e p w l ∧ stepsQ e p w l ≤ 68719476736
  | [], _, h1, h2 => ⟨Int.le_refl _, h2⟩
  | x :: l, e, h1, h2 => by
    have a := stepQ_ge (p := p) (w := w) (t := x) h1 h2
    have b := stepQ_bd e p w x
    have := stepsQ_bd p w l b.1 b.2
    exact ⟨Int.le_trans a this.1, this.2⟩
theorem stepsQ_parts (e p w : Int) (l : List Int) (k : Nat) : stepsQ (stepsQ e p w (l.take k)) p w (l.drop k) = stepsQ e p w l := by
  unfold stepsQ; rw [← List.foldl_append, List.take_append_drop]

theorem times_fits {a b : Int} (ha : I a) (hb : I b) (c : I (a * b)) : ¬ (a = -1 ∧ b = -9223372036854775808) ∧ ¬ (b = -1 ∧ a = -9223372036854775808) ∧ (b ≠ 0 → RowKit.wrap64 (Int.tdiv (RowKit.wrap64 (a * b)) b) = a) := by
  refine ⟨?_, ?_, ?_⟩
  · rintro ⟨rfl, rfl⟩; omega
  · rintro ⟨rfl, rfl⟩; omega
  · intro h; rw [w64 c, Int.mul_tdiv_cancel _ h, w64 ha]
theorem times_over {a b : Int} (ha : I a) (hb : I b) (c : ¬ I (a * b)) (h1 : ¬ (a = -1 ∧ b = -9223372036854775808)) (h2 : ¬ (b = -1 ∧ a = -9223372036854775808)) : b ≠ 0 ∧ RowKit.wrap64 (Int.tdiv (RowKit.wrap64 (a * b)) b) ≠ a := by
  have h0 : b ≠ 0 := by rintro rfl; omega
  refine ⟨h0, fun h => ?_⟩
  by_cases hm : b = -1
  · subst hm; omega
  have hn : I (RowKit.wrap64 (a * b)) := by unfold RowKit.wrap64; omega
  obtain ⟨k, hk⟩ : ∃ k : Int, RowKit.wrap64 (a * b) = a * b + 18446744073709551616 * k := ⟨-((a * b + 9223372036854775808) / 18446744073709551616), by unfold RowKit.wrap64; omega⟩
  generalize RowKit.wrap64 (a * b) = n at *
  have e := Int.mul_tdiv_add_tmod n b
  have l1 : (Int.tmod n b).natAbs < b.natAbs := by
    rw [Int.natAbs_tmod]; exact Nat.mod_lt _ (by omega)
  have l2 : (Int.tdiv n b).natAbs ≤ n.natAbs := by rw [Int.natAbs_tdiv]; exact Nat.div_le_self _ _
  have l3 : I (Int.tdiv n b) := by
    by_cases hp : n = -9223372036854775808 ∧ b = 1
    · obtain ⟨rfl, rfl⟩ := hp; rw [Int.tdiv_one]; omega
    by_cases hq : 0 ≤ Int.tdiv n b
    · by_cases hz : n = -9223372036854775808
      · have : (Int.tdiv n b).natAbs ≤ 4611686018427387904 := by
          rw [Int.natAbs_tdiv, hz]
          show 9223372036854775808 / b.natAbs ≤ 4611686018427387904
          have : 2 ≤ b.natAbs := by omega
          apply Nat.div_le_of_le_mul; omega
        omega
      · omega
    · omega
  rw [w64 l3] at h
  rw [h, Int.mul_comm] at e
  omega
theorem near_mul_lo {a b : Int} (c : ¬ I (a * b)) (h : a * b ≤ 0) : near (a * b) = -9223372036854775808 := by unfold near; rw [if_neg (by omega), if_pos (by omega)]
theorem plus_whole {h l i k : Int} (h1 : U h) (h2 : U l) (h3 : U i) (h4 : U k) {o0 o1 o2 o3 c : Int}
    (e0 : o0 = (l % 4294967296 + k % 4294967296) % 4294967296)
    (e1 : o1 = (l / 4294967296 + k / 4294967296 + (l % 4294967296 + k % 4294967296) / 4294967296) % 4294967296)
    (e2 : o2 = (h % 4294967296 + i % 4294967296 + (l / 4294967296 + k / 4294967296 + (l % 4294967296 + k % 4294967296) / 4294967296) / 4294967296) % 4294967296)
    (e3 : o3 = (h / 4294967296 + i / 4294967296 + (h % 4294967296 + i % 4294967296 + (l / 4294967296 + k / 4294967296 + (l % 4294967296 + k % 4294967296) / 4294967296) / 4294967296) / 4294967296) % 4294967296)
    (e4 : c = (h / 4294967296 + i / 4294967296 + (h % 4294967296 + i % 4294967296 + (l / 4294967296 + k / 4294967296 + (l % 4294967296 + k % 4294967296) / 4294967296) / 4294967296) / 4294967296) / 4294967296) :
    (0 ≤ o0 ∧ o0 < 4294967296) ∧ (0 ≤ o1 ∧ o1 < 4294967296) ∧ (0 ≤ o2 ∧ o2 < 4294967296) ∧ (0 ≤ o3 ∧ o3 < 4294967296) ∧ 0 ≤ c ∧ c ≤ 1 ∧
    (h * 18446744073709551616 + l) + (i * 18446744073709551616 + k) = c * 340282366920938463463374607431768211456 + (o3 * 4294967296 + o2) * 18446744073709551616 + (o1 * 4294967296 + o0) := by
  generalize hc0 : (l % 4294967296 + k % 4294967296) / 4294967296 = c0 at *
  generalize hs1 : (l / 4294967296 + k / 4294967296 + c0) = s1 at *
  generalize hc1 : s1 / 4294967296 = c1 at *
  generalize hs2 : (h % 4294967296 + i % 4294967296 + c1) = s2 at *
  generalize hc2 : s2 / 4294967296 = c2 at *
  generalize hs3 : (h / 4294967296 + i / 4294967296 + c2) = s3 at *
  have a0 : l % 4294967296 + k % 4294967296 = c0 * 4294967296 + o0 ∧ 0 ≤ o0 ∧ o0 < 4294967296 ∧ 0 ≤ c0 ∧ c0 ≤ 1 := by omega
  have a1 : s1 = c1 * 4294967296 + o1 ∧ 0 ≤ o1 ∧ o1 < 4294967296 ∧ 0 ≤ c1 ∧ c1 ≤ 1 := by omega
  have a2 : s2 = c2 * 4294967296 + o2 ∧ 0 ≤ o2 ∧ o2 < 4294967296 ∧ 0 ≤ c2 ∧ c2 ≤ 1 := by omega
  have a3 : s3 = c * 4294967296 + o3 ∧ 0 ≤ o3 ∧ o3 < 4294967296 ∧ 0 ≤ c ∧ c ≤ 1 := by omega
  clear e0 e1 e2 e3 e4 hc0 hc1 hc2
  omega
theorem minus_whole {h l i k : Int} (h1 : U h) (h2 : U l) (h3 : U i) (h4 : U k) (hle : i * 18446744073709551616 + k ≤ h * 18446744073709551616 + l) {o0 o1 o2 o3 : Int}
    (e0 : o0 = (4294967296 + l % 4294967296 - k % 4294967296) % 4294967296)
    (e1 : o1 = (4294967296 + l / 4294967296 - k / 4294967296 - (1 - (4294967296 + l % 4294967296 - k % 4294967296) / 4294967296)) % 4294967296)
    (e2 : o2 = (4294967296 + h % 4294967296 - i % 4294967296 - (1 - (4294967296 + l / 4294967296 - k / 4294967296 - (1 - (4294967296 + l % 4294967296 - k % 4294967296) / 4294967296)) / 4294967296)) % 4294967296)
    (e3 : o3 = (4294967296 + h / 4294967296 - i / 4294967296 - (1 - (4294967296 + h % 4294967296 - i % 4294967296 - (1 - (4294967296 + l / 4294967296 - k / 4294967296 - (1 - (4294967296 + l % 4294967296 - k % 4294967296) / 4294967296)) / 4294967296)) / 4294967296)) % 4294967296) :
    (0 ≤ o0 ∧ o0 < 4294967296) ∧ (0 ≤ o1 ∧ o1 < 4294967296) ∧ (0 ≤ o2 ∧ o2 < 4294967296) ∧ (0 ≤ o3 ∧ o3 < 4294967296) ∧
    (h * 18446744073709551616 + l) - (i * 18446744073709551616 + k) = (o3 * 4294967296 + o2) * 18446744073709551616 + (o1 * 4294967296 + o0) := by
  generalize hs0 : 4294967296 + l % 4294967296 - k % 4294967296 = s0 at *
  generalize hc0 : s0 / 4294967296 = c0 at *
  generalize hs1 : (4294967296 + l / 4294967296 - k / 4294967296 - (1 - c0)) = s1 at *
  generalize hc1 : s1 / 4294967296 = c1 at *
  generalize hs2 : (4294967296 + h % 4294967296 - i % 4294967296 - (1 - c1)) = s2 at *
  generalize hc2 : s2 / 4294967296 = c2 at *
  generalize hs3 : (4294967296 + h / 4294967296 - i / 4294967296 - (1 - c2)) = s3 at *
  have a0 : s0 = c0 * 4294967296 + o0 ∧ 0 ≤ o0 ∧ o0 < 4294967296 ∧ 0 ≤ c0 ∧ c0 ≤ 1 := by omega
  have a1 : s1 = c1 * 4294967296 + o1 ∧ 0 ≤ o1 ∧ o1 < 4294967296 ∧ 0 ≤ c1 ∧ c1 ≤ 1 := by omega
  have a2 : s2 = c2 * 4294967296 + o2 ∧ 0 ≤ o2 ∧ o2 < 4294967296 ∧ 0 ≤ c2 ∧ c2 ≤ 1 := by omega
  have a3 : ∃ c3, s3 = c3 * 4294967296 + o3 ∧ 0 ≤ o3 ∧ o3 < 4294967296 ∧ 0 ≤ c3 ∧ c3 ≤ 1 := ⟨s3 / 4294967296, by omega⟩
  obtain ⟨c3, a3⟩ := a3
  clear e0 e1 e2 e3 hc0 hc1 hc2
  omega

/-! What the functions over numbers answer, each under what it needs. -/
noncomputable def addF (n : Bool) (h l : Int) (m : Bool) (i k : Int) : Option (Bool × Int × Int × Int) := need (U h ∧ U l ∧ U i ∧ U k) (held (val n h l + val m i k))
theorem addF_eq {n m : Bool} {h l i k : Int} (h1 : U h) (h2 : U l) (h3 : U i) (h4 : U k) : addF n h l m i k = held (val n h l + val m i k) := need_pos ⟨h1, h2, h3, h4⟩
theorem addF_enc {v w : Int} (h1 : B v) (h2 : B w) : addF (encN v) (encH v) (encL v) (encN w) (encH w) (encL w) = held (v + w) := by
  rw [addF_eq (encH_U h1) encL_U (encH_U h2) encL_U, val_enc, val_enc]
noncomputable def negF (n : Bool) (h l : Int) : Option (Bool × Int × Int) := need (U h ∧ U l) (some (encN (-val n h l), encH (-val n h l), encL (-val n h l)))
theorem negF_eq {n : Bool} {h l : Int} (h1 : U h) (h2 : U l) : negF n h l = some (encN (-val n h l), encH (-val n h l), encL (-val n h l)) := need_pos ⟨h1, h2⟩
theorem negF_enc {v : Int} (h : B v) : negF (encN v) (encH v) (encL v) = some (encN (-v), encH (-v), encL (-v)) := by rw [negF_eq (encH_U h) encL_U, val_enc]
noncomputable def cmpF (n : Bool) (h l : Int) (m : Bool) (i k : Int) : Option Int := need (U h ∧ U l ∧ U i ∧ U k) (some (cmpI (val n h l) (val m i k)))
theorem cmpF_eq {n m : Bool} {h l i k : Int} (h1 : U h) (h2 : U l) (h3 : U i) (h4 : U k) : cmpF n h l m i k = some (cmpI (val n h l) (val m i k)) := need_pos ⟨h1, h2, h3, h4⟩
theorem cmpF_enc {v w : Int} (h1 : B v) (h2 : B w) : cmpF (encN v) (encH v) (encL v) (encN w) (encH w) (encL w) = some (cmpI v w) := by
  rw [cmpF_eq (encH_U h1) encL_U (encH_U h2) encL_U, val_enc, val_enc]
noncomputable def scaleF (n : Bool) (h l k : Int) : Option (Bool × Int × Int × Int) := need (U h ∧ U l ∧ U k) (held (val n h l * k))
theorem scaleF_eq {n : Bool} {h l k : Int} (h1 : U h) (h2 : U l) (h3 : U k) : scaleF n h l k = held (val n h l * k) := need_pos ⟨h1, h2, h3⟩
theorem scaleF_enc {v k : Int} (h : B v) (h3 : U k) : scaleF (encN v) (encH v) (encL v) k = held (v * k) := by rw [scaleF_eq (encH_U h) encL_U h3, val_enc]
noncomputable def mulF (a b : Int) : Option (Bool × Int × Int) := need (I a ∧ I b) (some (encN (a * b), encH (a * b), encL (a * b)))
theorem mulF_eq {a b : Int} (h1 : I a) (h2 : I b) : mulF a b = some (encN (a * b), encH (a * b), encL (a * b)) := need_pos ⟨h1, h2⟩
noncomputable def ofF (a : Int) : Option (Bool × Int × Int) := need (I a) (some (encN a, encH a, encL a))
theorem ofF_eq {a : Int} (h : I a) : ofF a = some (encN a, encH a, encL a) := need_pos h
noncomputable def divF (n : Bool) (h l d : Int) : Option (Bool × Int × Int × Int × Int) := need (U h ∧ U l ∧ U d) (quo (val n h l) d)
theorem divF_eq {n : Bool} {h l d : Int} (h1 : U h) (h2 : U l) (h3 : U d) : divF n h l d = quo (val n h l) d := need_pos ⟨h1, h2, h3⟩
theorem divF_enc {v d : Int} (h1 : B v) (h3 : U d) : divF (encN v) (encH v) (encL v) d = quo v d := by rw [divF_eq (encH_U h1) encL_U h3, val_enc]
noncomputable def intF (n : Bool) (h l : Int) : Option Int := need (U h ∧ U l) (some (near (val n h l)))
theorem intF_eq {n : Bool} {h l : Int} (h1 : U h) (h2 : U l) : intF n h l = some (near (val n h l)) := need_pos ⟨h1, h2⟩
theorem intF_enc {v : Int} (h : B v) : intF (encN v) (encH v) (encL v) = some (near v) := by rw [intF_eq (encH_U h) encL_U, val_enc]

theorem ceil_up (p : Int) {c : Int} (hc : 0 < c) : -(-p / c) = (p + (c - 1)) / c := by
  have a := Int.emod_nonneg (p + (c - 1)) (show c ≠ 0 by omega)
  have b := Int.emod_lt_of_pos (p + (c - 1)) hc
  have e := Int.emod_add_ediv_mul (p + (c - 1)) c
  generalize (p + (c - 1)) / c = q at *
  generalize (p + (c - 1)) % c = r at *
  have : -p = (c - 1 - r) + (-q) * c := by rw [Int.neg_mul]; omega
  rw [this, Int.add_mul_ediv_right _ _ (by omega), Int.ediv_eq_zero_of_lt (by omega) (by omega)]
  omega
theorem manyW_clamp {w : Int} (h1 : 131072 ≤ w) (h2 : w ≤ 68719476736) (t : Int) : manyW (clamp t 0 64).toNat w = manyW t.toNat w := by
  unfold clamp
  split
  · rw [show t.toNat = 0 by omega]; rfl
  · split
    · rw [manyW_end h1 h2 (by omega), manyW_end h1 h2 (by omega)]
    · rfl
/-- The time there and back; a rate; how long bytes take. -/
def max1 (x : Int) : Int := if x < 1 then 1 else x
def timeQ (has : Bool) (mean far : Int) : Int := if has = true ∧ 8 ≤ mean ∧ mean ≤ 8589934592 ∧ 0 ≤ far ∧ far ≤ 4294967296 then mean / 8 else 100000
def rateD (t : Int) (slow : Bool) : Int := (if slow = true then 1 else 4) * 65536 * t
def rateN (w s : Int) (slow : Bool) : Int := clamp w 0 68719476736 * (if slow = true then 2 else 5) * (clamp s 1 65535 * 1000000)
def rateQ (w s t : Int) (slow : Bool) : Int := max1 (rateN w s slow / rateD t slow)
theorem timeQ_bd (has : Bool) (mean far : Int) : 1 ≤ timeQ has mean far ∧ timeQ has mean far ≤ 1073741824 := by unfold timeQ; split <;> omega
theorem rateD_bd {t : Int} (h1 : 1 ≤ t) (h2 : t ≤ 1073741824) (slow : Bool) : 65536 ≤ rateD t slow ∧ rateD t slow ≤ 281474976710656 := by unfold rateD; cases slow <;> simp <;> omega
theorem rateN_bd (w s : Int) (slow : Bool) : 0 ≤ rateN w s slow ∧ rateN w s slow ≤ 68719476736 * 5 * (65535 * 1000000) := by
  have a := clamp_bd (a := w) (low := 0) (high := 68719476736) (by omega)
  have b := clamp_bd (a := s) (low := 1) (high := 65535) (by omega)
  unfold rateN
  have h1 : 0 ≤ clamp w 0 68719476736 * (if slow = true then 2 else 5) ∧ clamp w 0 68719476736 * (if slow = true then 2 else 5) ≤ 68719476736 * 5 := by cases slow <;> simp <;> omega
  exact mul_le h1.1 h1.2 (by omega) (by omega)
theorem rate_I (w s : Int) {t : Int} (h1 : 1 ≤ t) (h2 : t ≤ 1073741824) (slow : Bool) : 0 ≤ rateN w s slow / rateD t slow ∧ rateN w s slow / rateD t slow ≤ 343597383680000000 := by
  have a := rateN_bd w s slow
  have b := rateD_bd h1 h2 slow
  refine ⟨Int.ediv_nonneg a.1 (by omega), ?_⟩
  have c := ediv_anti (n := rateN w s slow) (d := 65536) (d' := rateD t slow) a.1 (by omega) b.1
  have d : rateN w s slow / 65536 ≤ 343597383680000000 := by omega
  omega
theorem max1_mono {x y : Int} (h : x ≤ y) : max1 x ≤ max1 y := by unfold max1; split <;> split <;> omega
theorem rateN_w {v w : Int} (h : v ≤ w) (s : Int) (slow : Bool) : rateN v s slow ≤ rateN w s slow := by
  have a := clamp_mono (low := 0) (high := 68719476736) h (by omega)
  have b := clamp_bd (a := s) (low := 1) (high := 65535) (by omega)
  unfold rateN
  exact Int.mul_le_mul_of_nonneg_right (by cases slow <;> simp <;> omega) (by omega)
theorem rateN_s (w : Int) {r s : Int} (h : r ≤ s) (slow : Bool) : rateN w r slow ≤ rateN w s slow := by
  have a := clamp_mono (low := 1) (high := 65535) h (by omega)
  have b := clamp_bd (a := w) (low := 0) (high := 68719476736) (by omega)
  unfold rateN
  exact Int.mul_le_mul_of_nonneg_left (by omega) (by cases slow <;> simp <;> omega)
theorem rateQ_w {v w : Int} (h : v ≤ w) (s : Int) {t : Int} (h1 : 1 ≤ t) (h2 : t ≤ 1073741824) (slow : Bool) : rateQ v s t slow ≤ rateQ w s t slow :=
  max1_mono (Int.ediv_le_ediv (by have := rateD_bd h1 h2 slow; omega) (rateN_w h s slow))
theorem rateQ_s (w : Int) {r s : Int} (h : r ≤ s) {t : Int} (h1 : 1 ≤ t) (h2 : t ≤ 1073741824) (slow : Bool) : rateQ w r t slow ≤ rateQ w s t slow :=
  max1_mono (Int.ediv_le_ediv (by have := rateD_bd h1 h2 slow; omega) (rateN_s w h slow))
theorem rateQ_t (w s : Int) {t u : Int} (h1 : 1 ≤ t) (h : t ≤ u) (slow : Bool) : rateQ w s u slow ≤ rateQ w s t slow := by
  refine max1_mono (ediv_anti (rateN_bd w s slow).1 ?_ ?_) <;> unfold rateD <;> cases slow <;> simp <;> omega
theorem rateQ_slow (w s : Int) {t : Int} (h1 : 1 ≤ t) : rateQ w s t false ≤ rateQ w s t true := by
  refine max1_mono ?_
  have a := rateN_bd w s true
  have e1 : rateN w s false * 2 = rateN w s true * 5 := by
    unfold rateN
    simp only [if_true, Bool.false_eq_true, if_false]
    generalize clamp s 1 65535 * 1000000 = y
    generalize clamp w 0 68719476736 = x
    rw [Int.mul_right_comm x 5 y, Int.mul_right_comm x 2 y]; omega
  have e2 : rateD t false = rateD t true * 4 := by unfold rateD; simp; omega
  have hd : 0 < rateD t true := by unfold rateD; simp; omega
  have hn := (rateN_bd w s false).1
  rw [e2, Int.le_ediv_iff_mul_le hd]
  have k := Int.ediv_mul_le (rateN w s false) (show rateD t true * 4 ≠ 0 by omega)
  have q := Int.ediv_nonneg hn (show 0 ≤ rateD t true * 4 by omega)
  rw [← Int.mul_assoc] at k
  generalize rateN w s false / (rateD t true * 4) * rateD t true = z at *
  omega
/-- How long bytes take. -/
def spanC (b r : Int) : Int := -(-((if b < 0 then 0 else b) * 1000000) / (if r < 1 then 1 else r))
def spanQ (b r : Int) : Int := if spanC b r ≤ 1099511627776 then spanC b r else 1099511627776

/-- Windows behind what was told: in slow start, up to a target, by both laws. -/
def min2 (x y : Int) : Int := if y < x then y else x
def partQ (t : Int) (g d : Bool) : Int := if d = true then 0 else if g = true then min2 (clamp t 0 68719476736) 524288 / 4 else min2 (clamp t 0 68719476736) 524288
def slowQ (w t : Int) (g d : Bool) : Int := win (win w + partQ t g d)
def byQ (w t u : Int) : Int := if t ≤ win w then 0 else min2 (clamp u 0 68719476736 * (t - win w) / win w) (t - win w)
def calmQ (w t u : Int) : Int := win (win w + byQ w t u)
def bothQ (w t e u : Int) : Int := win (if win w + byQ w t u < e then e else win w + byQ w t u)
theorem partQ_bd (t : Int) (g d : Bool) : 0 ≤ partQ t g d ∧ partQ t g d ≤ 524288 := by
  have := clamp_bd (a := t) (low := 0) (high := 68719476736) (by omega)
  unfold partQ min2; repeat' split
  all_goals omega
theorem byQ_bd (w u : Int) {t : Int} (ht : t ≤ 9223372036854775807) : 0 ≤ byQ w t u ∧ win w + byQ w t u ≤ 9223372036854775807 ∧ (byQ w t u = 0 ∨ win w + byQ w t u ≤ t) := by
  have a := win_bd w
  have b := clamp_bd (a := u) (low := 0) (high := 68719476736) (by omega)
  unfold byQ
  by_cases c : t ≤ win w
  · rw [if_pos c]; omega
  · rw [if_neg c]
    have d : 0 ≤ clamp u 0 68719476736 * (t - win w) / win w := Int.ediv_nonneg (Int.mul_nonneg b.1 (by omega)) (by omega)
    unfold min2; split <;> omega


theorem win_in {x : Int} (h1 : 131072 ≤ x) (h2 : x ≤ 68719476736) : win x = x := clamp_in h1 h2
theorem win_mono {x y : Int} (h : x ≤ y) : win x ≤ win y := clamp_mono h (by omega)
theorem min2_mono {x y u v : Int} (h : x ≤ y) (k : u ≤ v) : min2 x u ≤ min2 y v := by unfold min2; split <;> split <;> omega
theorem partQ_mono {s t : Int} (h : s ≤ t) (g d : Bool) : partQ s g d ≤ partQ t g d := by
  have a := min2_mono (clamp_mono (low := 0) (high := 68719476736) h (by omega)) (Int.le_refl 524288)
  unfold partQ
  by_cases hd : d = true
  · rw [if_pos hd, if_pos hd]; omega
  · rw [if_neg hd, if_neg hd]; split <;> omega
theorem slowQ_mono (w : Int) {s t : Int} (h : s ≤ t) (g d : Bool) : slowQ w s g d ≤ slowQ w t g d := win_mono (by have := partQ_mono h g d; omega)
theorem byQ_told (w t : Int) {u v : Int} (h : u ≤ v) : byQ w t u ≤ byQ w t v := by
  have a := win_bd w
  have b := clamp_mono (low := 0) (high := 68719476736) h (by omega)
  unfold byQ
  by_cases c : t ≤ win w
  · rw [if_pos c, if_pos c]; omega
  · rw [if_neg c, if_neg c]
    exact min2_mono (Int.ediv_le_ediv (by omega) (Int.mul_le_mul_of_nonneg_right b (by omega))) (Int.le_refl _)
theorem byQ_target (w u : Int) {s t : Int} (h : s ≤ t) : byQ w s u ≤ byQ w t u := by
  have a := win_bd w
  have b := clamp_bd (a := u) (low := 0) (high := 68719476736) (by omega)
  unfold byQ
  by_cases c : s ≤ win w
  · rw [if_pos c]
    by_cases d : t ≤ win w
    · rw [if_pos d]; omega
    · rw [if_neg d]
      have q := Int.ediv_nonneg (Int.mul_nonneg b.1 (show 0 ≤ t - win w by omega)) (show 0 ≤ win w by omega)
      unfold min2; split <;> omega
  · rw [if_neg c, if_neg (by omega)]
    exact min2_mono (Int.ediv_le_ediv (by omega) (Int.mul_le_mul_of_nonneg_left (by omega) b.1)) (by omega)
theorem byQ_zero (w t : Int) : byQ w t 0 = 0 := by
  have a := win_bd w
  unfold byQ
  by_cases c : t ≤ win w
  · rw [if_pos c]
  · rw [if_neg c, clamp_in (by omega) (by omega), Int.zero_mul, Int.zero_ediv]
    unfold min2; rw [if_neg (by omega)]

end Go.Proofs.Ytghpecgpdhaibaa.Sp
