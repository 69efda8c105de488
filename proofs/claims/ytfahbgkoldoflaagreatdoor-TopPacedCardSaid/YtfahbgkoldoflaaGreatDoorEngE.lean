/- The engine, by hand: part E. Conditions: none beside the theorems' own. -/
import Derived.Test.YtfahbgkoldoflaaGreatDoorEngB
import Derived.Test.YtfahbgkoldoflaaGreatDoorEngC
import Derived.Test.YtfahbgkoldoflaaGreatDoorEngD
import Derived.Test.YtfahbgkoldoflaaGreatDoorPx11
import Derived.Test.YtfahbgkoldoflaaGreatDoorPx12
import Derived.Test.YtfahbgkoldoflaaGreatDoorPx13
import Derived.Test.YtfahbgkoldoflaaGreatDoorPx16
import Derived.Test.YtfahbgkoldoflaaGreatDoorPx17
import Derived.Test.YtfahbgkoldoflaaGreatDoorPx18
import Derived.Test.YtfahbgkoldoflaaGreatDoorPx19
namespace Go.Proofs.YtfahbgkoldoflaaGreatDoor.Px
open Go.RowKit Go.Proofs.YtfahbgkoldoflaaGreatDoorW.PrintWords Go.Proofs.YtfahbgkoldoflaaGreatDoorW.PrintLast Go.Proofs.YtfahbgkoldoflaaGreatDoorW.PrintMore
attribute [local go_sem] max2_int min2_int max_two min_two max_three min_three max_four min_four
set_option linter.unusedVariables false
set_option linter.unusedSimpArgs false
/-- The methods, as the engine's Do calls them: those that leave the marks as they are. -/
theorem hm_tick (s1 : Ln) (ek ea eb er : Int) (l : List S119) (W : World) (g B : Nat) (y : Sl) (hA : At W g (s1.at y)) (hM : Mk g B W y l) :
    Calls Tryz.prog 44 #[.pointer (some ⟨g, 0, none⟩), .agg #[.int .i64 ek, .int .i64 ea, .int .i64 eb, .int .i64 er]] W fun e W' => Wr g W W' ∧ ((e = .returned (.tuple #[]) ∧ ∃ t z l', t = s1 ∧ l'.length ≤ l.length + 1 ∧ Mk g B W' z l' ∧ At W' g (Ln.at t z)) ∨ ∃ n, n ≠ 0 ∧ e = .panicked (erL n)) :=
  (line_tick g (s1.at y) ek ea eb er W hA).mono fun e W' ⟨hw, he, hr⟩ => ⟨hw, .inl ⟨he, s1, y, l, rfl, Nat.le_succ _, hM.wr hw, hr⟩⟩
theorem hm_idle (s1 : Ln) (ek ea eb er : Int) (l : List S119) (W : World) (g B : Nat) (y : Sl) (hA : At W g (s1.at y)) (hM : Mk g B W y l) :
    Calls Tryz.prog 43 #[.pointer (some ⟨g, 0, none⟩), .agg #[.int .i64 ek, .int .i64 ea, .int .i64 eb, .int .i64 er]] W fun e W' => Wr g W W' ∧ ((e = .returned (.tuple #[]) ∧ ∃ t z l', t = { s1 with lim := true } ∧ l'.length ≤ l.length + 1 ∧ Mk g B W' z l' ∧ At W' g (Ln.at t z)) ∨ ∃ n, n ≠ 0 ∧ e = .panicked (erL n)) :=
  (line_idle g (s1.at y) ek ea eb er W hA).mono fun e W' ⟨hw, he, hr⟩ => ⟨hw, .inl ⟨he, _, y, l, rfl, Nat.le_succ _, hM.wr hw, hr⟩⟩
theorem cutL_at (s : Ln) (y : Sl) (W1 H1 : Int) : cutL (s.at y) W1 H1 = (cutL s W1 H1).at y := by
  unfold cutL
  show (if wrap64 (s.sent - s.out) < s.recov then _ else _) = _
  split <;> rfl
theorem hm_ecn (s1 : Ln) (ek ea eb er W1 H1 : Int) (hC : cut_LossS.f s1.win s1.high = some (W1, H1)) (l : List S119) (W : World) (g B : Nat) (y : Sl) (hA : At W g (s1.at y)) (hM : Mk g B W y l) :
    Calls Tryz.prog 41 #[.pointer (some ⟨g, 0, none⟩), .agg #[.int .i64 ek, .int .i64 ea, .int .i64 eb, .int .i64 er]] W fun e W' => Wr g W W' ∧ ((e = .returned (.tuple #[]) ∧ ∃ t z l', t = cutL s1 W1 H1 ∧ l'.length ≤ l.length + 1 ∧ Mk g B W' z l' ∧ At W' g (Ln.at t z)) ∨ ∃ n, n ≠ 0 ∧ e = .panicked (erL n)) :=
  (line_ecn g (s1.at y) ek ea eb er W1 H1 ⟨hC⟩ W hA).mono fun e W' ⟨hw, he, hr⟩ => ⟨hw, .inl ⟨he, _, y, l, rfl, Nat.le_succ _, hM.wr hw, cutL_at s1 y W1 H1 ▸ hr⟩⟩
theorem hm_lose (k2 : Nat) (s1 : Ln) (ek ea eb er f1 f2 f3 c1 W1 H1 : Int) (hS : flight_Lose.f k2 s1.sent s1.told s1.out eb = some (f1, f2, f3, c1)) (hC : cut_LossS.f s1.win s1.high = some (W1, H1)) (l : List S119) (W : World) (g B : Nat) (y : Sl) (hA : At W g (s1.at y)) (hM : Mk g B W y l) :
    Calls Tryz.prog 40 #[.pointer (some ⟨g, 0, none⟩), .agg #[.int .i64 ek, .int .i64 ea, .int .i64 eb, .int .i64 er]] W fun e W' => Wr g W W' ∧ ((e = .returned (.tuple #[]) ∧ ∃ t z l', (c1 = 0 ∧ t = cutL { s1 with sent := f1, told := f2, out := f3 } W1 H1) ∧ l'.length ≤ l.length + 1 ∧ Mk g B W' z l' ∧ At W' g (Ln.at t z)) ∨ ∃ n, n ≠ 0 ∧ e = .panicked (erL n)) :=
  (line_lose g (s1.at y) k2 ek ea eb er f1 f2 f3 c1 W1 H1 ⟨hS⟩ ⟨hC⟩ W hA).mono fun e W' ⟨hw, h⟩ => by
    rcases h with ⟨h0, he, hr⟩ | ⟨_, h⟩
    · exact ⟨hw, .inl ⟨he, _, y, l, ⟨h0, rfl⟩, Nat.le_succ _, hM.wr hw, cutL_at { s1 with sent := f1, told := f2, out := f3 } y W1 H1 ▸ hr⟩⟩
    · exact ⟨hw, .inr h⟩
theorem hm_late (k k2 : Nat) (s1 : Ln) (ek ea eb er Bk f1 f2 f3 c1 W1 H1 R1 : Int) (hB : rto_Back.f k s1.has s1.mean s1.far s1.seg s1.mx s1.fst s1.grain s1.least s1.great s1.burst s1.back = some Bk) (hC : cut_TimeoutS.f s1.win s1.high = some (131072, W1, H1)) (hS : flight_Lose.f k2 s1.sent s1.told s1.out s1.out = some (f1, f2, f3, c1)) (hR : round_Begin.f f1 = some (0, R1)) (l : List S119) (W : World) (g B : Nat) (y : Sl) (hA : At W g (s1.at y)) (hM : Mk g B W y l) :
    Calls Tryz.prog 42 #[.pointer (some ⟨g, 0, none⟩), .agg #[.int .i64 ek, .int .i64 ea, .int .i64 eb, .int .i64 er]] W fun e W' => Wr g W W' ∧ ((e = .returned (.tuple #[]) ∧ ∃ t z l', (s1.out ≠ 0 ∧ c1 = 0 ∧ t = { s1 with back := Bk, win := 131072, thresh := W1, high := H1, sent := f1, told := f2, out := f3, recov := f1, eon := false, estart := 0, efirst := 0, emax := 0, ek := 0, eest := 0, hlast := 0, hleast := 0, hmany := 0, hgentle := false, hdone := false, hbase := 0, hrounds := 0, rid := 0, rend := R1 }) ∧ l'.length ≤ l.length + 1 ∧ Mk g B W' z l' ∧ At W' g (Ln.at t z)) ∨ ∃ n, n ≠ 0 ∧ e = .panicked (erL n)) :=
  (line_late g (s1.at y) k k2 ek ea eb er Bk f1 f2 f3 c1 W1 H1 R1 ⟨hB⟩ ⟨hC⟩ ⟨hS⟩ ⟨hR⟩ W hA).mono fun e W' ⟨hw, h⟩ => by
    rcases h with ⟨h0, h1, he, hr⟩ | ⟨_, h⟩
    · exact ⟨hw, .inl ⟨he, _, y, l, ⟨h0, h1, rfl⟩, Nat.le_succ _, hM.wr hw, hr⟩⟩
    · exact ⟨hw, .inr h⟩
theorem hm_send (k k2 : Nat) (s1 : Ln) (ek ea eb er W1 p2 p3 p4 p5 p6 room f1 f2 f3 b1 b2 c1 c2 : Int) (p1 u : Bool)
    (hO : s1.out = 0 → ∃ T, rto_Of.f k s1.has s1.mean s1.far s1.seg s1.mx s1.fst s1.grain s1.least s1.great s1.burst s1.back = some T ∧ guide_Idle.f s1.win s1.last ea T s1.seg s1.mx s1.fst s1.grain s1.least s1.great s1.burst = some W1 ∧ guide_Pause.f s1.eon s1.estart s1.efirst s1.emax s1.ek s1.eest s1.last ea = some (p1, p2, p3, p4, p5, p6)) (hO' : s1.out ≠ 0 → s1.win = W1 ∧ s1.eon = p1 ∧ s1.estart = p2 ∧ s1.efirst = p3 ∧ s1.emax = p4 ∧ s1.ek = p5 ∧ s1.eest = p6)
    (hR : frac_BytesS.f W1 s1.seg = some (room, 0)) (hS : flight_Send.f k2 s1.sent s1.told s1.out eb room = some (f1, f2, f3, c1)) (hB : bucket_TakeS.f s1.bat s1.bhave eb = some (b1, b2, c2)) (hU : guide_UsedS.f W1 f3 s1.seg = some u) (Z : Prop) (hZ : c1 ≠ 0 ∨ c2 ≠ 0 → Z) (l : List S119) (W : World) (g B : Nat) (y : Sl) (hA : At W g (s1.at y)) (hM : Mk g B W y l) :
    Calls Tryz.prog 38 #[.pointer (some ⟨g, 0, none⟩), .agg #[.int .i64 ek, .int .i64 ea, .int .i64 eb, .int .i64 er]] W fun e W' => Wr g W W' ∧ ((e = .returned (.tuple #[]) ∧ ∃ t z l', (c1 = 0 ∧ c2 = 0 ∧ t = { s1 with last := ea, win := W1, sent := f1, told := f2, out := f3, eon := p1, estart := p2, efirst := p3, emax := p4, ek := p5, eest := p6, bat := b1, bhave := b2, lim := !u }) ∧ l'.length ≤ l.length + 1 ∧ Mk g B W' z l' ∧ At W' g (Ln.at t z)) ∨ Z ∧ ∃ n, n ≠ 0 ∧ e = .panicked (erL n)) :=
  (line_send g (s1.at y) k k2 ek ea eb er W1 p2 p3 p4 p5 p6 room f1 f2 f3 b1 b2 c1 c2 p1 u W hA ⟨hO⟩ ⟨hO'⟩ ⟨hR⟩ ⟨hS⟩ ⟨hB⟩ ⟨hU⟩).mono fun e W' ⟨hw, h⟩ => by
    rcases h with ⟨h0, h1, he, hr⟩ | ⟨hz, h⟩
    · exact ⟨hw, .inl ⟨he, _, y, l, ⟨h0, h1, rfl⟩, Nat.le_succ _, hM.wr hw, hr⟩⟩
    · exact ⟨hw, .inr ⟨hZ hz, h⟩⟩
/-- A time there and back is counted, or there is none. -/
theorem hm_times (k : Nat) (s : Ln) (ek ea eb er r2 r3 c1 h1 h2 h3 h6 h7 c3 : Int) (r1 h4 h5 kL : Bool) (x : Sl) (l : List S119) (w : World) (g B : Nat) (hA : At w g (s.at x)) (hM : Mk g B w x l) (hg : g < w.heap.size) (hB : B ≤ w.heap.size) (hl : l.length ≤ 1000000) (hk : leastOk l = kL) (Z : Prop) (hZ : c1 ≠ 0 ∨ c3 ≠ 0 ∨ ¬ (l = [] ∧ 0 ≤ ea ∧ ea ≤ 1099511627776) → Z)
    (hR : er ≠ 0 → rtt_Sample.f k s.has s.mean s.far er = some (r1, r2, r3, c1)) (hR' : er = 0 → s.has = r1 ∧ s.mean = r2 ∧ s.far = r3)
    (hH : er ≠ 0 → s.win < s.thresh → hySample s.hlast s.hleast s.hmany s.hgentle s.hdone s.hbase s.hrounds er = .tuple #[.agg #[.int .i64 h1, .int .i64 h2, .int .i64 h3, .bool h4, .bool h5, .int .i64 h6, .int .i64 h7], .int .i64 c3])
    (hH' : er = 0 ∨ ¬ s.win < s.thresh → c3 = 0 ∧ s.hlast = h1 ∧ s.hleast = h2 ∧ s.hmany = h3 ∧ s.hgentle = h4 ∧ s.hdone = h5 ∧ s.hbase = h6 ∧ s.hrounds = h7) :
    Calls Tryz.prog 84 #[.pointer (some ⟨g, 0, none⟩), .agg #[.int .i64 ek, .int .i64 ea, .int .i64 eb, .int .i64 er]] w fun e w' => Wr g w w' ∧ ((e = .returned (.tuple #[]) ∧ ∃ y l', l'.length ≤ l.length + 1 ∧ Mk g B w' y l' ∧ At w' g { s with has := r1, mean := r2, far := r3, lv := y.val, hlast := h1, hleast := h2, hmany := h3, hgentle := h4, hdone := h5, hbase := h6, hrounds := h7 }) ∨ Z ∧ ∃ n, n ≠ 0 ∧ e = .panicked (erL n)) := by
  by_cases h0 : er = 0
  · subst h0
    obtain ⟨rfl, rfl, rfl⟩ := hR' rfl
    obtain ⟨_, rfl, rfl, rfl, rfl, rfl, rfl, rfl⟩ := hH' (.inl rfl)
    exact (line_times0 g (s.at x) ek ea eb w hA).mono fun e w' ⟨hw, he, hr⟩ => ⟨hw, .inl ⟨he, x, l, Nat.le_succ _, hM.wr hw, hr⟩⟩
  · refine (line_times g B k (s.at x) ek ea eb er r2 r3 c1 h1 h2 h3 h6 h7 c3 r1 h4 h5 x l Z (fun q => hZ (q.imp_right .inl)) w hA rfl hM h0 ⟨hR h0⟩ ⟨fun W hW hS => ?_⟩ ⟨fun hs W => ?_⟩ ⟨fun hs => hH' (.inr hs)⟩).mono ?_
    · obtain ⟨A, m, c⟩ := x
      have hm : l.length = m := hW.n
      subst hm
      refine (put_w A c l kL ea er W hW.C hW.le hl (fun W' hC => hk ▸ lcheck_w A c l W' hC hl)).mono ?_
      rintro e W' ⟨⟨y, he, hy, hz⟩, hb⟩
      exact ⟨⟨y, he, fun h2 => let ⟨l', q, ho⟩ := hy h2; ⟨l', q, ho.mk2 (by omega) (by omega)⟩, fun q => hZ (.inr (.inr fun ⟨q1, q2⟩ => hz q ⟨q1, by subst q1; exact hk ▸ rfl, q2⟩))⟩, hb⟩
    · have := hsample_w s.hlast s.hleast s.hmany s.hgentle s.hdone s.hbase s.hrounds er W
      rw [hH h0 hs] at this
      exact this
    · rintro e w' ⟨hw, ⟨_, _, he, h⟩ | h⟩
      · exact ⟨hw, .inl ⟨he, h⟩⟩
      · exact ⟨hw, .inr h⟩
set_option maxHeartbeats 2000000 in
/-- ack, as the engine's Do calls it. -/
theorem hm_ack (k1 k kc : Nat) (s : Ln) (ek ea eb er f1 f2 f3 c1 r2 r3 cR h1 h2 h3 h6 h7 c3 q1 q2 c4 e1 e2 e3 e6 e7 c5 td c6 G W2 p2 p3 p4 p5 p6 cE E mn T tg Gc W3 : Int) (r1 h4 h5 ov e4 e5 kL rok p1 b : Bool) (P : Ln → Prop) (Z : Prop) (l : List S119) (W : World) (g B : Nat) (y : Sl)
    (hF : flight_Ack.f k1 s.sent s.told s.out eb = some (f1, f2, f3, c1))
    (hk : leastOk l = kL) (hR : er ≠ 0 → rtt_Sample.f k s.has s.mean s.far er = some (r1, r2, r3, cR)) (hR' : er = 0 → s.has = r1 ∧ s.mean = r2 ∧ s.far = r3)
    (hH : er ≠ 0 → s.win < s.thresh → hySample s.hlast s.hleast s.hmany s.hgentle s.hdone s.hbase s.hrounds er = .tuple #[.agg #[.int .i64 h1, .int .i64 h2, .int .i64 h3, .bool h4, .bool h5, .int .i64 h6, .int .i64 h7], .int .i64 c3])
    (hH' : er = 0 ∨ ¬ s.win < s.thresh → c3 = 0 ∧ s.hlast = h1 ∧ s.hleast = h2 ∧ s.hmany = h3 ∧ s.hgentle = h4 ∧ s.hdone = h5 ∧ s.hbase = h6 ∧ s.hrounds = h7)
    (hro : round_Check.f s.rid s.rend = some rok) (hrn : rdNext s.rid s.rend (wrap64 (f1 - f3)) f1 rok = ((q1, q2), ov, c4))
    (hb : (ov && decide (s.win < s.thresh)) = b)
    (hE : b = true → hyRound (hyCheck h1 h2 h3 h4 h5 h6 h7) h1 h2 h3 h4 h5 h6 h7 = .tuple #[.agg #[.int .i64 e1, .int .i64 e2, .int .i64 e3, .bool e4, .bool e5, .int .i64 e6, .int .i64 e7], .int .i64 c5])
    (hE' : b = false → h1 = e1 ∧ h2 = e2 ∧ h3 = e3 ∧ h4 = e4 ∧ h5 = e5 ∧ h6 = e6 ∧ h7 = e7)
    (hS : frac_SegsS.f eb s.seg = some (td, c6)) (hG : grow_Slow.f s.win td e1 e2 e3 e4 e5 e6 e7 = some G) (hL : grow_LimitS.f G (wrap64 (s.mx * 65536)) = some W2)
    (hB : s.eon = false → epoch_BeginS.f ea s.win s.high = some (p1, p2, p3, p4, p5, p6, cE)) (hB' : s.eon = true → p1 = s.eon ∧ p2 = s.estart ∧ p3 = s.efirst ∧ p4 = s.emax ∧ p5 = s.ek ∧ p6 = s.eest)
    (hSt : reno_StepS.f p6 p4 s.win td = some E) (hMn : rtt_Mean.f r1 r2 r3 = some mn) (hAf : clock_After.f kc ea mn = some T) (hTg : cubic_TargetS.f p1 p2 p3 p4 p5 E T s.win = some tg) (hBo : grow_Both.f s.win tg E td = some Gc) (hLi : grow_LimitS.f Gc (wrap64 (s.mx * 65536)) = some W3)
    (hP0 : c1 = 0 → (wrap64 (f1 - f3) < s.recov ∨ s.lim = true) → P { s with sent := f1, told := f2, out := f3, back := 0, has := r1, mean := r2, far := r3, rid := q1, rend := q2, hlast := e1, hleast := e2, hmany := e3, hgentle := e4, hdone := e5, hbase := e6, hrounds := e7 })
    (hP1 : c1 = 0 → ¬ (wrap64 (f1 - f3) < s.recov ∨ s.lim = true) → s.win < s.thresh → P { s with sent := f1, told := f2, out := f3, back := 0, has := r1, mean := r2, far := r3, rid := q1, rend := q2, hlast := e1, hleast := e2, hmany := e3, hgentle := e4, hdone := e5, hbase := e6, hrounds := e7, win := W2, thresh := cond e5 W2 s.thresh })
    (hP2 : c1 = 0 → ¬ (wrap64 (f1 - f3) < s.recov ∨ s.lim = true) → ¬ s.win < s.thresh → P { s with sent := f1, told := f2, out := f3, back := 0, has := r1, mean := r2, far := r3, rid := q1, rend := q2, hlast := e1, hleast := e2, hmany := e3, hgentle := e4, hdone := e5, hbase := e6, hrounds := e7, eon := p1, estart := p2, efirst := p3, emax := p4, ek := p5, eest := E, win := W3 })
    (hZ : (c1 ≠ 0 ∨ cR ≠ 0 ∨ c3 ≠ 0 ∨ c5 ≠ 0 ∨ c6 ≠ 0) ∨ ¬ s.win < s.thresh ∨ ¬ (l = [] ∧ 0 ≤ ea ∧ ea ≤ 1099511627776) → Z)
    (hA : At W g (s.at y)) (hM : Mk g B W y l) (hg : g < W.heap.size) (hBs : B ≤ W.heap.size) (hl : l.length ≤ 1000000) (hTe : Tens W) :
    Calls Tryz.prog 39 #[.pointer (some ⟨g, 0, none⟩), .agg #[.int .i64 ek, .int .i64 ea, .int .i64 eb, .int .i64 er]] W fun e W' => Wr g W W' ∧ ((e = .returned (.tuple #[]) ∧ ∃ t z l', P t ∧ l'.length ≤ l.length + 1 ∧ Mk g B W' z l' ∧ At W' g (Ln.at t z)) ∨ Z ∧ ∃ n, n ≠ 0 ∧ e = .panicked (erL n)) := by
  by_cases h0 : c1 = 0
  rotate_left
  · refine (line_ack g B k1 (s.at y) ek ea eb er f1 f2 f3 c1 r2 r3 h1 h2 h3 h6 h7 q1 q2 c4 e1 e2 e3 e6 e7 c5 td c6 G W2 r1 h4 h5 ov b e4 e5 l (fun _ _ => True) Z (fun q => hZ (.inl (q.imp_right fun q => .inr (.inr q)))) W hA ⟨hF⟩ ⟨fun W1 hA1 hw1 => ?_⟩ ⟨fun W1 => ?_⟩ ⟨hb⟩ ⟨fun hbt W1 => ?_⟩ ⟨hE'⟩ ⟨hS⟩ ⟨hG⟩ ⟨hL⟩ ⟨fun _ _ => trivial⟩ ⟨fun _ _ _ => trivial⟩ ⟨fun _ hs W1 y1 hA1 hw1 => ?_⟩).mono ?_
    · exact hm_times k { s with sent := f1, told := f2, out := f3, back := 0 } ek ea eb er r2 r3 cR h1 h2 h3 h6 h7 c3 r1 h4 h5 kL y l W1 g B hA1 (hM.wr hw1) (Nat.lt_of_lt_of_le hg hw1.size) (Nat.le_trans hBs hw1.size) hl hk Z (fun q => hZ (by rcases q with q | q | q <;> simp [q])) hR hR' hH hH'
    · have := rack_w s.rid s.rend (wrap64 (f1 - f3)) f1 rok _ hrn hro W1
      exact this
    · have := hround_w (hyCheck h1 h2 h3 h4 h5 h6 h7) h1 h2 h3 h4 h5 h6 h7 ⟨fun W2 => hcheck_w h1 h2 h3 h4 h5 h6 h7 W2⟩ W1
      rw [hE hbt] at this
      exact this
    · refine (line_calm g kc { s with sent := f1, told := f2, out := f3, back := 0, has := r1, mean := r2, far := r3, lv := y1.val, rid := q1, rend := q2, hlast := e1, hleast := e2, hmany := e3, hgentle := e4, hdone := e5, hbase := e6, hrounds := e7 } ek ea eb er td p2 p3 p4 p5 p6 cE E mn T tg Gc W3 p1 W1 hA1 (tensW hTe hA hw1) ⟨hB⟩ ⟨hB'⟩ ⟨hSt⟩ ⟨hMn⟩ ⟨hAf⟩ ⟨hTg⟩ ⟨hBo⟩ ⟨hLi⟩).mono ?_
      rintro e W' ⟨hw, ⟨he, hr⟩ | h⟩
      · exact ⟨hw, .inl ⟨he, _, trivial, hr⟩⟩
      · exact ⟨hw, .inr ⟨hZ (.inr (.inl hs)), h⟩⟩
    · rintro e w' ⟨hw, ⟨h, _⟩ | h⟩
      · exact absurd h h0
      · exact ⟨hw, .inr h⟩
  · refine (line_ack g B k1 (s.at y) ek ea eb er f1 f2 f3 c1 r2 r3 h1 h2 h3 h6 h7 q1 q2 c4 e1 e2 e3 e6 e7 c5 td c6 G W2 r1 h4 h5 ov b e4 e5 l (fun y t => ∃ u, P u ∧ t = Ln.at u y) Z (fun q => hZ (.inl (q.imp_right fun q => .inr (.inr q)))) W hA ⟨hF⟩ ⟨fun W1 hA1 hw1 => ?_⟩ ⟨fun W1 => ?_⟩ ⟨hb⟩ ⟨fun hbt W1 => ?_⟩ ⟨hE'⟩ ⟨hS⟩ ⟨hG⟩ ⟨hL⟩ ⟨fun h _ => ⟨_, hP0 h0 h, rfl⟩⟩ ⟨fun h h2 _ => ⟨_, hP1 h0 h h2, rfl⟩⟩ ⟨fun hc hs W1 y1 hA1 hw1 => ?_⟩).mono ?_
    · exact hm_times k { s with sent := f1, told := f2, out := f3, back := 0 } ek ea eb er r2 r3 cR h1 h2 h3 h6 h7 c3 r1 h4 h5 kL y l W1 g B hA1 (hM.wr hw1) (Nat.lt_of_lt_of_le hg hw1.size) (Nat.le_trans hBs hw1.size) hl hk Z (fun q => hZ (by rcases q with q | q | q <;> simp [q])) hR hR' hH hH'
    · have := rack_w s.rid s.rend (wrap64 (f1 - f3)) f1 rok _ hrn hro W1
      exact this
    · have := hround_w (hyCheck h1 h2 h3 h4 h5 h6 h7) h1 h2 h3 h4 h5 h6 h7 ⟨fun W2 => hcheck_w h1 h2 h3 h4 h5 h6 h7 W2⟩ W1
      rw [hE hbt] at this
      exact this
    · refine (line_calm g kc { s with sent := f1, told := f2, out := f3, back := 0, has := r1, mean := r2, far := r3, lv := y1.val, rid := q1, rend := q2, hlast := e1, hleast := e2, hmany := e3, hgentle := e4, hdone := e5, hbase := e6, hrounds := e7 } ek ea eb er td p2 p3 p4 p5 p6 cE E mn T tg Gc W3 p1 W1 hA1 (tensW hTe hA hw1) ⟨hB⟩ ⟨hB'⟩ ⟨hSt⟩ ⟨hMn⟩ ⟨hAf⟩ ⟨hTg⟩ ⟨hBo⟩ ⟨hLi⟩).mono ?_
      rintro e W' ⟨hw, ⟨he, hr⟩ | h⟩
      · exact ⟨hw, .inl ⟨he, _, ⟨_, hP2 h0 hc hs, rfl⟩, hr⟩⟩
      · exact ⟨hw, .inr ⟨hZ (.inr (.inl hs)), h⟩⟩
    · rintro e w' ⟨hw, ⟨_, he, z, l', t, hl', hz, ⟨u, hu, rfl⟩, ha⟩ | h⟩
      · exact ⟨hw, .inl ⟨he, u, z, l', hu, hl', hz, ha⟩⟩
      · exact ⟨hw, .inr h⟩
section
open Go.Proofs.YtfahbgkoldoflaaGreatDoor.Sp
/-! What the engine's parts answer, at numbers that Check lets by. -/
theorem w64_ {x : Int} (h : I x) : wrap64 x = x := by unfold wrap64; omega
theorem flC_ {a b c : Int} {r : Bool} (hc : flight_Check.f a b c = some r) (ha : a ≤ 9223372036854775807) (hr : r = true) : 0 ≤ b ∧ 0 ≤ c ∧ b + c ≤ a := by
  subst hr
  unfold flight_Check.f at hc
  by_cases h0 : a ≥ 0 <;> by_cases h1 : b ≥ 0 <;> by_cases h2 : c ≥ 0 <;> by_cases h3 : b ≤ a <;> simp [h0, h1, h2, h3] at hc
  rw [w64_ (by omega)] at hc
  omega
theorem flC_t (a b c : Int) : ∃ r, flight_Check.f a b c = some r := by
  unfold flight_Check.f
  (repeat' split) <;> exact ⟨_, rfl⟩
theorem flC_ok {a b c : Int} (ha : a ≤ 9223372036854775807) (hb : 0 ≤ b) (hc : 0 ≤ c) (h : b + c ≤ a) : flight_Check.f a b c = some true := by
  unfold flight_Check.f
  rw [if_pos (by omega), if_pos hb, if_pos hc, if_pos (by omega), w64_ (by omega)]
  congr 1
  exact decide_eq_true (by omega)
theorem flS_ {a b c : Int} (n m : Int) (ha : a ≤ 9223372036854775807) (hb : 0 ≤ b) (hc : 0 ≤ c) (h : b + c ≤ a) (hn : 1 ≤ n) (hn' : n ≤ 1073741824) (hm : I m) :
    ∃ f1 f2 f3 e, flight_Send.f 1 a b c n m = some (f1, f2, f3, e) ∧ (e = 0 → f1 = a + n ∧ f2 = b ∧ f3 = c + n ∧ a + n ≤ 9223372036854775807 ∧ c + n ≤ m) ∧ I f3 := by
  unfold flight_Send.f
  rw [flC_ok ha hb hc h]
  simp only [Option.bind_some, if_true]
  simp only [flight_Send.j0]
  rw [if_neg (by simp; omega), w64_ (x := 9223372036854775807 - n) (by omega)]
  by_cases c1 : a > 9223372036854775807 - n
  · rw [if_pos c1]; exact ⟨_, _, _, _, rfl, (fun h => by cases h), by omega⟩
  rw [if_neg c1]
  unfold flight_Room.f
  rw [flC_ok ha hb hc h]
  simp only [Option.bind_some, if_true]
  by_cases c2 : m < c
  · rw [if_pos c2]
    simp only [Option.bind_some]
    rw [if_pos (by omega)]
    exact ⟨_, _, _, _, rfl, (fun h => by cases h), by omega⟩
  rw [if_neg c2, w64_ (x := m - c) (by omega)]
  simp only [Option.bind_some]
  by_cases c3 : n > m - c
  · rw [if_pos c3]; exact ⟨_, _, _, _, rfl, (fun h => by cases h), by omega⟩
  rw [if_neg c3, w64_ (x := a + n) (by omega), w64_ (x := c + n) (by omega)]
  exact ⟨_, _, _, _, rfl, (fun _ => ⟨rfl, rfl, rfl, by omega, by omega⟩), by omega⟩
theorem flB_ {a b c : Int} (n t : Int) (ha : a ≤ 9223372036854775807) (hb : 0 ≤ b) (hc : 0 ≤ c) (h : b + c ≤ a) (ht : t = 0 ∨ t = n) :
    ∃ f1 f2 f3 e, flight_back.f 1 a b c n t = some (f1, f2, f3, e) ∧ (e = 0 → f1 = a ∧ f2 = b + t ∧ f3 = c - n ∧ 1 ≤ n ∧ n ≤ c) ∧ I f1 ∧ I f2 ∧ I f3 := by
  unfold flight_back.f
  rw [flC_ok ha hb hc h]
  simp only [Option.bind_some, if_true]
  simp only [flight_back.j0]
  by_cases c1 : n < 1
  · rw [if_pos (decide_eq_true c1)]; exact ⟨_, _, _, _, rfl, (fun h => by cases h), by omega, by omega, by omega⟩
  rw [if_neg (by simpa using c1)]
  by_cases c2 : n > c
  · rw [if_pos c2]; exact ⟨_, _, _, _, rfl, (fun h => by cases h), by omega, by omega, by omega⟩
  rw [if_neg c2, w64_ (x := b + t) (by omega), w64_ (x := c - n) (by omega)]
  exact ⟨_, _, _, _, rfl, (fun _ => ⟨rfl, rfl, rfl, by omega, by omega⟩), by omega, by omega, by omega⟩
theorem flA_ {a b c : Int} (n : Int) (ha : a ≤ 9223372036854775807) (hb : 0 ≤ b) (hc : 0 ≤ c) (h : b + c ≤ a) :
    ∃ f1 f2 f3 e, flight_Ack.f 1 a b c n = some (f1, f2, f3, e) ∧ (e = 0 → f1 = a ∧ f2 = b + n ∧ f3 = c - n ∧ 1 ≤ n ∧ n ≤ c) ∧ I f1 ∧ I f2 ∧ I f3 := by
  obtain ⟨f1, f2, f3, e, h1, h2⟩ := flB_ n n ha hb hc h (.inr rfl)
  exact ⟨f1, f2, f3, e, by unfold flight_Ack.f; rw [h1]; rfl, h2⟩
theorem flL_ {a b c : Int} (n : Int) (ha : a ≤ 9223372036854775807) (hb : 0 ≤ b) (hc : 0 ≤ c) (h : b + c ≤ a) :
    ∃ f1 f2 f3 e, flight_Lose.f 1 a b c n = some (f1, f2, f3, e) ∧ (e = 0 → f1 = a ∧ f2 = b ∧ f3 = c - n ∧ 1 ≤ n ∧ n ≤ c) ∧ I f1 ∧ I f2 ∧ I f3 := by
  obtain ⟨f1, f2, f3, e, h1, h2, h3⟩ := flB_ n 0 ha hb hc h (.inl rfl)
  exact ⟨f1, f2, f3, e, by unfold flight_Lose.f; rw [h1]; rfl, (by rwa [Int.add_zero] at h2), h3⟩
theorem rttS_ (h : Bool) (m f t : Int) : ∃ r1 r2 r3 e, rtt_Sample.f 1 h m f t = some (r1, r2, r3, e) := by
  have hc : ∃ r, rtt_Check.f h m f = some r := by
    unfold rtt_Check.f
    (repeat' split) <;> exact ⟨_, rfl⟩
  obtain ⟨r, hr⟩ := hc
  have hj : ∀ b, ∃ r1 r2 r3 e, rtt_Sample.j0 1 t b h m f h m f = some (r1, r2, r3, e) := by
    intro b
    simp only [rtt_Sample.j0, rtt_known_next.f, rtt_first.f, rtt_Mean.f, rtt_Far.f, Option.bind_some]
    (repeat' split) <;> exact ⟨_, _, _, _, rfl⟩
  unfold rtt_Sample.f
  rw [hr]
  simp only [Option.bind_some]
  (repeat' split) <;> exact hj _
theorem rtoL_ (g : Int) : ∀ (k : Nat) (n a i : Int), 0 ≤ i → a - i < k → a ≤ 64 → ∃ r, rto_Of.l0 (k + 1) g n a i = some r := by
  intro k
  induction k with
  | zero =>
    intro n a i h0 h h64
    simp only [rto_Of.l0]
    rw [if_neg (by omega)]
    exact ⟨_, rfl⟩
  | succ k ih =>
    intro n a i h0 h h64
    simp only [rto_Of.l0]
    by_cases c : i < a
    · rw [if_pos c]
      split
      · exact ⟨_, rfl⟩
      · rw [w64_ (x := i + 1) (by omega)]
        exact ih _ a (i + 1) (by omega) (by omega) h64
    · rw [if_neg c]; exact ⟨_, rfl⟩
theorem rtoOf_ (h : Bool) (m f a b c d e g u n : Int) (hn : 0 ≤ n) (h64 : n ≤ 64) : ∃ r, rto_Of.f 66 h m f a b c d e g u n = some r := by
  have hb : ∃ r, rto_Base.f 66 h m f a b c d e g u = some r := by
    have hj : ∀ x, ∃ r, rto_Base.j0 66 x h m f a b c d e g u = some r := by
      intro x
      simp only [rto_Base.j0, rtt_Mean.f, rto_within.f, Option.bind_some]
      split <;> exact ⟨_, rfl⟩
    have hc : ∃ r, rtt_Check.f h m f = some r := by
      unfold rtt_Check.f
      (repeat' split) <;> exact ⟨_, rfl⟩
    obtain ⟨r, hr⟩ := hc
    unfold rto_Base.f
    rw [hr]
    simp only [Option.bind_some]
    split <;> exact hj _
  obtain ⟨r, hr⟩ := hb
  unfold rto_Of.f rto_within.f
  rw [hr]
  simp only [Option.bind_some]
  exact rtoL_ _ 65 _ _ 0 (by omega) (by unfold mx; split <;> omega) (by unfold mx; split <;> omega)
theorem rtoB_ (h : Bool) (m f a b c d e g u n : Int) (hn : 0 ≤ n) (h64 : n ≤ 64) : ∃ r, rto_Back.f 66 h m f a b c d e g u n = some r := by
  obtain ⟨r, hr⟩ := rtoOf_ h m f a b c d e g u n hn h64
  unfold rto_Back.f rto_within.f
  rw [hr]
  simp only [Option.bind_some]
  (repeat' split) <;> exact ⟨_, rfl⟩
theorem after_ (x y : Int) : ∃ r, clock_After.f 1 x y = some r ∧ I r := by
  have hj : ∀ b, ∃ r, clock_After.j0 1 x y b = some r ∧ I r := by
    intro b
    simp only [clock_After.j0, mx, mn]
    (repeat' split) <;> exact ⟨_, rfl, by omega⟩
  unfold clock_After.f
  split <;> exact hj _
theorem first_ {a b c d e f h : Int} (hc : cfgOk a b c d e f h) : guide_First.f a b c d e f h = some (c * 65536) := by
  obtain ⟨_, _, h3, h4, h5, h6, _⟩ := id hc
  unfold guide_First.f guide_Check.f
  rw [chkQ_ok hc]
  simp only [Option.bind_some, if_true]
  rw [w64_ (by omega)]
theorem idle_ {a b c d e f h w l n t : Int} (hc : cfgOk a b c d e f h) (hl : I l) (hn : I n) (hw : 131072 ≤ w) : ∃ r, guide_Idle.f w l n t a b c d e f h = some r ∧ 131072 ≤ r ∧ r ≤ w := by
  unfold guide_Idle.f
  rw [safe_SubS.eq hn hl, first_ hc]
  simp only [Option.bind_some]
  split
  · exact ⟨_, rfl, hw, Int.le_refl _⟩
  · exact ⟨_, rfl, by unfold mx; split <;> omega, by unfold mx mn; (repeat' split) <;> omega⟩
theorem pause_ {o : Bool} {s f m k e l n : Int} (hs : I s) (hf : I f) (hm : I m) (hl : I l) (hn : I n) : ∃ p1 p2 p3 p4 p5 p6, guide_Pause.f o s f m k e l n = some (p1, p2, p3, p4, p5, p6) ∧ I p2 ∧ I p3 ∧ I p4 := by
  unfold guide_Pause.f
  rw [safe_SubS.eq hn hl]
  simp only [Option.bind_some]
  rw [epoch_ShiftS.eq hs (near_I _)]
  simp only [Option.bind_some]
  refine ⟨_, _, _, _, _, _, rfl, ?_, hf, hm⟩
  unfold laterQ
  (repeat' split) <;> omega
theorem floor_ {a b c : Int} (hp : a * b ≤ 9223372036854775807) (hn : 0 ≤ a * b) (hc : 1 ≤ c) : floorQ a b c = some (a * b / c, 0) := by
  have h1 : 0 ≤ a * b / c := Int.ediv_nonneg hn (by omega)
  have h2 : a * b / c ≤ a * b := Int.ediv_le_self c hn
  unfold floorQ
  rw [if_neg (by omega), fit_in (by omega)]
theorem bytes_ {w s : Int} (hw : 0 ≤ w) (hw' : w ≤ 68719476736) (hs : 1 ≤ s) (hs' : s ≤ 9000) : frac_BytesS.f w s = some (w * s / 65536, 0) ∧ 0 ≤ w * s / 65536 ∧ w * s / 65536 ≤ 618475290624000 := by
  have := mul_le hw hw' (show (0 : Int) ≤ s by omega) hs'
  refine ⟨?_, by omega, by omega⟩
  rw [frac_BytesS.eq (by omega) (by omega), floor_ (by omega) this.1 (by omega)]
theorem segs_ {n s : Int} (hn : 0 ≤ n) (hn' : n ≤ 1073741824) (hs : 1 ≤ s) (hs' : s ≤ 9000) : ∃ t, frac_SegsS.f n s = some (t, 0) ∧ I t := by
  rw [frac_SegsS.eq (by omega) (by omega), floor_ (by omega) (by omega) hs]
  have h1 : 0 ≤ n * 65536 / s := Int.ediv_nonneg (by omega) (by omega)
  have h2 : n * 65536 / s ≤ n * 65536 := Int.ediv_le_self s (by omega)
  exact ⟨_, rfl, by omega⟩
theorem limit_ {b w : Int} (h1 : 4 ≤ b) (h2 : b ≤ 1048576) (hw : I w) : ∃ r, grow_LimitS.f w (wrap64 (b * 65536)) = some r ∧ 131072 ≤ r ∧ r ≤ b * 65536 := by
  rw [w64_ (x := b * 65536) (by omega), grow_LimitS.eq hw (by omega)]
  refine ⟨_, rfl, ?_, ?_⟩
  · unfold Sp.min2 win clamp; (repeat' split) <;> omega
  · unfold Sp.min2 win clamp; (repeat' split) <;> omega
theorem loss_ {w h : Int} (hw : I w) (hh : I h) (h1 : 131072 ≤ w) (h2 : w ≤ 68719476736) : ∃ a b, cut_LossS.f w h = some (a, b) ∧ cut_TimeoutS.f w h = some (131072, a, b) ∧ 131072 ≤ a ∧ a ≤ w := by
  rw [cut_LossS.eq hw hh, cut_TimeoutS.eq hw hh]
  refine ⟨_, _, rfl, rfl, ?_, ?_⟩
  · unfold leastW; exact (clamp_bd (by omega)).1
  · unfold leastW win clamp; (repeat' split) <;> omega
theorem begin_ {s f m : Int} (h1 : I s) (h2 : I f) (h3 : I m) : ∃ p1 p2 p3 p4 p5 p6 e, epoch_BeginS.f s f m = some (p1, p2, p3, p4, p5, p6, e) ∧ I p2 ∧ I p3 ∧ I p4 ∧ I p5 ∧ I p6 := by
  rw [epoch_BeginS.eq h1 h2 h3]
  unfold beginQ
  split
  · rename_i h
    have := kQ_bd (max2 m f - f)
    exact ⟨_, _, _, _, _, _, _, rfl, h1, h2, (by unfold max2; split <;> omega), (by omega), h2⟩
  · exact ⟨_, _, _, _, _, _, _, rfl, by omega, by omega, by omega, by omega, by omega⟩
theorem step_ {a b c d : Int} (h1 : I a) (h2 : I b) (h3 : I c) (h4 : I d) : ∃ r, reno_StepS.f a b c d = some r ∧ I r := by
  rw [reno_StepS.eq h1 h2 h3 h4]
  have : 0 ≤ stepQ a b c d ∧ stepQ a b c d ≤ 68719476736 := by unfold stepQ; exact clamp_bd (by omega)
  exact ⟨_, rfl, by omega⟩
theorem target_ {o : Bool} {s f m k e n w : Int} (h1 : I s) (h2 : I f) (h3 : I m) (h4 : I k) (h5 : I n) (h6 : I w) : ∃ r, cubic_TargetS.f o s f m k e n w = some r ∧ I r := by
  rw [cubic_TargetS.eq h1 h2 h3 h4 h5 h6]
  refine ⟨_, rfl, ?_⟩
  unfold targetQ
  split
  · exact h6
  · rename_i h
    have hw : 0 ≤ w := Int.not_lt.1 fun q => h (.inl q)
    have hn := near_I (w + w / 2)
    have hl : w ≤ near (w + w / 2) := by unfold near; (repeat' split) <;> omega
    have := clamp_bd (a := atQ o s f m k e n) hl
    omega
theorem slow_ {w t l0 l1 l2 b0 b1 : Int} {g d : Bool} (hw : I w) (ht : I t) : ∃ r, grow_Slow.f w t l0 l1 l2 g d b0 b1 = some r ∧ I r := by
  rw [grow_Slow.eq hw ht]
  refine ⟨_, rfl, ?_⟩
  have : 131072 ≤ slowQ w t g d ∧ slowQ w t g d ≤ 68719476736 := win_bd _
  omega
theorem both_ {w t e u : Int} (hw : I w) (ht : I t) (he : I e) (hu : I u) : ∃ r, grow_Both.f w t e u = some r ∧ I r := by
  rw [grow_Both.eq hw ht he hu]
  refine ⟨_, rfl, ?_⟩
  have : 131072 ≤ bothQ w t e u ∧ bothQ w t e u ≤ 68719476736 := win_bd _
  omega
theorem rate_ {w s m f : Int} {h b : Bool} (h1 : I w) (h2 : I s) (h3 : I m) (h4 : I f) : ∃ r, rate_OfS.f w s h m f b = some r ∧ 0 ≤ r ∧ I r := by
  rw [rate_OfS.eq h1 h2 h3 h4]
  have t := timeQ_bd h m f
  have r := rate_I w s t.1 t.2 b
  refine ⟨_, rfl, ?_, ?_⟩ <;> unfold rateQ max1 <;> (repeat' split) <;> omega
theorem fill_ {t h u r m : Int} (ht : bOk t h = true) (hu : t ≤ u) (hu' : u ≤ 1099511627776) (hr : 0 ≤ r) (hI : I r) (hm : I m) : ∃ b2, bucket_FillS.f t h u r m = some (u, b2, 0) ∧ 0 ≤ b2 ∧ b2 ≤ h + r * (u - t) := by
  obtain ⟨b1, b2, b3, b4⟩ := bOk_iff.1 ht
  rw [bucket_FillS.eq (by omega) (by omega) (by omega) hI hm]
  unfold fillB
  rw [if_pos ht, if_pos (by omega), if_neg (by omega)]
  have hc : clamp r 0 1099511627776 ≤ r ∧ 0 ≤ clamp r 0 1099511627776 := by unfold clamp; (repeat' split) <;> omega
  have hT : 0 ≤ topB m := by have := clamp_bd (a := m) (low := 0) (high := 1099511627776) (by omega); unfold topB; omega
  have k1 : 0 ≤ clamp r 0 1099511627776 * (u - t) := Int.mul_nonneg hc.2 (by omega)
  have k2 : clamp r 0 1099511627776 * (u - t) ≤ r * (u - t) := Int.mul_le_mul_of_nonneg_right hc.1 (by omega)
  refine ⟨_, rfl, ?_, ?_⟩ <;> unfold fillH <;> (repeat' split) <;> omega
theorem take_ {t h n : Int} (hn : I n) (h0 : 0 ≤ h) : ∃ b1 b2 c, bucket_TakeS.f t h n = some (b1, b2, c) ∧ b1 = t ∧ (c = 0 → b2 = h - n * 1000000 ∧ 0 ≤ b2) := by
  rw [bucket_TakeS.eq hn]
  unfold tkB
  (repeat' split)
  · exact ⟨_, _, _, rfl, rfl, fun h => by cases h⟩
  · exact ⟨_, _, _, rfl, rfl, fun h => by cases h⟩
  · exact ⟨_, _, _, rfl, rfl, fun _ => ⟨rfl, by omega⟩⟩
  · exact ⟨_, _, _, rfl, rfl, fun h => by cases h⟩
theorem hySample_ (a0 a1 a2 : Int) (a3 a4 : Bool) (a5 a6 t : Int) : ∃ h1 h2 h3 h4 h5 h6 h7 c, hySample a0 a1 a2 a3 a4 a5 a6 t = .tuple #[.agg #[.int .i64 h1, .int .i64 h2, .int .i64 h3, .bool h4, .bool h5, .int .i64 h6, .int .i64 h7], .int .i64 c] := by
  have hT : ∀ l m, ∃ h1 h2 h3 h4 h5 h6 h7, hyTime a0 l m a3 a4 a5 a6 = .agg #[.int .i64 h1, .int .i64 h2, .int .i64 h3, .bool h4, .bool h5, .int .i64 h6, .int .i64 h7] := by
    intro l m
    unfold hyTime
    cases (m == 8) <;> cases a4 <;> cases a3 <;> exact ⟨_, _, _, _, _, _, _, rfl⟩
  unfold hySample
  generalize (hyCheck a0 a1 a2 a3 a4 a5 a6 && !(decide (t < 1)) && hyMay t) = b
  cases b
  · exact ⟨_, _, _, _, _, _, _, _, rfl⟩
  · obtain ⟨h1, h2, h3, h4, h5, h6, h7, h⟩ := hT (cond (a1 == 0 || decide (t < a1)) t a1) (hyMin8 (wrap64 (a2 + 1)))
    exact ⟨_, _, _, _, _, _, _, _, by rw [h]; rfl⟩
theorem hyRound_ (k : Bool) (a0 a1 a2 : Int) (a3 a4 : Bool) (a5 a6 : Int) : ∃ h1 h2 h3 h4 h5 h6 h7 c, hyRound k a0 a1 a2 a3 a4 a5 a6 = .tuple #[.agg #[.int .i64 h1, .int .i64 h2, .int .i64 h3, .bool h4, .bool h5, .int .i64 h6, .int .i64 h7], .int .i64 c] := by
  unfold hyRound
  cases k
  · exact ⟨_, _, _, _, _, _, _, _, rfl⟩
  · simp only [cond_true]
    (repeat' split) <;> exact ⟨_, _, _, _, _, _, _, _, rfl⟩
end
section
open Go.Proofs.YtfahbgkoldoflaaGreatDoor.Sp
/-- What is kept from event to event. -/
structure Inv (s : Ln) : Prop where
  e1 : I s.estart
  e2 : I s.efirst
  e3 : I s.emax
  cf : cfgOk s.seg s.mx s.fst s.grain s.least s.great s.burst
  st : s.sent ≤ 9223372036854775807
  bt : s.bat = s.now
  bh : 0 ≤ s.bhave
/-- What Check lets by. -/
structure Fits (s : Ln) : Prop where
  now : 0 ≤ s.now ∧ s.now ≤ 1099511627776
  last : 0 ≤ s.last ∧ s.last ≤ s.now
  win : 131072 ≤ s.win ∧ s.win ≤ s.mx * 65536
  high : 0 ≤ s.high ∧ s.high ≤ 68719476736
  fl : 0 ≤ s.told ∧ 0 ≤ s.out ∧ s.told + s.out ≤ s.sent
  rt : I s.mean ∧ I s.far
  ep : I s.ek ∧ I s.eest
  bk : bOk s.bat s.bhave = true
  back : 0 ≤ s.back ∧ s.back ≤ 64
theorem i0_ : I 0 := by omega
theorem btw_ (a b c : Int) : ∃ r, engine_between.f a b c = some r ∧ (r = true → b ≤ a ∧ a ≤ c) := by
  unfold engine_between.f
  by_cases h : a ≥ b
  · rw [if_pos h]; exact ⟨_, rfl, fun q => ⟨h, of_decide_eq_true q⟩⟩
  · rw [if_neg h]; exact ⟨_, rfl, fun q => by cases q⟩
theorem clk_ (a : Int) : ∃ r, clock_Check.f a = some r ∧ (r = true → 0 ≤ a ∧ a ≤ 1099511627776) := by
  unfold clock_Check.f
  by_cases h : a ≥ 0
  · rw [if_pos h]; exact ⟨_, rfl, fun q => ⟨h, of_decide_eq_true q⟩⟩
  · rw [if_neg h]; exact ⟨_, rfl, fun q => by cases q⟩
theorem rttC_ (h : Bool) (m f : Int) : ∃ r, rtt_Check.f h m f = some r ∧ (r = true → I m ∧ I f) := by
  unfold rtt_Check.f
  cases h
  · refine ⟨_, rfl, fun q => ?_⟩
    simp at q
    omega
  · rw [if_pos rfl]
    by_cases h1 : m ≥ 8 <;> by_cases h2 : m ≤ 8589934592 <;> by_cases h3 : f ≥ 0 <;> simp [h1, h2, h3] <;> omega
theorem eOk_I {o : Bool} {s f m k e : Int} (h : eOk o s f m k e = true) : I k ∧ I e := by
  cases o
  · obtain ⟨_, _, _, h4, h5⟩ := eOk_off.1 h
    omega
  · have := eOn_k (eOk_on.1 h)
    obtain ⟨_, _, _, _, _, _, h7, h8, _⟩ := eOk_on.1 h
    omega
theorem check_law (s : Ln) (hI : Inv s) (x : Sl) (l : List S119) (hl : l.length ≤ 1000000) : ∃ k, Aside0 (∀ W : World, Kd.C k119 W x.A x.m l → Tens W → Calls Tryz.prog 30 #[.agg (s.at x).cells] W fun e W' => e = .returned (.bool k) ∧ Below W.heap.size W W') ∧ (k = true → Fits s) := by
  obtain ⟨b1, h1, g1⟩ := clk_ s.now
  obtain ⟨b2, h2, g2⟩ := btw_ s.last 0 s.now
  obtain ⟨b3, h3, g3⟩ := btw_ s.win 131072 (wrap64 (s.mx * 65536))
  obtain ⟨b4, h4, g4⟩ := btw_ s.thresh 131072 68719476736
  obtain ⟨b5, h5, g5⟩ := btw_ s.high 0 68719476736
  obtain ⟨b6, h6⟩ := flC_t s.sent s.told s.out
  obtain ⟨b7, h7, g7⟩ := rttC_ s.has s.mean s.far
  obtain ⟨b10, h10⟩ : ∃ r, round_Check.f s.rid s.rend = some r := by unfold round_Check.f; split <;> exact ⟨_, rfl⟩
  obtain ⟨b15, h15, _⟩ := btw_ s.recov 0 s.sent
  obtain ⟨b16, h16, g16⟩ := btw_ s.back 0 64
  refine ⟨(((0 : Int) == 0) && ((b1) && ((b2) && ((b3) && ((b4) && ((b5) && ((b6) && ((b7) && ((leastOk l) && (((!decide (firstIx (fun m => decide (m.f0 > s.now) || !(decide (m.f1 ≥ 1) && decide (m.f1 ≤ 1073741824))) l ≥ 0))) && ((b10) && ((hyCheck s.hlast s.hleast s.hmany s.hgentle s.hdone s.hbase s.hrounds) && ((eOk s.eon s.estart s.efirst s.emax s.ek s.eest) && ((bOk s.bat s.bhave) && ((!decide (s.bat > s.now)) && ((b15) && (b16))))))))))))))))), ⟨fun W hC hT => ?_⟩, ?_⟩
  · obtain ⟨A, m, c⟩ := x
    have hm : l.length = m := hC.1
    subst hm
    exact check_w s A c l 0 b1 b2 b3 b4 b5 b6 b7 (leastOk l) (!decide (firstIx (fun m => decide (m.f0 > s.now) || !(decide (m.f1 ≥ 1) && decide (m.f1 ≤ 1073741824))) l ≥ 0)) b10 (hyCheck s.hlast s.hleast s.hmany s.hgentle s.hdone s.hbase s.hrounds) (eOk s.eon s.estart s.efirst s.emax s.ek s.eest) (bOk s.bat s.bhave) (!decide (s.bat > s.now)) b15 b16 W hC hl hT
      ⟨by unfold guide_Check.f; rw [chkQ_ok hI.cf]⟩ ⟨h1⟩ ⟨h2⟩ ⟨h3⟩ ⟨h4⟩ ⟨h5⟩ ⟨h6⟩ ⟨h7⟩ ⟨rfl⟩ ⟨(Bool.not_not _).symm⟩ ⟨h10⟩ ⟨rfl⟩ ⟨epoch_CheckS.eq hI.e1 hI.e2 hI.e3⟩ ⟨bucket_CheckS.eq⟩ ⟨(Bool.not_not _).symm⟩ ⟨h15⟩ ⟨h16⟩
  · intro hk
    simp only [Bool.and_eq_true] at hk
    obtain ⟨_, k1, k2, k3, _, k5, k6, k7, _, _, _, _, k12, k13, _, _, k16⟩ := hk
    have hw := g3 k3
    have hc := hI.cf
    obtain ⟨_, _, _, c4, _⟩ := hc
    rw [w64_ (by have := hI.cf.2.2.1; omega)] at hw
    exact ⟨g1 k1, g2 k2, hw, g5 k5, flC_ h6 hI.st k6, g7 k7, eOk_I k12, k13, g16 k16⟩
/-- What an event leaves. -/
structure Post (s : Ln) (ek eb rt : Int) (t : Ln) : Prop where
  inv : Inv t
  seg : t.seg = s.seg
  win : 131072 ≤ t.win ∧ t.win ≤ 68719476736
  snt : t.sent = s.sent + (if ek = 6 then eb else 0)
  tld : t.told = s.told + (if ek = 1 then eb else 0)
  out : t.out = s.out + (if ek = 6 then eb else 0) - (if ek = 1 ∨ ek = 2 then eb else if ek = 4 then s.out else 0)
  room : ek = 6 → t.out ≤ t.win * t.seg / 65536
  now : s.now ≤ t.now ∧ t.now ≤ 1099511627776
  pos : 0 ≤ t.told ∧ 0 ≤ t.out ∧ t.told + t.out ≤ t.sent
  bk : t.sent * 1000000 + t.bhave ≤ s.sent * 1000000 + s.bhave + rt * (t.now - s.now)
theorem evN_0 {ek eb er : Int} {ct : Bool} (h : evN ek eb er ct = 0) : (1 ≤ ek ∧ ek ≤ 7) ∧ ct = true ∧ (ek = 1 ∨ ek = 2 ∨ ek = 6 → 1 ≤ eb ∧ eb ≤ 1073741824) := by
  unfold evN at h
  by_cases c : 1 ≤ ek ∧ ek ≤ 7
  · rw [if_pos c] at h
    cases ct
    · cases h
    refine ⟨c, rfl, fun hk => ?_⟩
    rcases e : evRight ek eb er with _ | _
    · rw [e] at h; cases h
    · unfold evRight at e
      by_cases k1 : ek = 1
      · rw [if_pos k1] at e; simp [evFull, evSome] at e; omega
      · rw [if_neg k1, if_pos (by omega)] at e; simp [evBytes, evSome] at e; omega
  · rw [if_neg c] at h; cases h
theorem calls_to {W : World} {g B F : Nat} {args : Array Value} {l : List S119} {P R : Ln → Prop} (h : Calls Tryz.prog F args W fun e W' => Wr g W W' ∧ ((e = .returned (.tuple #[]) ∧ ∃ t z l', P t ∧ l'.length ≤ l.length + 1 ∧ Mk g B W' z l' ∧ At W' g (Ln.at t z)) ∨ ∃ n, n ≠ 0 ∧ e = .panicked (erL n))) (hp : ∀ t, P t → R t) :
    Calls Tryz.prog F args W fun e W' => Wr g W W' ∧ ((e = .returned (.tuple #[]) ∧ ∃ t z l', R t ∧ l'.length ≤ l.length + 1 ∧ Mk g B W' z l' ∧ At W' g (Ln.at t z)) ∨ True ∧ ∃ n, n ≠ 0 ∧ e = .panicked (erL n)) :=
  h.mono fun e W' ⟨hw, h⟩ => ⟨hw, h.imp (fun ⟨he, t, z, l', ht, q⟩ => ⟨he, t, z, l', hp t ht, q⟩) fun q => ⟨trivial, q⟩⟩
theorem calls_to' {W : World} {g B F : Nat} {args : Array Value} {l : List S119} {P R : Ln → Prop} {Z : Prop} (h : Calls Tryz.prog F args W fun e W' => Wr g W W' ∧ ((e = .returned (.tuple #[]) ∧ ∃ t z l', P t ∧ l'.length ≤ l.length + 1 ∧ Mk g B W' z l' ∧ At W' g (Ln.at t z)) ∨ Z ∧ ∃ n, n ≠ 0 ∧ e = .panicked (erL n))) (hp : ∀ t, P t → R t) :
    Calls Tryz.prog F args W fun e W' => Wr g W W' ∧ ((e = .returned (.tuple #[]) ∧ ∃ t z l', R t ∧ l'.length ≤ l.length + 1 ∧ Mk g B W' z l' ∧ At W' g (Ln.at t z)) ∨ Z ∧ ∃ n, n ≠ 0 ∧ e = .panicked (erL n)) :=
  h.mono fun e W' ⟨hw, h⟩ => ⟨hw, h.imp (fun ⟨he, t, z, l', ht, q⟩ => ⟨he, t, z, l', hp t ht, q⟩) id⟩
/-- What do_w asks of an event's method. -/
def Does (s s1 : Ln) (F : Nat) (ek ea eb er rt : Int) (l : List S119) : Prop :=
  ∀ (W : World) (g B : Nat) (y : Sl), At W g (Ln.at s1 y) → Mk g B W y l → g < W.heap.size → B ≤ W.heap.size → Tens W → Calls Tryz.prog F #[.pointer (some ⟨g, 0, none⟩), .agg #[.int .i64 ek, .int .i64 ea, .int .i64 eb, .int .i64 er]] W fun e W' => Wr g W W' ∧ ((e = .returned (.tuple #[]) ∧ ∃ t z l', Post s ek eb rt t ∧ l'.length ≤ l.length + 1 ∧ Mk g B W' z l' ∧ At W' g (Ln.at t z)) ∨ True ∧ ∃ n, n ≠ 0 ∧ e = .panicked (erL n))
section
variable {s : Ln} {ek ea eb er rt b : Int} {l : List S119}
/-- What is known when an event's method is called. -/
structure Now (s : Ln) (ea rt b : Int) : Prop where
  i : Inv s
  f : Fits s
  a1 : s.now ≤ ea
  a2 : ea ≤ 1099511627776
  b1 : 0 ≤ b
  b2 : b ≤ s.bhave + rt * (ea - s.now)
theorem Now.post (h : Now s ea rt b) (hk : ek = 3 ∨ ek = 5 ∨ ek = 7) (t : Ln) (h1 : t.sent = s.sent) (h2 : t.told = s.told) (h3 : t.out = s.out) (h4 : t.now = ea) (h5 : t.bhave = b) (h6 : t.seg = s.seg) (h7 : 131072 ≤ t.win ∧ t.win ≤ 68719476736) (hI : Inv t) : Post s ek eb rt t := by
  obtain ⟨f1, f2, f3⟩ := h.f.fl
  refine ⟨hI, h6, h7, ?_, ?_, ?_, fun e => by omega, by have := h.a1; have := h.a2; omega, by omega, ?_⟩
  · rw [h1, if_neg (by omega)]; omega
  · rw [h2, if_neg (by omega)]; omega
  · rw [h3, if_neg (by omega), if_neg (by omega), if_neg (by omega)]; omega
  · rw [h1, h4, h5]; have := h.b2; omega
theorem Now.w (h : Now s ea rt b) : 131072 ≤ s.win ∧ s.win ≤ 68719476736 := by
  have := h.f.win; have := h.i.cf.2.2.2.1; omega
theorem does_tick (h : Now s ea rt b) : Does s { s with now := ea, bat := ea, bhave := b } 44 7 ea eb er rt l := fun W g B y hA hM _ _ _ =>
  calls_to (hm_tick _ 7 ea eb er l W g B y hA hM) fun t ht => by subst ht; exact h.post (.inr (.inr rfl)) _ rfl rfl rfl rfl rfl rfl h.w ⟨h.i.e1, h.i.e2, h.i.e3, h.i.cf, h.i.st, rfl, h.b1⟩
theorem does_idle (h : Now s ea rt b) : Does s { s with now := ea, bat := ea, bhave := b } 43 5 ea eb er rt l := fun W g B y hA hM _ _ _ =>
  calls_to (hm_idle _ 5 ea eb er l W g B y hA hM) fun t ht => by subst ht; exact h.post (.inr (.inl rfl)) _ rfl rfl rfl rfl rfl rfl h.w ⟨h.i.e1, h.i.e2, h.i.e3, h.i.cf, h.i.st, rfl, h.b1⟩
theorem cutL_in {u : Ln} {W1 H1 : Int} {P : Ln → Prop} (h1 : P u) (h2 : P { u with win := W1, thresh := W1, high := H1, recov := u.sent, eon := false, estart := 0, efirst := 0, emax := 0, ek := 0, eest := 0, hlast := 0, hleast := 0, hmany := 0, hgentle := false, hdone := true, hbase := 0, hrounds := 0 }) : P (cutL u W1 H1) := by
  unfold cutL
  split
  · exact h1
  · exact h2
theorem does_ecn (h : Now s ea rt b) : Does s { s with now := ea, bat := ea, bhave := b } 41 3 ea eb er rt l := fun W g B y hA hM _ _ _ => by
  have hw := h.w
  obtain ⟨W1, H1, h1, _, h2, h3⟩ := loss_ (w := s.win) (h := s.high) (by omega) (by have := h.f.high; omega) hw.1 hw.2
  refine calls_to (hm_ecn { s with now := ea, bat := ea, bhave := b } 3 ea eb er W1 H1 h1 l W g B y hA hM) fun t ht => ?_
  subst ht
  exact cutL_in (P := Post s 3 eb rt) (h.post (.inl rfl) _ rfl rfl rfl rfl rfl rfl hw ⟨h.i.e1, h.i.e2, h.i.e3, h.i.cf, h.i.st, rfl, h.b1⟩) (h.post (.inl rfl) _ rfl rfl rfl rfl rfl rfl ⟨h2, by show W1 ≤ _; omega⟩ ⟨i0_, i0_, i0_, h.i.cf, h.i.st, rfl, h.b1⟩)
theorem does_lose (h : Now s ea rt b) : Does s { s with now := ea, bat := ea, bhave := b } 40 2 ea eb er rt l := fun W g B y hA hM _ _ _ => by
  have hw := h.w
  obtain ⟨q1, q2, q3⟩ := h.f.fl
  obtain ⟨W1, H1, h1, _, h2, h3⟩ := loss_ (w := s.win) (h := s.high) (by omega) (by have := h.f.high; omega) hw.1 hw.2
  obtain ⟨f1, f2, f3, c1, hL, hf, _⟩ := flL_ (a := s.sent) (b := s.told) (c := s.out) eb h.i.st q1 q2 q3
  refine calls_to (hm_lose 1 { s with now := ea, bat := ea, bhave := b } 2 ea eb er f1 f2 f3 c1 W1 H1 hL h1 l W g B y hA hM) fun t ht => ?_
  obtain ⟨h0, rfl⟩ := ht
  obtain ⟨rfl, rfl, rfl, n1, n2⟩ := hf h0
  have k : ∀ u : Ln, u.sent = s.sent → u.told = s.told → u.out = s.out - eb → u.now = ea → u.bhave = b → u.seg = s.seg → (131072 ≤ u.win ∧ u.win ≤ 68719476736) → Inv u → Post s 2 eb rt u := fun u h1 h2 h3 h4 h5 h6 h7 hI =>
    ⟨hI, h6, h7, by rw [h1]; simp, by rw [h2]; simp, by rw [h3]; simp, (fun e => by cases e), (by have := h.a1; have := h.a2; omega), (by omega), (by rw [h1, h4, h5]; have := h.b2; omega)⟩
  exact cutL_in (P := Post s 2 eb rt) (k _ rfl rfl rfl rfl rfl rfl hw ⟨h.i.e1, h.i.e2, h.i.e3, h.i.cf, h.i.st, rfl, h.b1⟩) (k _ rfl rfl rfl rfl rfl rfl ⟨h2, by show W1 ≤ _; omega⟩ ⟨i0_, i0_, i0_, h.i.cf, h.i.st, rfl, h.b1⟩)
theorem does_late (h : Now s ea rt b) : Does s { s with now := ea, bat := ea, bhave := b } 42 4 ea eb er rt l := fun W g B y hA hM _ _ _ => by
  have hw := h.w
  obtain ⟨q1, q2, q3⟩ := h.f.fl
  obtain ⟨W1, H1, _, h1, h2, h3⟩ := loss_ (w := s.win) (h := s.high) (by omega) (by have := h.f.high; omega) hw.1 hw.2
  obtain ⟨f1, f2, f3, c1, hL, hf, _⟩ := flL_ (a := s.sent) (b := s.told) (c := s.out) s.out h.i.st q1 q2 q3
  obtain ⟨Bk, hB⟩ := rtoB_ s.has s.mean s.far s.seg s.mx s.fst s.grain s.least s.great s.burst s.back h.f.back.1 h.f.back.2
  refine calls_to (hm_late 66 1 { s with now := ea, bat := ea, bhave := b } 4 ea eb er Bk f1 f2 f3 c1 W1 H1 _ hB h1 hL rfl l W g B y hA hM) fun t ht => ?_
  obtain ⟨_, h0, rfl⟩ := ht
  obtain ⟨rfl, rfl, rfl, n1, n2⟩ := hf h0
  refine ⟨⟨i0_, i0_, i0_, h.i.cf, h.i.st, rfl, h.b1⟩, rfl, ⟨by show (131072 : Int) ≤ 131072; omega, by show (131072 : Int) ≤ _; omega⟩, ?_, ?_, ?_, (fun e => by cases e), ⟨h.a1, h.a2⟩, ⟨q1, ?_, ?_⟩, ?_⟩
  · simp
  · simp
  · simp
  · show 0 ≤ s.out - s.out; omega
  · show s.told + (s.out - s.out) ≤ s.sent; omega
  · show s.sent * 1000000 + b ≤ s.sent * 1000000 + s.bhave + rt * (ea - s.now)
    have := h.b2; omega
theorem does_send (h : Now s ea rt b) (hb : 1 ≤ eb ∧ eb ≤ 1073741824) : Does s { s with now := ea, bat := ea, bhave := b } 38 6 ea eb er rt l := fun W g B y hA hM _ _ _ => by
  have hw := h.w
  obtain ⟨q1, q2, q3⟩ := h.f.fl
  have hs := h.i.cf
  obtain ⟨s1, s2, _⟩ := hs
  have hn := h.f.now
  have hl := h.f.last
  have ha1 := h.a1
  have ha2 := h.a2
  obtain ⟨W1, p1, p2, p3, p4, p5, p6, hO, hO', w1, w2, i2, i3, i4⟩ : ∃ W1 p1 p2 p3 p4 p5 p6, (s.out = 0 → ∃ T, rto_Of.f 66 s.has s.mean s.far s.seg s.mx s.fst s.grain s.least s.great s.burst s.back = some T ∧ guide_Idle.f s.win s.last ea T s.seg s.mx s.fst s.grain s.least s.great s.burst = some W1 ∧ guide_Pause.f s.eon s.estart s.efirst s.emax s.ek s.eest s.last ea = some (p1, p2, p3, p4, p5, p6)) ∧ (s.out ≠ 0 → s.win = W1 ∧ s.eon = p1 ∧ s.estart = p2 ∧ s.efirst = p3 ∧ s.emax = p4 ∧ s.ek = p5 ∧ s.eest = p6) ∧ 131072 ≤ W1 ∧ W1 ≤ 68719476736 ∧ I p2 ∧ I p3 ∧ I p4 := by
    by_cases c : s.out = 0
    · obtain ⟨T, hT⟩ := rtoOf_ s.has s.mean s.far s.seg s.mx s.fst s.grain s.least s.great s.burst s.back h.f.back.1 h.f.back.2
      obtain ⟨W1, k1, k2, k3⟩ := idle_ (l := s.last) (n := ea) (t := T) h.i.cf (by omega) (by omega) hw.1
      obtain ⟨p1, p2, p3, p4, p5, p6, k4, k5, k6, k7⟩ := pause_ (o := s.eon) (k := s.ek) (e := s.eest) (l := s.last) (n := ea) h.i.e1 h.i.e2 h.i.e3 (by omega) (by omega)
      exact ⟨W1, p1, p2, p3, p4, p5, p6, fun _ => ⟨T, hT, k1, k4⟩, fun q => absurd c q, k2, by omega, k5, k6, k7⟩
    · exact ⟨s.win, s.eon, s.estart, s.efirst, s.emax, s.ek, s.eest, fun q => absurd q c, fun _ => ⟨rfl, rfl, rfl, rfl, rfl, rfl, rfl⟩, hw.1, hw.2, h.i.e1, h.i.e2, h.i.e3⟩
  obtain ⟨hR, r1, r2⟩ := bytes_ (w := W1) (s := s.seg) (by omega) w2 s1 s2
  obtain ⟨f1, f2, f3, c1, hS, hf, c0⟩ := flS_ (a := s.sent) (b := s.told) (c := s.out) eb (W1 * s.seg / 65536) h.i.st q1 q2 q3 hb.1 hb.2 (by omega)
  obtain ⟨t1, t2, c2, hB, ht1, hb2⟩ := take_ (t := ea) (h := b) (n := eb) (by omega) h.b1
  rw [ht1] at hB
  have hU : guide_UsedS.f W1 f3 s.seg = some (usedQ W1 f3 s.seg) := guide_UsedS.eq (by omega) c0 (by omega)
  refine calls_to' (hm_send 66 1 { s with now := ea, bat := ea, bhave := b } 6 ea eb er W1 p2 p3 p4 p5 p6 (W1 * s.seg / 65536) f1 f2 f3 ea t2 c1 c2 p1 (usedQ W1 f3 s.seg) hO hO' hR hS hB hU True (fun _ => trivial) l W g B y hA hM) fun t ht => ?_
  obtain ⟨h0, h2, rfl⟩ := ht
  obtain ⟨rfl, rfl, rfl, n1, n2⟩ := hf h0
  obtain ⟨rfl, n3⟩ := hb2 h2
  refine ⟨⟨i2, i3, i4, h.i.cf, n1, rfl, n3⟩, rfl, ⟨w1, w2⟩, ?_, ?_, ?_, fun _ => n2, ⟨h.a1, h.a2⟩, ⟨q1, ?_, ?_⟩, ?_⟩
  · simp
  · simp
  · simp
  · show 0 ≤ s.out + eb; omega
  · show s.told + (s.out + eb) ≤ s.sent + eb; omega
  · show (s.sent + eb) * 1000000 + (b - eb * 1000000) ≤ s.sent * 1000000 + s.bhave + rt * (ea - s.now)
    have := h.b2; omega
end
end
section
open Go.Proofs.YtfahbgkoldoflaaGreatDoor.Sp
section
variable {s : Ln} {ek ea eb er rt b : Int} {l : List S119}
set_option maxHeartbeats 1000000 in
theorem does_ack (h : Now s ea rt b) (hb : 1 ≤ eb ∧ eb ≤ 1073741824) (hl : l.length ≤ 1000000) : Does s { s with now := ea, bat := ea, bhave := b } 39 1 ea eb er rt l := fun W g B y hA hM hg hBs hTe => by
  have hw := h.w
  obtain ⟨q1, q2, q3⟩ := h.f.fl
  obtain ⟨s1, s2, s3, s4, _⟩ := id h.i.cf
  have hn := h.f.now
  have ha1 := h.a1
  have ha2 := h.a2
  have hh := h.f.high
  obtain ⟨f1, f2, f3, c1, hF, hf, _⟩ := flA_ (a := s.sent) (b := s.told) (c := s.out) eb h.i.st q1 q2 q3
  obtain ⟨r1, r2, r3, cR, hR, hR'⟩ : ∃ r1 r2 r3 cR, (er ≠ 0 → rtt_Sample.f 1 s.has s.mean s.far er = some (r1, r2, r3, cR)) ∧ (er = 0 → s.has = r1 ∧ s.mean = r2 ∧ s.far = r3) := by
    by_cases c : er = 0
    · exact ⟨s.has, s.mean, s.far, 0, fun q => absurd c q, fun _ => ⟨rfl, rfl, rfl⟩⟩
    · obtain ⟨r1, r2, r3, cR, k⟩ := rttS_ s.has s.mean s.far er
      exact ⟨r1, r2, r3, cR, fun _ => k, fun q => absurd q c⟩
  obtain ⟨h1, h2, h3, h4, h5, h6, h7, c3, hH, hH'⟩ : ∃ h1 h2 h3 h4 h5 h6 h7 c3, (er ≠ 0 → s.win < s.thresh → hySample s.hlast s.hleast s.hmany s.hgentle s.hdone s.hbase s.hrounds er = .tuple #[.agg #[.int .i64 h1, .int .i64 h2, .int .i64 h3, .bool h4, .bool h5, .int .i64 h6, .int .i64 h7], .int .i64 c3]) ∧ (er = 0 ∨ ¬ s.win < s.thresh → c3 = 0 ∧ s.hlast = h1 ∧ s.hleast = h2 ∧ s.hmany = h3 ∧ s.hgentle = h4 ∧ s.hdone = h5 ∧ s.hbase = h6 ∧ s.hrounds = h7) := by
    by_cases c : er = 0 ∨ ¬ s.win < s.thresh
    · exact ⟨_, _, _, _, _, _, _, 0, fun q1 q2 => c.elim (fun q => absurd q q1) (fun q => absurd q2 q), fun _ => ⟨rfl, rfl, rfl, rfl, rfl, rfl, rfl, rfl⟩⟩
    · obtain ⟨h1, h2, h3, h4, h5, h6, h7, c3, k⟩ := hySample_ s.hlast s.hleast s.hmany s.hgentle s.hdone s.hbase s.hrounds er
      exact ⟨h1, h2, h3, h4, h5, h6, h7, c3, fun _ _ => k, fun q => absurd q c⟩
  obtain ⟨rok, hro⟩ : ∃ r, round_Check.f s.rid s.rend = some r := by unfold round_Check.f; split <;> exact ⟨_, rfl⟩
  obtain ⟨q1', q2', ov, c4, hrn⟩ : ∃ a b o c, rdNext s.rid s.rend (wrap64 (f1 - f3)) f1 rok = ((a, b), o, c) := ⟨_, _, _, _, rfl⟩
  obtain ⟨e1, e2, e3, e4, e5, e6, e7, c5, hE, hE'⟩ : ∃ e1 e2 e3 e4 e5 e6 e7 c5, ((ov && decide (s.win < s.thresh)) = true → hyRound (hyCheck h1 h2 h3 h4 h5 h6 h7) h1 h2 h3 h4 h5 h6 h7 = .tuple #[.agg #[.int .i64 e1, .int .i64 e2, .int .i64 e3, .bool e4, .bool e5, .int .i64 e6, .int .i64 e7], .int .i64 c5]) ∧ ((ov && decide (s.win < s.thresh)) = false → h1 = e1 ∧ h2 = e2 ∧ h3 = e3 ∧ h4 = e4 ∧ h5 = e5 ∧ h6 = e6 ∧ h7 = e7) := by
    rcases c : (ov && decide (s.win < s.thresh)) with _ | _
    · exact ⟨_, _, _, _, _, _, _, 0, fun q => (by cases q), fun _ => ⟨rfl, rfl, rfl, rfl, rfl, rfl, rfl⟩⟩
    · obtain ⟨e1, e2, e3, e4, e5, e6, e7, c5, k⟩ := hyRound_ (hyCheck h1 h2 h3 h4 h5 h6 h7) h1 h2 h3 h4 h5 h6 h7
      exact ⟨e1, e2, e3, e4, e5, e6, e7, c5, fun _ => k, fun q => (by cases q)⟩
  obtain ⟨td, hS, htd⟩ := segs_ (n := eb) (s := s.seg) (by omega) hb.2 s1 s2
  obtain ⟨G, hG, hGi⟩ := slow_ (w := s.win) (t := td) (l0 := e1) (l1 := e2) (l2 := e3) (b0 := e6) (b1 := e7) (g := e4) (d := e5) (by omega) htd
  obtain ⟨W2, hL, w1, w2⟩ := limit_ (b := s.mx) (w := G) s3 s4 hGi
  obtain ⟨p1, p2, p3, p4, p5, p6, cE, hB, hB', i2, i3, i4, i5, i6⟩ : ∃ p1 p2 p3 p4 p5 p6 cE, (s.eon = false → epoch_BeginS.f ea s.win s.high = some (p1, p2, p3, p4, p5, p6, cE)) ∧ (s.eon = true → p1 = s.eon ∧ p2 = s.estart ∧ p3 = s.efirst ∧ p4 = s.emax ∧ p5 = s.ek ∧ p6 = s.eest) ∧ I p2 ∧ I p3 ∧ I p4 ∧ I p5 ∧ I p6 := by
    rcases c : s.eon with _ | _
    · obtain ⟨p1, p2, p3, p4, p5, p6, cE, k, i2, i3, i4, i5, i6⟩ := begin_ (s := ea) (f := s.win) (m := s.high) (by omega) (by omega) (by omega)
      exact ⟨p1, p2, p3, p4, p5, p6, cE, fun _ => k, fun q => (by cases q), i2, i3, i4, i5, i6⟩
    · exact ⟨true, s.estart, s.efirst, s.emax, s.ek, s.eest, 0, fun q => (by cases q), fun _ => ⟨rfl, rfl, rfl, rfl, rfl, rfl⟩, h.i.e1, h.i.e2, h.i.e3, h.f.ep.1, h.f.ep.2⟩
  obtain ⟨E, hSt, hEi⟩ := step_ (a := p6) (b := p4) (c := s.win) (d := td) i6 i4 (by omega) htd
  obtain ⟨T, hAf, hTi⟩ := after_ ea (wrap64 (Int.tdiv r2 8))
  obtain ⟨tg, hTg, hgi⟩ := target_ (o := p1) (s := p2) (f := p3) (m := p4) (k := p5) (e := E) (n := T) (w := s.win) i2 i3 i4 i5 hTi (by omega)
  obtain ⟨Gc, hBo, hci⟩ := both_ (w := s.win) (t := tg) (e := E) (u := td) (by omega) hgi hEi htd
  obtain ⟨W3, hLi, w3, w4⟩ := limit_ (b := s.mx) (w := Gc) s3 s4 hci
  have k : c1 = 0 → ∀ u : Ln, u.sent = f1 → u.told = f2 → u.out = f3 → u.now = ea → u.bhave = b → u.seg = s.seg → (131072 ≤ u.win ∧ u.win ≤ 68719476736) → Inv u → Post s 1 eb rt u := fun h0 u h1 h2 h3 h4 h5 h6 h7 hI => by
    obtain ⟨k1, k2, k3, n1, n2⟩ := hf h0
    rw [k1] at h1; rw [k2] at h2; rw [k3] at h3
    exact ⟨hI, h6, h7, by rw [h1]; simp, by rw [h2]; simp, by rw [h3]; simp, (fun e => by cases e), (by omega), (by omega), (by rw [h1, h4, h5]; have := h.b2; omega)⟩
  have ks : c1 = 0 → f1 ≤ 9223372036854775807 := fun h0 => by have := (hf h0).1; have := h.i.st; omega
  refine hm_ack 1 1 1 { s with now := ea, bat := ea, bhave := b } 1 ea eb er f1 f2 f3 c1 r2 r3 cR h1 h2 h3 h6 h7 c3 q1' q2' c4 e1 e2 e3 e6 e7 c5 td 0 G W2 p2 p3 p4 p5 p6 cE E (wrap64 (Int.tdiv r2 8)) T tg Gc W3 r1 h4 h5 ov e4 e5 (leastOk l) rok p1 (ov && decide (s.win < s.thresh)) (Post s 1 eb rt) True l W g B y
    hF rfl hR hR' hH hH' hro hrn rfl hE hE' hS hG hL hB hB' hSt rfl hAf hTg hBo hLi (fun h0 _ => ?_) (fun h0 _ _ => ?_) (fun h0 _ _ => ?_) (fun _ => trivial) hA hM hg hBs hl hTe
  · exact k h0 _ rfl rfl rfl rfl rfl rfl hw ⟨h.i.e1, h.i.e2, h.i.e3, h.i.cf, ks h0, rfl, h.b1⟩
  · exact k h0 _ rfl rfl rfl rfl rfl rfl ⟨w1, by show W2 ≤ _; omega⟩ ⟨h.i.e1, h.i.e2, h.i.e3, h.i.cf, ks h0, rfl, h.b1⟩
  · exact k h0 _ rfl rfl rfl rfl rfl rfl ⟨w3, by show W3 ≤ _; omega⟩ ⟨i2, i3, i4, h.i.cf, ks h0, rfl, h.b1⟩
end
/-- What the engine's Do answers: a state, and, where there is no error, what the event leaves. -/
theorem do_law (s : Ln) (hI : Inv s) (x : Sl) (l : List S119) (k : Bool) (ek ea eb er rt : Int) (w : World) (hC : Rd w x l) (hl : l.length ≤ 1000000) (hL : Tens w)
    (hCk : Aside0 (∀ W : World, Kd.C k119 W x.A x.m l → Tens W → Calls Tryz.prog 30 #[.agg (s.at x).cells] W fun e W' => e = .returned (.bool k) ∧ Below W.heap.size W W')) (hF : k = true → Fits s)
    (hRt : k = true → rate_OfS.f s.win s.seg s.has s.mean s.far (decide (s.win < s.thresh)) = some rt ∧ 0 ≤ rt ∧ I rt) :
    Calls Tryz.prog 13 #[.agg (s.at x).cells, .agg #[.int .i64 ek, .int .i64 ea, .int .i64 eb, .int .i64 er]] w fun e w' => ∃ (t : Ln) (z : Sl) (l' : List S119) (n : Int), e = .returned (.tuple #[.agg (t.at z).cells, .int .i64 n]) ∧ l'.length ≤ l.length + 1 ∧ Own w.heap.size w' z l' ∧ Below w.heap.size w w' ∧ (n = 0 → k = true ∧ Post s ek eb rt t) := by
  obtain ⟨ct, hct, gct⟩ := clk_ ea
  have hEv := fun W => evcheck_w ek ea eb er ct W ⟨hct⟩
  obtain ⟨i, F, hf, hen, hFk⟩ : ∃ (i F : Nat), (evN ek eb er ct = 0 → Instr.findNow (.int .i64) (.int .i64 ek) do_map.toList 0 = some (some (i, .func (.func F) #[] #[]))) ∧ (∀ (args : Array Value) (W : World), (callFunc F args).run Tryz.prog W = .ok (.enter F args) W) ∧ (evN ek eb er ct = 0 → ek = 6 ∧ F = 38 ∨ ek = 1 ∧ F = 39 ∨ ek = 2 ∧ F = 40 ∨ ek = 3 ∧ F = 41 ∨ ek = 4 ∧ F = 42 ∨ ek = 5 ∧ F = 43 ∨ ek = 7 ∧ F = 44) := by
    by_cases c : 1 ≤ ek ∧ ek ≤ 7
    · obtain ⟨i, F, h1, h2⟩ := find_do ek c
      refine ⟨i, F, fun _ => h1, fun args W => ?_, fun _ => h2⟩
      rcases h2 with ⟨_, rfl⟩ | ⟨_, rfl⟩ | ⟨_, rfl⟩ | ⟨_, rfl⟩ | ⟨_, rfl⟩ | ⟨_, rfl⟩ | ⟨_, rfl⟩
      · exact enters_ Tryz.func38 (by kernel_rfl) rfl args W
      · exact enters_ Tryz.func39 (by kernel_rfl) rfl args W
      · exact enters_ Tryz.func40 (by kernel_rfl) rfl args W
      · exact enters_ Tryz.func41 (by kernel_rfl) rfl args W
      · exact enters_ Tryz.func42 (by kernel_rfl) rfl args W
      · exact enters_ Tryz.func43 (by kernel_rfl) rfl args W
      · exact enters_ Tryz.func44 (by kernel_rfl) rfl args W
    · exact ⟨0, 38, fun q => absurd (evN_0 q).1 c, fun args W => enters_ Tryz.func38 (by kernel_rfl) rfl args W, fun q => absurd (evN_0 q).1 c⟩
  by_cases hb : k = true ∧ evN ek eb er ct = 0 ∧ s.now ≤ ea
  rotate_left
  · have no : ∀ {c0 : Int}, k = true → evN ek eb er ct = 0 → (clock_Step.f s.now ea = some (s.now, c0)) → c0 = 0 → False := fun k1 k2 k3 k4 => by
      have ha := gct (evN_0 k2).2.1
      have hn := (hF k1).now
      rw [clock_Step.eq (by omega) (by omega), if_pos ha, if_pos (Int.not_le.1 fun q => hb ⟨k1, k2, q⟩)] at k3
      subst k4
      cases k3
    have st : k = true → evN ek eb er ct = 0 → clock_Step.f s.now ea = some (s.now, 50) := fun k1 k2 => by
      have ha := gct (evN_0 k2).2.1
      have hn := (hF k1).now
      rw [clock_Step.eq (by omega) (by omega), if_pos ha, if_pos (Int.not_le.1 fun q => hb ⟨k1, k2, q⟩)]
    refine (do_w s x l k ek ea eb er (evN ek eb er ct) s.now 50 rt 0 0 0 i F (fun _ => True) True (fun l' => l'.length ≤ l.length + 1) (Nat.le_succ _) w hC.1 hC.2.1 hl hL hCk ⟨hEv⟩ ⟨st⟩ ⟨fun q => (hRt q).1⟩ ⟨fun _ _ q => absurd q (by decide)⟩ ⟨hf⟩ ⟨hen⟩ ⟨fun _ _ q => absurd q (by decide)⟩).mono ?_
    rintro e w' ⟨t, z, l', n, he, h1, h2, h3, h4, _⟩
    exact ⟨t, z, l', n, he, h1, h2, h3, fun q => absurd (h4 q).2.2.1 (by decide)⟩
  obtain ⟨k1, k2, k3⟩ := hb
  have f := hF k1
  obtain ⟨_, ect, hbk⟩ := evN_0 k2
  have ha := gct ect
  have hn := f.now
  obtain ⟨s1, s2, _, _, _, _, _, _, _, _, _, _, s3, s4⟩ := id hI.cf
  have m := mul_le (a := s.burst) (b := s.seg) (A := 1000) (C := 9000) (by omega) s4 (by omega) s2
  obtain ⟨b2, hFi, x1, x2⟩ := fill_ (t := s.bat) (h := s.bhave) (u := ea) (r := rt) (m := wrap64 (s.burst * s.seg)) f.bk (by rw [hI.bt]; exact k3) ha.2 (hRt k1).2.1 (hRt k1).2.2 (by rw [w64_ (by omega)]; omega)
  have N : Now s ea rt b2 := ⟨hI, f, k3, ha.2, x1, by rw [hI.bt] at x2; exact x2⟩
  refine (do_w s x l k ek ea eb er (evN ek eb er ct) ea 0 rt ea b2 0 i F (Post s ek eb rt) True (fun l' => l'.length ≤ l.length + 1) (Nat.le_succ _) w hC.1 hC.2.1 hl hL hCk ⟨hEv⟩ ⟨fun _ _ => by rw [clock_Step.eq (by omega) (by omega), if_pos ha, if_neg (by omega)]⟩ ⟨fun q => (hRt q).1⟩ ⟨fun _ _ _ => hFi⟩ ⟨hf⟩ ⟨hen⟩ ⟨fun _ _ _ _ => ?_⟩).mono ?_
  · rcases hFk k2 with ⟨rfl, rfl⟩ | ⟨rfl, rfl⟩ | ⟨rfl, rfl⟩ | ⟨rfl, rfl⟩ | ⟨rfl, rfl⟩ | ⟨rfl, rfl⟩ | ⟨rfl, rfl⟩
    · exact does_send N (hbk (by omega))
    · exact does_ack N (hbk (by omega)) hl
    · exact does_lose N
    · exact does_ecn N
    · exact does_late N
    · exact does_idle N
    · exact does_tick N
  · rintro e w' ⟨t, z, l', n, he, h1, h2, h3, h4, _⟩
    exact ⟨t, z, l', n, he, h1, h2, h3, fun q => ⟨(h4 q).1, (h4 q).2.2.2.2⟩⟩
end
section
variable {ops : Array Oper} {Q : Exit → Act → World → Prop} {ds : List Nat} {fuel : Nat} {l : Array Bool} {a : Act} {W w0 : World} {L : List (Nat × Obj)} {oi oj : Oper} {v : Value} {t : TypeId}
/-- A call and a variable made, in any order; behind the call what is made of its answer. -/
theorem cvB (i j p : Nat) (Ni Nj Np : Tmp) (li lp lj lm l' : Array Bool) {op : Oper} {vp : Value} (cs : Array Value) {f : FuncId} {fn : Func} {args : Array Value} {xs : Array Operand} {ts : Array TypeId} {ac : Nat → Act} {F : Nat → List (Nat × Obj)} (hf : Tryz.prog.funcs[f]? = some fn) (H : Aside0 (Bx w0 L W)) (hC : ∀ W : World, Calls Tryz.prog f args W fun e W' => e = .returned v ∧ Below W.heap.size W W')
    (hrun : ∀ W, (Instr.alloc t true (.tuple #[])).run Tryz.prog W = .ok (.pointer (some ⟨W.heap.size, 0, none⟩)) (W.alloc (.cells cs t)))
    (h : ∀ b W, Aside0 (Bx w0 (F b) W) → wpAnyLast Tryz.prog .any ops Q (Bx w0 L) ds fuel l' (ac b) W)
    (hi : ops[i]? = some oi := by rfl) (hj : ops[j]? = some oj := by rfl) (hNi : oi.dst = some Ni := by rfl) (hNj : oj.dst = some Nj := by rfl) (hop : oi.op = .call { callee := .value (.func f), args := xs, argTypes := ts } := by rfl) (hop2 : oj.op = .alloc t := by rfl)
    (hc : (Region.ready .any ops l == [i, j] && l.setIfInBounds i true == li && l.setIfInBounds j true == lj) = true := by kernel_rfl) (hdi : i ∉ ds := by decide) (hdj : j ∉ ds := by decide) (hp : ops[p]? = some op := by rfl) (hNp : op.dst = some Np := by rfl) (hcp : anyB .any ops li lp p = true := by kernel_rfl) (hc1 : readyB .any ops lp l' j = true := by kernel_rfl) (hc2 : readyB .any ops lj lm i = true := by kernel_rfl) (hcm : anyB .any ops lm l' p = true := by kernel_rfl)
    (hy : ∀ u, Yields Tryz.prog ops op vp ((a.put (some Nj) u).put (some Ni) v)) (hy' : Yields Tryz.prog ops op vp (a.put (some Ni) v)) (hQ : ∀ c a w, Q (.panic c) (a.put op.dst vp) w → Q (.panic c) a w := by exact fun _ _ _ h => h)
    (hwi : Region.wanted oi (yielded ops a.tmps) = true := by rfl) (hwj : Region.wanted oj (yielded ops a.tmps) = true := by rfl) (hwi' : ∀ v, Region.wanted oi (yielded ops (a.put (some Nj) v).tmps) = true := by intro _; rfl) (hwj' : Region.wanted oj (yielded ops ((a.put (some Ni) v).put (some Np) vp).tmps) = true := by rfl)
    (hb : fn.body.isSome = true := by rfl) (hname : (fn.name == "runtime.NumGoroutine") = false := by kernel_rfl) (ha1 : xs.map a.eval = args := by kernel_rfl) (ha2 : ∀ v, xs.map (a.put (some Nj) v).eval = args := by intro _; kernel_rfl)
    (hac : ∀ b, ((a.put (some Ni) v).put (some Np) vp).put (some Nj) (.pointer (some ⟨b, 0, none⟩)) = ac b := by intro _; simp only [Act.put, sA, sB, sC]; rfl)
    (hac' : ∀ b, ((a.put (some Nj) (.pointer (some ⟨b, 0, none⟩))).put (some Ni) v).put (some Np) vp = ac b := by intro _; simp only [Act.put, sA, sB, sC]; first | done | rfl) (hs : ∀ b, L ++ [(b, .cells cs t (0, 0))] = F b := by intro b; simp only [List.nil_append, List.cons_append]; rfl) : wpAnyLast Tryz.prog .any ops Q (Bx w0 L) ds (fuel + 3) l a W := by
  have hr : ∀ (b : Act) (W : World), (execOp b.eval oj).run Tryz.prog W = .ok (.value (.pointer (some ⟨W.heap.size, 0, none⟩))) (W.alloc (.cells cs t)) := fun b W => by simp [execOp, hop2, hrun, Result.andThen]
  refine two_ li lj hi hj hNi hNj hc hdi hdj (fun K hK => goes_ hf hname hb args hwi hNi hop ha1 ((hC W).mono ?_)) (fun K hK => val_step hwj hNj (hr a W) (hK.out _ _ (H.out.below (below_alloc (Below.refl _ _) _)) fun _ => ?_))
  · rintro e W1 ⟨rfl, hb⟩
    have H1 := H.out.below hb
    refine ⟨_, rfl, hK.out _ _ H1 fun S1 => pure_ lp hp hNp hcp hQ hy' rfl (one_ l' hj hNj hc1 hdj fun K hK => val_step hwj' hNj (hr _ W1) (hK.out _ _ (S1.below (below_alloc (Below.refl _ _) _)) fun _ => ?_))⟩
    rw [hac]
    exact h _ _ ⟨hs _ ▸ H1.new rfl (blk_new W1 _) (below_alloc (Below.refl _ _) _)⟩
  · have H1 := H.out.new rfl (blk_new W (.cells cs t)) (below_alloc (Below.refl _ _) _)
    refine one_ lm hi hNi hc2 hdi fun K hK => goes_ hf hname hb args (hwi' _) hNi hop (ha2 _) ((hC _).mono ?_)
    rintro e W1 ⟨rfl, hb⟩
    refine ⟨_, rfl, hK.out _ _ ((H.out.below (below_alloc (Below.refl _ _) _)).below hb) fun _ => pure_ l' hp hNp hcm hQ (hy _) rfl ?_⟩
    rw [hac']
    exact h _ _ ⟨hs _ ▸ H1.below hb⟩
end
/-- A connection at first. -/
def Ln.new (seg mx fst grain least great burst : Int) : Ln := { Ln.zero with seg := seg, mx := mx, fst := fst, grain := grain, least := least, great := great, burst := burst, win := fst * 65536, thresh := 68719476736, bhave := wrap64 (wrap64 (burst * seg) * 1000000) }
set_option maxRecDepth 100000 in
set_option maxHeartbeats 2000000 in
theorem new_w (seg mx fst grain least great burst : Int) (w : World) :
    Calls Tryz.prog 11 #[.agg #[.int .i64 seg, .int .i64 mx, .int .i64 fst, .int .i64 grain, .int .i64 least, .int .i64 great, .int .i64 burst]] w fun e w' => ((Sp.cfgOk seg mx fst grain least great burst ∧ e = .returned (.tuple #[.agg (Ln.new seg mx fst grain least great burst).cells, .int .i64 0])) ∨ (¬ Sp.cfgOk seg mx fst grain least great burst ∧ e = .returned (.tuple #[.agg Ln.zero.cells, .int .i64 210]))) ∧ Below w.heap.size w w' := by
  have H := Aside0.mk (Bx.start w)
  by_cases hk : Sp.cfgOk seg mx fst grain least great burst
  rotate_left
  · have HN := Aside0.mk hk
    have hc : guide_Check.f seg mx fst grain least great burst = some 210 := by unfold guide_Check.f; rw [Sp.chkQ_bad hk]
    have hC := Aside0.mk hc
    clear hc hk
    go_enter Tryz.func11, Tryz.ntmps11
    go_wp2_with (first
      | ((with_reducible refine gate_dst (N := 1) rfl ?_); refine bxB 1 33 (.tmp 0) H ?_; clear H; intro b1 _ H)
      | ((with_reducible refine gate_dst (N := 2) rfl ?_); refine bxV 2 48 Ln.zero.cells H run_alloc48 ?_; clear H; intro b2 _ H)
      | (refine bxR 33 1 6 0 Tryz.underlying33 H ?_)
      | (go_at_call 25; (with_reducible refine (guide_Check.calls seg mx fst grain least great burst 210 _ hC.out).mono ?_); rintro e wc ⟨rfl, hb⟩; replace H := Aside0.mk (H.out.below hb); clear hb)
      | ((with_reducible refine gate_dst (N := 10) rfl ?_); refine wpList_buildTo rfl 48 _ rfl (some 10) rfl Ln.zero.cells (by kernel_rfl) ?_)
      | (refine bxP 48 2 10 1 H ?_; clear H; intro _ H)
      | fail)
    refine bodyPost_ret (results_row_tmp rfl b2 48 _ _ rfl rfl (H.out.get 1 rfl) Tryz.underlying48 (by kernel_rfl)) rfl ⟨.inr ⟨HN.out, rfl⟩, H.out.lo⟩
  have hc : guide_Check.f seg mx fst grain least great burst = some 0 := by unfold guide_Check.f; rw [Sp.chkQ_ok hk]
  have hfi : guide_First.f seg mx fst grain least great burst = some (fst * 65536) := first_ hk
  have hC := Aside0.mk hc
  have hF := Aside0.mk hfi
  have HK := Aside0.mk hk
  clear hc hfi hk
  go_enter Tryz.func11, Tryz.ntmps11
  go_upto_region 4 with (first
    | ((with_reducible refine gate_dst (N := 1) rfl ?_); refine bxB 1 33 (.tmp 0) H ?_; clear H; intro b1 _ H)
    | ((with_reducible refine gate_dst (N := 2) rfl ?_); refine bxV 2 48 Ln.zero.cells H run_alloc48 ?_; clear H; intro b2 _ H)
    | (refine bxR 33 1 6 0 Tryz.underlying33 H ?_)
    | (go_at_call 25; (with_reducible refine (guide_Check.calls seg mx fst grain least great burst 0 _ hC.out).mono ?_); rintro e wc ⟨rfl, hb⟩; replace H := Aside0.mk (H.out.below hb); clear hb)
    | fail)
  refine rgB #[N,N,N,N,N,N] [5] H ?_; clear H; intro _ H
  refine rB 0 (some 12) #[Y,N,N,N,N,N] 0 Tryz.underlying33 H ?_
  refine rB 1 (some 13) #[Y,Y,N,N,N,N] 0 Tryz.underlying33 H ?_
  refine cvB (v := .int .i64 (fst * 65536)) (vp := .agg (Ln.cells { Ln.zero with seg := seg, mx := mx, fst := fst, grain := grain, least := least, great := great, burst := burst, win := fst * 65536, thresh := 68719476736 })) 2 4 3 14 5 15 #[Y,Y,Y,N,N,N] #[Y,Y,Y,Y,N,N] #[Y,Y,N,N,Y,N] #[Y,Y,Y,N,Y,N] #[Y,Y,Y,Y,Y,N] Ln.zero.cells Tryz.func26 H (fun W => guide_First.calls seg mx fst grain least great burst _ W hF.out) run_alloc48 ?_ (hy := fun u => Or.inl ⟨by rfl, fun w' => by kernel_rfl⟩) (hy' := Or.inl ⟨by rfl, fun w' => by kernel_rfl⟩); clear H; intro b5 _ H
  refine sB' 5 #[Y,Y,Y,Y,Y,Y] 2 H ?_; clear H; intro _ H
  refine done_ (by kernel_rfl) ?_
  go_wp2_with (first
    | (refine bxL 16 17 0 6 l3 H ?_)
    | (refine bxL 18 19 0 0 l3 H ?_)
    | (refine bxS 23 (.tmp 21) 2 37 s3 H ?_; clear H; intro _ H)
    | (refine bxR 48 5 24 2 Tryz.underlying48 H ?_)
    | (refine bxP 48 2 24 1 H ?_; clear H; intro _ H)
    | fail)
  refine bodyPost_ret (results_row_tmp rfl b2 48 _ _ rfl rfl (H.out.get 1 rfl) Tryz.underlying48 (by kernel_rfl)) rfl ⟨.inl ⟨HK.out, rfl⟩, H.out.lo⟩
section
open Go.Proofs.YtfahbgkoldoflaaGreatDoor.Sp
/-! Two events of a connection whose answers the document fixes. -/
def aw0 : Ln := { Ln.zero with seg := 1000, mx := 100, fst := 10, grain := 1000, least := 200000, great := 60000000, burst := 100, win := 655360, thresh := 68719476736, bhave := 100000000000 }
theorem aw_new : Ln.new 1000 100 10 1000 200000 60000000 100 = aw0 := by kernel_rfl
def aw1 : Ln := { aw0 with sent := 10000, out := 10000, bhave := 90000000000 }
def aw1' : Ln := { aw1 with now := 100000, bat := 100000, bhave := 100000000000 }
theorem aw_cfg : cfgOk 1000 100 10 1000 200000 60000000 100 := by unfold cfgOk; omega
theorem aw_check (s : Ln) (x : Sl) (w : World) (hC : Kd.C k119 w x.A x.m []) (hL : Tens w) (h : s = aw0 ∨ s = aw1) : Calls Tryz.prog 30 #[.agg (s.at x).cells] w fun e w' => e = .returned (.bool true) ∧ Below w.heap.size w w' := by
  obtain ⟨A, m, c⟩ := x
  obtain rfl : 0 = m := hC.1
  have he : epoch_CheckS.f false 0 0 0 0 0 = some true := by rw [epoch_CheckS.eq (by omega) (by omega) (by omega)]; exact congrArg some (eOk_off.2 ⟨rfl, rfl, rfl, rfl, rfl⟩)
  have hg : guide_Check.f 1000 100 10 1000 200000 60000000 100 = some 0 := by unfold guide_Check.f; rw [chkQ_ok aw_cfg]
  rcases h with rfl | rfl
  · exact check_w aw0 A c [] 0 true true true true true true true true true true true true true true true true w hC (by simp) hL ⟨hg⟩ ⟨by kernel_rfl⟩ ⟨by kernel_rfl⟩ ⟨by kernel_rfl⟩ ⟨by kernel_rfl⟩ ⟨by kernel_rfl⟩ ⟨by kernel_rfl⟩ ⟨by kernel_rfl⟩ ⟨by kernel_rfl⟩ ⟨by kernel_rfl⟩ ⟨by kernel_rfl⟩ ⟨by kernel_rfl⟩ ⟨he⟩ ⟨by kernel_rfl⟩ ⟨by kernel_rfl⟩ ⟨by kernel_rfl⟩ ⟨by kernel_rfl⟩
  · exact check_w aw1 A c [] 0 true true true true true true true true true true true true true true true true w hC (by simp) hL ⟨hg⟩ ⟨by kernel_rfl⟩ ⟨by kernel_rfl⟩ ⟨by kernel_rfl⟩ ⟨by kernel_rfl⟩ ⟨by kernel_rfl⟩ ⟨by kernel_rfl⟩ ⟨by kernel_rfl⟩ ⟨by kernel_rfl⟩ ⟨by kernel_rfl⟩ ⟨by kernel_rfl⟩ ⟨by kernel_rfl⟩ ⟨he⟩ ⟨by kernel_rfl⟩ ⟨by kernel_rfl⟩ ⟨by kernel_rfl⟩ ⟨by kernel_rfl⟩
theorem aw_rate (s : Ln) (h : s = aw0 ∨ s = aw1) : rate_OfS.f s.win s.seg s.has s.mean s.far (decide (s.win < s.thresh)) = some 200000 := by
  rcases h with rfl | rfl <;> exact (rate_OfS.eq (by decide) (by decide) (by decide) (by decide)).trans (by kernel_rfl)
theorem aw_ev (ek ea eb er : Int) (h : evN ek eb er true = 0) (hc : clock_Check.f ea = some true) (W : World) : Calls Tryz.prog 27 #[.agg #[.int .i64 ek, .int .i64 ea, .int .i64 eb, .int .i64 er]] W fun e W' => e = .returned (.int .i64 0) ∧ Below W.heap.size W W' := by
  have := evcheck_w ek ea eb er true W ⟨hc⟩
  rwa [h] at this
theorem aw_do1 (x : Sl) (w : World) (hx : Rd w x []) (hL : Tens w) : Calls Tryz.prog 13 #[.agg (aw0.at x).cells, .agg #[.int .i64 6, .int .i64 0, .int .i64 10000, .int .i64 0]] w fun e w' => ∃ z : Sl, e = .returned (.tuple #[.agg (aw1.at z).cells, .int .i64 0]) ∧ Rd w' z [] ∧ Below w.heap.size w w' := by
  refine (do_w aw0 x [] true 6 0 10000 0 0 0 0 200000 0 100000000000 0 0 38 (fun t => t = aw1) False (fun l' => l' = []) rfl w hx.1 hx.2.1 (by simp) hL ⟨fun W hC hT => aw_check aw0 x W hC hT (.inl rfl)⟩ ⟨fun W => aw_ev 6 0 10000 0 (by kernel_rfl) (by kernel_rfl) W⟩
    ⟨fun _ _ => (clock_Step.eq (by decide) (by decide)).trans (by kernel_rfl)⟩ ⟨fun _ => aw_rate aw0 (.inl rfl)⟩ ⟨fun _ _ _ => (bucket_FillS.eq (by decide) (by decide) (by decide) (by decide) (by decide +kernel)).trans (by kernel_rfl)⟩ ⟨fun _ => by kernel_rfl⟩ ⟨fun args W => enters_ Tryz.func38 (by kernel_rfl) rfl args W⟩ ⟨fun _ _ _ _ W g B y hA hM hg hB hT => ?_⟩).mono ?_
  · have hP : guide_Pause.f false 0 0 0 0 0 0 0 = some (false, 0, 0, 0, 0, 0) := by
      unfold guide_Pause.f
      rw [safe_SubS.eq (by omega) (by omega)]
      simp only [Option.bind_some]
      rw [epoch_ShiftS.eq (by omega) (near_I _)]
      rfl
    have hI : guide_Idle.f 655360 0 0 1000000 1000 100 10 1000 200000 60000000 100 = some 655360 := by
      unfold guide_Idle.f
      rw [safe_SubS.eq (by omega) (by omega)]
      rfl
    refine (line_send g (aw0.at y) 66 1 6 0 10000 0 655360 0 0 0 0 0 10000 10000 0 10000 0 90000000000 0 0 false true W (show At W g (aw0.at y) from hA) ⟨fun _ => ⟨1000000, by kernel_rfl, hI, hP⟩⟩ ⟨fun q => absurd rfl q⟩ ⟨(frac_BytesS.eq (c := 1000) (by decide) (by decide)).trans (by kernel_rfl)⟩ ⟨by kernel_rfl⟩ ⟨(bucket_TakeS.eq (by decide)).trans (by kernel_rfl)⟩ ⟨(guide_UsedS.eq (c := 1000) (by decide) (by decide) (by decide)).trans (by kernel_rfl)⟩).mono ?_
    rintro e W' ⟨hw, ⟨_, _, he, hr⟩ | ⟨h, _⟩⟩
    · exact ⟨hw, .inl ⟨he, aw1, y, [], rfl, rfl, hM.wr hw, hr⟩⟩
    · rcases h with h | h <;> exact absurd rfl h
  · rintro e w' ⟨t, z, l', n, he, rfl, h2, h3, h4, h5⟩
    by_cases h0 : n = 0
    · subst h0
      obtain rfl := (h4 rfl).2.2.2.2
      exact ⟨z, he, ⟨h2.C, h2.nil, h2.le⟩, h3⟩
    · exact absurd (h5 h0 rfl rfl rfl rfl) id
set_option maxHeartbeats 1000000 in
theorem aw_do2 (x : Sl) (w : World) (hx : Rd w x []) (hL : Tens w) : Calls Tryz.prog 13 #[.agg (aw1.at x).cells, .agg #[.int .i64 1, .int .i64 100000, .int .i64 10000, .int .i64 100000]] w fun e w' => ∃ (t : Ln) (z : Sl), e = .returned (.tuple #[.agg (t.at z).cells, .int .i64 0]) ∧ (t.win = 1179648 ∧ t.now = 100000 ∧ t.told = 10000) ∧ Below w.heap.size w w' := by
  refine (do_w aw1 x [] true 1 100000 10000 100000 0 100000 0 200000 100000 100000000000 0 1 39 (fun t => t.win = 1179648 ∧ t.now = 100000 ∧ t.told = 10000) False (fun _ => True) trivial w hx.1 hx.2.1 (by simp) hL ⟨fun W hC hT => aw_check aw1 x W hC hT (.inr rfl)⟩ ⟨fun W => aw_ev 1 100000 10000 100000 (by kernel_rfl) (by kernel_rfl) W⟩
    ⟨fun _ _ => (clock_Step.eq (by decide) (by decide)).trans (by kernel_rfl)⟩ ⟨fun _ => aw_rate aw1 (.inr rfl)⟩ ⟨fun _ _ _ => (bucket_FillS.eq (by decide) (by decide) (by decide) (by decide) (by decide +kernel)).trans (by kernel_rfl)⟩ ⟨fun _ => by kernel_rfl⟩ ⟨fun args W => enters_ Tryz.func39 (by kernel_rfl) rfl args W⟩ ⟨fun _ _ _ _ W g B y hA hM hg hB hT => ?_⟩).mono ?_
  · obtain ⟨p1, p2, p3, p4, p5, p6, cE, hBe, i2, i3, i4, i5, i6⟩ := begin_ (s := 100000) (f := 655360) (m := 0) (by omega) (by omega) (by omega)
    obtain ⟨E, hSt, hEi⟩ := step_ (a := p6) (b := p4) (c := 655360) (d := 655360) i6 i4 (by omega) (by omega)
    obtain ⟨T, hAf, hTi⟩ := after_ 100000 100000
    obtain ⟨tg, hTg, hgi⟩ := target_ (o := p1) (s := p2) (f := p3) (m := p4) (k := p5) (e := E) (n := T) (w := 655360) i2 i3 i4 i5 hTi (by omega)
    obtain ⟨Gc, hBo, hci⟩ := both_ (w := 655360) (t := tg) (e := E) (u := 655360) (by omega) hgi hEi (by omega)
    obtain ⟨W3, hLi, _⟩ := limit_ (b := 100) (w := Gc) (by omega) (by omega) hci
    refine (hm_ack 1 1 1 aw1' 1 100000 10000 100000 10000 10000 0 0 800000 200000 0 0 100000 1 0 0 0 1 10000 0 100000 0 0 0 0 0 655360 0 1179648 1179648 p2 p3 p4 p5 p6 cE E 100000 T tg Gc W3 true false false true false false true true p1 true (fun t => t.win = 1179648 ∧ t.now = 100000 ∧ t.told = 10000) False [] W g B y
      (by kernel_rfl) (by kernel_rfl) (fun _ => by kernel_rfl) (fun q => by cases q) (fun _ _ => by kernel_rfl) (fun q => q.elim (fun q => by cases q) (fun q => absurd (by decide) q)) (by kernel_rfl) (by kernel_rfl) (by kernel_rfl) (fun _ => by kernel_rfl) (fun q => by cases q)
      ((frac_SegsS.eq (by decide) (by decide)).trans (by kernel_rfl)) ((grow_Slow.eq (by decide) (by decide)).trans (by kernel_rfl)) ((grow_LimitS.eq (by decide) (by decide +kernel)).trans (by kernel_rfl)) (fun _ => hBe) (fun q => by cases q) hSt (by kernel_rfl) hAf hTg hBo hLi
      (fun _ q => q.elim (fun q => absurd q (by decide +kernel)) (fun q => by cases q)) (fun _ _ _ => ⟨rfl, rfl, rfl⟩) (fun _ _ q => absurd (by decide) q) (fun q => ?_) hA hM hg hB (by simp) hT).mono ?_
    · rcases q with q | q | q
      · simp at q
      · exact q (by decide)
      · exact q ⟨rfl, by omega, by omega⟩
    · rintro e W' ⟨hw, ⟨he, t, z, l', ht, _, hz, ha⟩ | ⟨h, _⟩⟩
      · exact ⟨hw, .inl ⟨he, t, z, l', ht, trivial, hz, ha⟩⟩
      · exact h.elim
  · rintro e w' ⟨t, z, l', n, he, _, h2, h3, h4, h5⟩
    by_cases h0 : n = 0
    · subst h0
      exact ⟨t, z, he, (h4 rfl).2.2.2.2, h3⟩
    · exact absurd (h5 h0 rfl rfl rfl rfl) id
end
theorem Rd.none {W W' : World} {z : Sl} (h : Rd W z []) : Rd W' z [] := ⟨⟨h.1.1, h.1.2.1, fun q => absurd q (by have e : 0 = z.m := h.1.1; omega)⟩, h.2⟩
set_option maxRecDepth 100000 in
set_option maxHeartbeats 2000000 in
theorem turn_w (x : Sl) (w : World) (hx : Rd w x []) (hL : Tens w) : Calls Tryz.prog 16 #[.agg (aw0.at x).cells, .int .i64 0] w fun e w' => ∃ (t : Ln) (z : Sl), e = .returned (.tuple #[.agg (t.at z).cells, .bool true]) ∧ (t.win = 1179648 ∧ t.now = 100000 ∧ t.told = 10000) ∧ Below w.heap.size w w' := by
  have H := Aside0.mk (Bx.start w)
  have HT := Aside0.mk hL
  have HX := Aside0.mk hx
  have HF := Aside0.mk (show frac_BytesS.f 655360 1000 = some (10000, 0) from (frac_BytesS.eq (by decide) (by decide)).trans (by kernel_rfl))
  clear hL hx
  go_enter Tryz.func16, Tryz.ntmps16
  go_wp2_with (first
    | ((with_reducible refine gate_dst (N := 2) rfl ?_); refine bxB 2 48 (.tmp 0) (cs := (aw0.at x).cells) H ?_ (hx := by rfl) (hrun := run_box48 _); clear H; intro b2 _ H)
    | ((with_reducible refine gate_dst (N := 4) rfl ?_); refine bxV 4 48 Ln.zero.cells H run_alloc48 ?_; clear H; intro b4 _ H)
    | (refine bxL (v := .int .i64 655360) 13 14 0 9 l3 H ?_)
    | (refine bxL (v := .int .i64 1000) 16 17 0 0 l3 H ?_)
    | (go_at_call 14; (with_reducible refine (frac_BytesS.calls 655360 1000 10000 0 _ HF.out).mono ?_); rintro e wc ⟨rfl, hb⟩; replace H := Aside0.mk (H.out.below hb); clear hb)
    | (refine bxR 48 2 22 0 Tryz.underlying48 H ?_)
    | (go_at_call 13; (with_reducible refine (aw_do1 x _ HX.out.none (tensB HT.out H.out.lo)).mono ?_); rintro e wc ⟨z, rfl, hz, hb⟩; have HZ := Aside0.mk hz; replace H := Aside0.mk (H.out.below hb); clear hb hz)
    | ((with_reducible refine gate_dst (N := 8) rfl ?_); refine bxV 8 48 Ln.zero.cells H run_alloc48 ?_; clear H; intro b8 _ H)
    | (refine bxP 48 8 27 2 H ?_; clear H; intro _ H)
    | (refine bxR 48 8 30 2 Tryz.underlying48 H ?_)
    | (go_at_call 13; (with_reducible refine (aw_do2 z _ HZ.out.none (tensB HT.out H.out.lo)).mono ?_); rintro e wc ⟨t, z2, rfl, ht, hb⟩; have HR := Aside0.mk ht; replace H := Aside0.mk (H.out.below hb); clear hb ht)
    | ((with_reducible refine gate_dst (N := 10) rfl ?_); refine bxV 10 48 Ln.zero.cells H run_alloc48 ?_; clear H; intro b10 _ H)
    | (refine bxP 48 10 36 3 H ?_; clear H; intro _ H)
    | (refine bxR 48 10 38 3 Tryz.underlying48 H ?_)
    | (refine bxP 48 4 38 1 H ?_; clear H; intro _ H)
    | fail)
  refine bodyPost_ret (results_row_tmp rfl b4 48 _ _ rfl rfl (H.out.get 1 rfl) Tryz.underlying48 (by kernel_rfl)) rfl ⟨t, z2, rfl, HR.out, H.out.lo⟩
theorem aw_new_w (w : World) : Calls Tryz.prog 11 #[.agg #[.int .i64 1000, .int .i64 100, .int .i64 10, .int .i64 1000, .int .i64 200000, .int .i64 60000000, .int .i64 100]] w fun e w' => e = .returned (.tuple #[.agg (aw0.at ⟨none, 0, 0⟩).cells, .int .i64 0]) ∧ Below w.heap.size w w' := by
  refine (new_w 1000 100 10 1000 200000 60000000 100 w).mono ?_
  rintro e w' ⟨⟨_, rfl⟩ | ⟨hn, _⟩, hb⟩
  · exact ⟨by rw [aw_new]; rfl, hb⟩
  · exact absurd aw_cfg hn
theorem at_cell {t : Ln} {z : Sl} {n m : Int} (c : Nat) (h : n = m) (e : (t.at z).cells[c]? = some (.int .i64 n) := by rfl) : (t.at z).cells[c]? = some (.int .i64 m) := h ▸ e
set_option maxRecDepth 100000 in
set_option maxHeartbeats 2000000 in
theorem awake_w (w : World) (hL : Tens w) : Calls Tryz.prog 6 #[] w fun e w' => e = .returned (.bool true) ∧ Below w.heap.size w w' := by
  have H := Aside0.mk (Bx.start w)
  have HT := Aside0.mk hL
  clear hL
  have hr : Rd w ⟨none, 0, 0⟩ [] := ⟨Kd.C_nil k119 w, fun _ => rfl, Nat.le_refl _⟩
  have HX := Aside0.mk hr
  clear hr
  go_enter Tryz.func6, Tryz.ntmps6
  go_wp2_with (first
    | ((with_reducible refine gate_dst (N := 1) rfl ?_); refine bxV 1 33 #[.int .i64 0, .int .i64 0, .int .i64 0, .int .i64 0, .int .i64 0, .int .i64 0, .int .i64 0] H (fun _ => by kernel_rfl) ?_; clear H; intro b1 _ H)
    | ((with_reducible refine gate_dst (N := 5) rfl ?_); refine wpList_buildTo rfl 33 _ rfl (some 5) rfl #[.int .i64 1000, .int .i64 100, .int .i64 10, .int .i64 1000, .int .i64 200000, .int .i64 60000000, .int .i64 100] (by kernel_rfl) ?_)
    | (refine bxP 33 1 5 0 H ?_; clear H; intro _ H)
    | (refine bxR 33 1 7 0 Tryz.underlying33 H ?_)
    | (go_at_call 11; (with_reducible refine (aw_new_w _).mono ?_); rintro e wc ⟨rfl, hb⟩; replace H := Aside0.mk (H.out.below hb); clear hb)
    | ((with_reducible refine gate_dst (N := 2) rfl ?_); refine bxV 2 48 Ln.zero.cells H run_alloc48 ?_; clear H; intro b2 _ H)
    | (refine bxP 48 2 9 1 H ?_; clear H; intro _ H)
    | (refine bxR 48 2 12 1 Tryz.underlying48 H ?_)
    | (go_at_call 16; (with_reducible refine (turn_w ⟨none, 0, 0⟩ _ HX.out.none (tensB HT.out H.out.lo)).mono ?_); rintro e wc ⟨t, z, rfl, ht, hb⟩; have HR := Aside0.mk ht; replace H := Aside0.mk (H.out.below hb); clear hb ht)
    | (refine bxP 48 2 14 1 H ?_; clear H; intro _ H)
    | (refine bxL (v := .int .i64 1179648) 22 23 1 9 l3 H ?_ (hc := at_cell 9 HR.out.1))
    | (refine bxL (v := .int .i64 100000) 27 28 1 7 l3 H ?_ (hc := at_cell 7 HR.out.2.1))
    | (refine bxL (v := .int .i64 10000) 33 34 1 13 l3 H ?_ (hc := at_cell 13 HR.out.2.2))
    | fail)
  go_ret
  exact ⟨rfl, H.out.lo⟩
section
open Go.Proofs.YtfahbgkoldoflaaGreatDoor.Sp
theorem new_ok {seg mx fst grain least great burst : Int} (h : cfgOk seg mx fst grain least great burst) (w : World) : Calls Tryz.prog 11 #[.agg #[.int .i64 seg, .int .i64 mx, .int .i64 fst, .int .i64 grain, .int .i64 least, .int .i64 great, .int .i64 burst]] w fun e w' => e = .returned (.tuple #[.agg ((Ln.new seg mx fst grain least great burst).at ⟨none, 0, 0⟩).cells, .int .i64 0]) ∧ Below w.heap.size w w' := by
  refine (new_w seg mx fst grain least great burst w).mono ?_
  rintro e w' ⟨⟨_, rfl⟩ | ⟨hn, _⟩, hb⟩
  · exact ⟨rfl, hb⟩
  · exact absurd h hn
theorem new_bad {seg mx fst grain least great burst : Int} (h : ¬ cfgOk seg mx fst grain least great burst) (w : World) : Calls Tryz.prog 11 #[.agg #[.int .i64 seg, .int .i64 mx, .int .i64 fst, .int .i64 grain, .int .i64 least, .int .i64 great, .int .i64 burst]] w fun e w' => e = .returned (.tuple #[.agg Ln.zero.cells, .int .i64 210]) ∧ Below w.heap.size w w' := by
  refine (new_w seg mx fst grain least great burst w).mono ?_
  rintro e w' ⟨⟨hn, _⟩ | ⟨_, rfl⟩, hb⟩
  · exact absurd hn h
  · exact ⟨rfl, hb⟩
theorem few_ (rows : List (List Int)) (h : rows.length ≤ 9223372036854775807) : ∃ k r, sawtoothref20_Few.f k rows 60 = some r ∧ (r = true → rows.length ≤ 60) := by
  have hl : ∀ (n i : Nat), i + n = rows.length → ∃ r, sawtoothref20_Few.l0 (n + 1) rows 60 i = some r ∧ (r = true → rows.length ≤ 60) := by
    intro n
    induction n with
    | zero =>
      intro i hi
      simp only [sawtoothref20_Few.l0]
      rw [if_neg (by omega)]
      exact ⟨_, rfl, fun q => by have := of_decide_eq_true q; omega⟩
    | succ n ih =>
      intro i hi
      rw [sawtoothref20_Few.l0, if_pos (by omega), if_pos (by omega)]
      split
      · exact ⟨_, rfl, fun q => by cases q⟩
      · have := ih (i + 1) (by omega)
        rw [w64_ (by omega)]
        exact this
  obtain ⟨r, h1, h2⟩ := hl rows.length 0 (by omega)
  exact ⟨rows.length + 1, r, h1, h2⟩
theorem new_inv {seg mx fst grain least great burst : Int} (h : cfgOk seg mx fst grain least great burst) : Inv (Ln.new seg mx fst grain least great burst) := by
  refine ⟨i0_, i0_, i0_, h, by show (0 : Int) ≤ _; omega, rfl, ?_⟩
  obtain ⟨h1, h2, _, _, _, _, _, _, _, _, _, _, h3, h4⟩ := h
  have m := mul_le (a := burst) (b := seg) (A := 1000) (C := 9000) (by omega) h4 (by omega) h2
  show 0 ≤ wrap64 (wrap64 (burst * seg) * 1000000)
  rw [w64_ (x := burst * seg) (by omega), w64_ (by omega)]
  omega
theorem Mk.low {g B : Nat} {W : World} {x : Sl} {l : List S119} (h : Mk g B W x l) : Mk g 0 W x l := ⟨h.n, h.le, h.nil, fun a e => ⟨(h.ne a e).1, Nat.zero_le _⟩, h.lt, h.C⟩
theorem Mk.rd {g B : Nat} {W : World} {x : Sl} {l : List S119} (h : Mk g B W x l) : Rd W x l := ⟨h.C, h.nil, h.le⟩
theorem rate_law {s : Ln} {k : Bool} (hI : Inv s) (hF : k = true → Fits s) : ∃ rt, (k = true → rate_OfS.f s.win s.seg s.has s.mean s.far (decide (s.win < s.thresh)) = some rt ∧ 0 ≤ rt ∧ I rt) := by
  cases k
  · exact ⟨0, fun q => by cases q⟩
  · have f := hF rfl
    obtain ⟨c1, c2, _, c4, _⟩ := hI.cf
    have := f.win
    obtain ⟨rt, h1, h2, h3⟩ := rate_ (w := s.win) (s := s.seg) (m := s.mean) (f := s.far) (h := s.has) (b := decide (s.win < s.thresh)) (by omega) (by omega) f.rt.1 f.rt.2
    exact ⟨rt, fun _ => ⟨h1, h2, h3⟩⟩
end
end Go.Proofs.YtfahbgkoldoflaaGreatDoor.Px
