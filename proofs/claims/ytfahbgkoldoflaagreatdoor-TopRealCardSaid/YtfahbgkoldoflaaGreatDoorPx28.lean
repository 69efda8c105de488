/- By hand. Conditions: none beside the theorems' own. -/
import Derived.Test.YtfahbgkoldoflaaGreatDoorSpec
import Derived.LoopN
import Derived.Test.YtfahbgkoldoflaaGreatDoorPx0
import Derived.Test.YtfahbgkoldoflaaGreatDoorPx7
import Derived.Test.YtfahbgkoldoflaaGreatDoorPx24
namespace Go.Proofs.YtfahbgkoldoflaaGreatDoor.Px
open Go.RowKit Go.Proofs.YtfahbgkoldoflaaGreatDoorW.PrintWords Go.Proofs.YtfahbgkoldoflaaGreatDoorW.PrintLast Go.Proofs.YtfahbgkoldoflaaGreatDoorW.PrintMore
attribute [local go_sem] max2_int min2_int max_two min_two max_three min_three max_four min_four   -- for this text's walks alone
set_option linter.unusedVariables false
set_option linter.unusedSimpArgs false

/-! ### top_index: function 120 -/
/-! top: by hand -/
/-- Where the first one is, or -1. -/
noncomputable def firstIx (p : S119 → Bool) (l : List S119) : Int := if l.findIdx p < l.length then (l.findIdx p : Int) else -1
theorem firstIx_hit {p : S119 → Bool} {l : List S119} {i : Nat} (h : i < l.length) (hp : p l[i] = true) (hn : ∀ j (hj : j < i), p (l[j]'(Nat.lt_trans hj h)) = false) : firstIx p l = i := by
  have e : l.findIdx p = i := (List.findIdx_eq h).2 ⟨hp, hn⟩
  unfold firstIx
  rw [e, if_pos h]
theorem firstIx_miss {p : S119 → Bool} {l : List S119} (hn : ∀ j (hj : j < l.length), p l[j] = false) : firstIx p l = -1 := by
  unfold firstIx
  rw [if_neg]
  intro h
  have := List.findIdx_getElem (w := h)
  rw [hn _ h] at this
  cases this
theorem rd119 {l : List S119} {i : Nat} (h : i < l.length) : rd_T119 l (i : Int) = l[i] := by
  unfold rd_T119
  simp [List.getD_eq_getElem?_getD, List.getElem?_eq_getElem h]
set_option maxRecDepth 100000 in
set_option maxHeartbeats 2000000 in
theorem marks_index (p : S119 → Bool) (cf : Nat) (fn : Func) (hcf : Tryz.prog.funcs[cf]? = some fn) (hfb : fn.body.isSome = true) (hnm : (fn.name == "runtime.NumGoroutine") = false) (cap : Array Value) (A0 : Option Addr) (c0 : Nat) (l0 : List S119) (w : World) (hr0 : Kd.C k119 w A0 l0.length l0) (hlen : Aside0 (l0.length ≤ 4611686018427387904))
    (hf : ∀ (W : World) (m : S119), Below w.heap.size w W → Calls Tryz.prog cf (#[.agg #[.int .i64 m.f0, .int .i64 m.f1]] ++ cap) W fun e W' => e = .returned (.bool (p m)) ∧ Below W.heap.size W W') :
    Calls Tryz.prog 120 #[.slice A0 l0.length c0, .func (.func cf) #[] cap] w fun e w' => e = .returned (.int .i64 (firstIx p l0)) ∧ Below w.heap.size w w' := by
  have HR0 := Aside0.mk hr0
  have HF := Aside0.mk hf
  have hen : ∀ (args : Array Value) (W : World), (callFunc cf args).run Tryz.prog W = .ok (.enter cf args) W := fun args W => enters_ hcf hnm hfb args W
  clear hr0 hf hcf hfb hnm
  go_enter Tryz.func120, Tryz.ntmps120
  go_wp2
  go_loopg [8] l0.length (fun kq v8 wr => ∃ i : Nat, v8 = .int .i64 i ∧ Aside0 (i + kq = l0.length) ∧ Aside0 (∀ j (hj : j < l0.length), j < i → p l0[j] = false) ∧ Aside0 (Below w.heap.size w wr))
  case atStart => exact ⟨0, rfl, ⟨by omega⟩, ⟨fun j _ h => absurd h (Nat.not_lt_zero j)⟩, ⟨Below.refl _ _⟩⟩
  case round =>
    obtain ⟨i, rfl, HI, HN, HB⟩ := hrel
    cases gk with
    | zero =>
      have hi : i = l0.length := by have := HI.out; omega
      subst hi
      have c1 : decide ((l0.length : Int) < (l0.length : Int)) = false := decide_eq_false (by omega)
      go_wp2
      go_ret
      exact ⟨by rw [firstIx_miss (fun j hj => HN.out j hj hj)]; rfl, HB.out⟩
    | succ k1 =>
      have hi : i < l0.length := by have := HI.out; omega
      have c1 : decide ((i : Int) < (l0.length : Int)) = true := decide_eq_true (by omega)
      have p363 : 0 ≤ (i : Int) := by omega
      have q363 : (i : Int) < (l0.length : Int) := by omega
      obtain ⟨ad, e363, hx_0, hx_1⟩ := at_T119 HR0.out i p363 q363
      cases e363
      rw [rd119 hi] at hx_0 hx_1
      have hin : ((i : Int)).toNat = i := by omega
      rw [hin] at hx_0 hx_1
      replace hx_0 := (HB.out.cell (World.block_lt_of_cell? w _ hx_0)).trans hx_0; replace hx_1 := (HB.out.cell (World.block_lt_of_cell? w _ hx_1)).trans hx_1
      replace p363 := eq_true p363
      replace q363 := eq_true q363
      cases hp : p l0[i] with
      | true =>
        have HP := Aside0.mk hp
        clear hp
        go_wp2_with (first | (with_reducible refine (HF.out _ l0[i] HB.out).mono ?_; rintro en w9 ⟨rfl, hb9⟩; replace HB := Aside0.mk (below_step HB.out hb9); clear hb9; simp only [HP.out]) | fail)
        go_ret
        exact ⟨by rw [firstIx_hit hi HP.out (fun j hj => HN.out j (Nat.lt_trans hj hi) hj)]; rfl, HB.out⟩
      | false =>
        have HP := Aside0.mk hp
        clear hp
        go_wp2_with (first | (with_reducible refine (HF.out _ l0[i] HB.out).mono ?_; rintro en w9 ⟨rfl, hb9⟩; replace HB := Aside0.mk (below_step HB.out hb9); clear hb9; simp only [HP.out]) | fail)
        go_roundg k1
        case rel =>
          refine ⟨i + 1, congrArg (Value.int .i64) (by rw [Sp.w64 (x := (i : Int) + 1) (by have := hlen.out; omega)]; rfl), ⟨by have := HI.out; omega⟩, ⟨fun j hj hji => ?_⟩, HB⟩
          rcases Nat.lt_or_ge j i with x | x
          · exact HN.out j hj x
          · have : j = i := by omega
            subst this
            exact HP.out
        case measure => omega
theorem marks_contains (p : S119 → Bool) (cf : Nat) (fn : Func) (hcf : Tryz.prog.funcs[cf]? = some fn) (hfb : fn.body.isSome = true) (hnm : (fn.name == "runtime.NumGoroutine") = false) (cap : Array Value) (A0 : Option Addr) (c0 : Nat) (l0 : List S119) (w : World) (hr0 : Kd.C k119 w A0 l0.length l0) (hlen : Aside0 (l0.length ≤ 4611686018427387904))
    (hf : ∀ (W : World) (m : S119), Below w.heap.size w W → Calls Tryz.prog cf (#[.agg #[.int .i64 m.f0, .int .i64 m.f1]] ++ cap) W fun e W' => e = .returned (.bool (p m)) ∧ Below W.heap.size W W') :
    Calls Tryz.prog 68 #[.slice A0 l0.length c0, .func (.func cf) #[] cap] w fun e w' => e = .returned (.bool (decide (firstIx p l0 ≥ 0))) ∧ Below w.heap.size w w' := by
  have HX := Aside0.mk (marks_index p cf fn hcf hfb hnm cap A0 c0 l0 w hr0 hlen hf)
  clear hr0 hf hcf hfb hnm
  generalize firstIx p l0 = x at *
  go_enter Tryz.func68, Tryz.ntmps68
  go_wp2_with (first | (go_at_call 120; (with_reducible refine HX.out.mono ?_); rintro en w9 ⟨rfl, hb9⟩; have HB := Aside0.mk hb9; clear hb9) | fail)
  go_ret
  exact ⟨rfl, HB.out⟩
set_option maxHeartbeats 1000000 in
/-- The number of a mark is at least n, which lies at block b. -/
theorem put_ge (b : Nat) (n : Int) (m : S119) (w : World) (hb : w.heap[b]? = some (.cells #[.int .i64 n] 3 (0, 0))) :
    Calls Tryz.prog 158 (#[.agg #[.int .i64 m.f0, .int .i64 m.f1]] ++ #[.pointer (some ⟨b, 0, none⟩)]) w fun e w' => e = .returned (.bool (decide (m.f1 ≥ n))) ∧ Below w.heap.size w w' := by
  have HB := Aside0.mk (Below.refl w.heap.size w)
  have BN := Aside0.mk hb
  clear hb
  go_enter Tryz.func158, Tryz.ntmps158
  go_wp2_with (first | ((with_reducible refine gate_dst (N := 2) rfl ?_); refine box_event ?hg (N := 2) ?hd (cs := #[.int .i64 m.f0, .int .i64 m.f1]) (t := 119) ?hr ?_; (case hd => rfl); (case hg => rfl); (case hr => first | (go_simp; done) | (go_simp; rfl)); intro b2 hg w2 hbox hb; have BK2 := Aside0.mk hbox; obtain ⟨N1, N2, nBN⟩ := nbA BN hg hb; replace BN := nBN; obtain ⟨G2, nHB⟩ := geA hg hb; replace HB := nHB; clear nHB nBN hb hbox hg; have z1 := czZ BK2 1 (.int .i64 m.f1); have y0 := czZ BN 0 (.int .i64 n)) | fail)
  go_ret
  exact ⟨rfl, HB.out⟩
set_option maxHeartbeats 1000000 in
theorem put_since (ba bw : Nat) (at_ window : Int) (m : S119) (w : World) (ha : w.heap[ba]? = some (.cells #[.int .i64 at_] 3 (0, 0))) (hw : w.heap[bw]? = some (.cells #[.int .i64 window] 3 (0, 0))) :
    Calls Tryz.prog 159 (#[.agg #[.int .i64 m.f0, .int .i64 m.f1]] ++ #[.pointer (some ⟨ba, 0, none⟩), .pointer (some ⟨bw, 0, none⟩)]) w fun e w' => e = .returned (.bool (decide (m.f0 ≥ wrap64 (at_ - window)))) ∧ Below w.heap.size w w' := by
  have HB := Aside0.mk (Below.refl w.heap.size w)
  have BA := Aside0.mk ha
  have BW := Aside0.mk hw
  clear ha hw
  go_enter Tryz.func159, Tryz.ntmps159
  go_wp2_with (first | ((with_reducible refine gate_dst (N := 3) rfl ?_); refine box_event ?hg (N := 3) ?hd (cs := #[.int .i64 m.f0, .int .i64 m.f1]) (t := 119) ?hr ?_; (case hd => rfl); (case hg => rfl); (case hr => first | (go_simp; done) | (go_simp; rfl)); intro b2 hg w2 hbox hb; have BK2 := Aside0.mk hbox; obtain ⟨N1, N2, nBA⟩ := nbA BA hg hb; replace BA := nBA; obtain ⟨N3, N4, nBW⟩ := nbA BW hg hb; replace BW := nBW; obtain ⟨G2, nHB⟩ := geA hg hb; replace HB := nHB; clear nHB nBA nBW hb hbox hg; have z0 := czZ BK2 0 (.int .i64 m.f0); have y0 := czZ BA 0 (.int .i64 at_); have x0 := czZ BW 0 (.int .i64 window)) | fail)
  go_ret
  exact ⟨rfl, HB.out⟩
set_option maxHeartbeats 2000000 in
set_option maxRecDepth 100000 in
theorem check_late (g : Nat) (cs : Array Value) (now : Int) (m : S119) (w : World) (hg : w.heap[g]? = some (.cells cs 48 (0, 0))) (h7 : cs[7]? = some (.int .i64 now)) :
    Calls Tryz.prog 63 (#[.agg #[.int .i64 m.f0, .int .i64 m.f1]] ++ #[.pointer (some ⟨g, 0, none⟩)]) w fun e w' => e = .returned (.bool (decide (m.f0 > now) || !(decide (m.f1 ≥ 1) && decide (m.f1 ≤ 1073741824)))) ∧ Below w.heap.size w w' := by
  have HB := Aside0.mk (Below.refl w.heap.size w)
  have BN := Aside0.mk hg
  have H7 := Aside0.mk h7
  clear hg h7
  by_cases c : m.f0 > now
  · have c1 := decide_eq_true c
    rw [c1]
    clear c
    go_enter Tryz.func63, Tryz.ntmps63
    go_wp2_with (first | ((with_reducible refine gate_dst (N := 2) rfl ?_); refine box_event ?hg (N := 2) ?hd (cs := #[.int .i64 m.f0, .int .i64 m.f1]) (t := 119) ?hr ?_; (case hd => rfl); (case hg => rfl); (case hr => first | (go_simp; done) | (go_simp; rfl)); intro b2 hg w2 hbox hb; have BK2 := Aside0.mk hbox; obtain ⟨N1, N2, nBN⟩ := nbA BN hg hb; replace BN := nBN; obtain ⟨G2, nHB⟩ := geA hg hb; replace HB := nHB; clear nHB nBN hb hbox hg; have z0 := czZ BK2 0 (.int .i64 m.f0); have z1 := czZ BK2 1 (.int .i64 m.f1); have y7 := czZ BN 7 (.int .i64 now) H7.out) | fail)
    go_ret
    exact ⟨rfl, HB.out⟩
  · have c1 := decide_eq_false c
    rw [c1]
    clear c
    obtain ⟨b, hb⟩ : ∃ b, (decide (m.f1 ≥ 1) && decide (m.f1 ≤ 1073741824)) = b := ⟨_, rfl⟩
    have hbt : engine_between.f m.f1 1 1073741824 = some b := by
      unfold engine_between.f
      by_cases q : m.f1 ≥ 1
      · rw [if_pos q, ← hb, decide_eq_true q, Bool.true_and]
      · rw [if_neg q, ← hb, decide_eq_false q, Bool.false_and]
    have HT := Aside0.mk hbt
    rw [hb]
    clear hb hbt
    go_enter Tryz.func63, Tryz.ntmps63
    go_wp2_with (first
      | ((with_reducible refine gate_dst (N := 2) rfl ?_); refine box_event ?hg (N := 2) ?hd (cs := #[.int .i64 m.f0, .int .i64 m.f1]) (t := 119) ?hr ?_; (case hd => rfl); (case hg => rfl); (case hr => first | (go_simp; done) | (go_simp; rfl)); intro b2 hg w2 hbox hb; have BK2 := Aside0.mk hbox; obtain ⟨N1, N2, nBN⟩ := nbA BN hg hb; replace BN := nBN; obtain ⟨G2, nHB⟩ := geA hg hb; replace HB := nHB; clear nHB nBN hb hbox hg; have z0 := czZ BK2 0 (.int .i64 m.f0); have z1 := czZ BK2 1 (.int .i64 m.f1); have y7 := czZ BN 7 (.int .i64 now) H7.out)
      | (go_at_call 64; (with_reducible refine (engine_between.calls m.f1 1 1073741824 b _ HT.out).mono ?_); rintro e w' ⟨rfl, ⟨nd, rfl⟩⟩) | fail)
    go_ret
    exact ⟨rfl, by repeat (first | exact HB.out | apply pw_below_drewN | apply below_drew1)⟩

end Go.Proofs.YtfahbgkoldoflaaGreatDoor.Px
