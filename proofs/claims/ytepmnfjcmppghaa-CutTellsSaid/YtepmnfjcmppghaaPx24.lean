/- Printed by a program of this session (wip/tool/px.py), over the kit's print: for each Go function a Lean function, and the proof that the machine's call answers as that function says. Conditions: none beside what the theorems state. -/
import Derived.Test.YtepmnfjcmppghaaPx0
import Derived.Test.YtepmnfjcmppghaaPx3
import Derived.Test.YtepmnfjcmppghaaPx22
import Derived.Test.YtepmnfjcmppghaaSpec
namespace Go.Proofs.Ytepmnfjcmppghaa.Px
open Go.RowKit Go.Proofs.YtepmnfjcmppghaaW.PrintWords Go.Proofs.YtepmnfjcmppghaaW.PrintLast Go.Proofs.YtepmnfjcmppghaaW.PrintMore
attribute [local go_sem] max2_int min2_int max_two min_two max_three min_three max_four min_four   -- for this text's walks alone
set_option linter.unusedVariables false
set_option linter.unusedSimpArgs false

/-! ### cut_Many: function 19 -/
noncomputable def cut_Many.f (n times : Int) : Option Int := Go.Proofs.Ytepmnfjcmppghaa.Sp.need (Go.Proofs.Ytepmnfjcmppghaa.Sp.I n ∧ Go.Proofs.Ytepmnfjcmppghaa.Sp.I times) (some (Go.Proofs.Ytepmnfjcmppghaa.Sp.manyW (Go.Proofs.Ytepmnfjcmppghaa.Sp.clamp times 0 64).toNat (Go.Proofs.Ytepmnfjcmppghaa.Sp.win n)))
theorem cut_Many.eq {n t : Int} (h1 : Go.Proofs.Ytepmnfjcmppghaa.Sp.I n) (h2 : Go.Proofs.Ytepmnfjcmppghaa.Sp.I t) : cut_Many.f n t = some (Go.Proofs.Ytepmnfjcmppghaa.Sp.manyW (Go.Proofs.Ytepmnfjcmppghaa.Sp.clamp t 0 64).toNat (Go.Proofs.Ytepmnfjcmppghaa.Sp.win n)) := Go.Proofs.Ytepmnfjcmppghaa.Sp.need_pos ⟨h1, h2⟩
section CutMany
open Go.Proofs.Ytepmnfjcmppghaa.Sp
def manyE1 : MapEntry := { key := .bool true, val := .func (.func 31) #[] #[], born := 0 }
def manyE2 : MapEntry := { key := .bool false, val := .func (.func 33) #[] #[], born := 1 }
theorem many_set {w0 W : World} {r : Nat} {es : Array MapEntry} {c : Nat} (hb : W.heap[r]? = some (.map es c)) (hB : Below w0.heap.size w0 W) (hr : w0.heap.size ≤ r) (o : Obj) :
  ∃ W1, (setObj r o).run Try.prog W = .ok () W1 ∧ W1.heap[r]? = some o ∧ Below w0.heap.size w0 W1 := by
 have hlt : r < W.heap.size := (Array.getElem?_eq_some_iff.1 hb).1; refine ⟨_, MapKept.run_setObj_map o hb, by simp [hlt], ⟨hB.os, hB.tape, hB.output, by simpa using hB.size, fun i hi => ?_⟩⟩
 have : r ≠ i := by omega
 simp only [Array.getElem?_setIfInBounds, this, if_false]; exact hB.block i hi
theorem many_up1 {w0 W : World} {r : Nat} (hb : W.heap[r]? = some (.map #[] 0)) (hB : Below w0.heap.size w0 W) (hr : w0.heap.size ≤ r) :
  ∃ W1, (Instr.mapUpdate 51 (.map (some r)) (.bool true) (.func (.func 31) #[] #[])).run Try.prog W = .ok () W1 ∧ W1.heap[r]? = some (.map #[manyE1] 1) ∧ Below w0.heap.size w0 W1 := by
 obtain ⟨W1, h1, h2, h3⟩ := many_set hb hB hr (.map #[manyE1] 1); refine ⟨W1, ?_, h2, h3⟩
 rw [← h1]
 simp [Instr.mapUpdate, run_underlying Try.underlying51, MapKept.run_getObj_map hb, MapKept.run_checkKey (d := .bool) (k := .bool true) Try.underlying4 trivial, MapKept.run_findKey (d := .bool) Try.underlying4 (show Instr.findNow .bool (.bool true) [] 0 = some none from rfl)]; rfl
theorem many_up2 {w0 W : World} {r : Nat} (hb : W.heap[r]? = some (.map #[manyE1] 1)) (hB : Below w0.heap.size w0 W) (hr : w0.heap.size ≤ r) :
  ∃ W1, (Instr.mapUpdate 51 (.map (some r)) (.bool false) (.func (.func 33) #[] #[])).run Try.prog W = .ok () W1 ∧ W1.heap[r]? = some (.map #[manyE1, manyE2] 2) ∧ Below w0.heap.size w0 W1 := by
 obtain ⟨W1, h1, h2, h3⟩ := many_set hb hB hr (.map #[manyE1, manyE2] 2); refine ⟨W1, ?_, h2, h3⟩
 rw [← h1]
 simp [Instr.mapUpdate, run_underlying Try.underlying51, MapKept.run_getObj_map hb, MapKept.run_checkKey (d := .bool) (k := .bool false) Try.underlying4 trivial, MapKept.run_findKey (d := .bool) Try.underlying4 (show Instr.findNow .bool (.bool false) [manyE1] 0 = some none from rfl)]; rfl
theorem many_look {W : World} {r : Nat} (hb : W.heap[r]? = some (.map #[manyE1, manyE2] 2)) (x : Bool) :
  (Instr.lookup 51 (.map (some r)) (.bool x) false).run Try.prog W = .ok (.func (.func (if x = true then 31 else 33)) #[] #[]) W := by
 cases x
 ·simp [Instr.lookup, run_underlying Try.underlying51, MapKept.run_getObj_map hb, MapKept.run_checkKey (d := .bool) (k := .bool false) Try.underlying4 trivial, MapKept.run_findKey (d := .bool) Try.underlying4 (show Instr.findNow .bool (.bool false) [manyE1, manyE2] 0 = some (some (1, manyE2.val)) from rfl)]; rfl
 ·simp [Instr.lookup, run_underlying Try.underlying51, MapKept.run_getObj_map hb, MapKept.run_checkKey (d := .bool) (k := .bool true) Try.underlying4 trivial, MapKept.run_findKey (d := .bool) Try.underlying4 (show Instr.findNow .bool (.bool true) [manyE1, manyE2] 0 = some (some (0, manyE1.val)) from rfl)]; rfl
end CutMany
theorem cut_window_same.calls1 (a : Int) (w : World) : Calls Try.prog 33 #[.int .i64 a] w fun e w' => e = .returned (.int .i64 a) ∧ Below w.heap.size w w' := by
 go_enter Try.func33, Try.ntmps33
 go_wp2
 go_ret
 exact ⟨rfl, by repeat (first | exact Below.refl _ _ | apply below_alloc | apply pw_below_drewN)⟩
theorem many_on {w W W' : World} {r : Nat} {o : Obj} (hB : Below w.heap.size w W) (ho : W.heap[r]? = some o) (k : Below W.heap.size W W') : Below w.heap.size w W' ∧ W'.heap[r]? = some o := by
 refine ⟨Go.Proofs.YtepmnfjcmppghaaW.PrintWords.below_then hB hB.size k, ?_⟩
 rw [k.block r (Array.getElem?_eq_some_iff.1 ho).1]; exact ho
set_option maxHeartbeats 2000000 in
set_option maxRecDepth 100000 in
theorem cut_Many.calls (a0 a1 r : Int) (w : World) (h : cut_Many.f a0 a1 = some r) :
  Calls Try.prog 19 #[.int .i64 a0, .int .i64 a1] w fun e w' => e = .returned (.int .i64 r) ∧ Below w.heap.size w w' := by
 obtain ⟨hc, h⟩ := Go.Proofs.Ytepmnfjcmppghaa.Sp.need_some h; obtain rfl := Option.some.inj h; clear h
 have hmm : ∀ (t : TypeId) (w : World), (Instr.makeMap t none).run Try.prog w = .ok (.map (some w.heap.size)) (w.alloc (.map #[] 0)) := fun _ _ => rfl
 have hS1 := Aside0.mk (safe_ClampS.eq (a := a1) (b := 0) (c := 64) hc.2 (by omega) (by omega)); have hS2 := Aside0.mk (cut_ofS.eq (a := a0) hc.1); clear hc; obtain ⟨W1, m1, b1, B1⟩ := many_up1 (w0 := w) (W := w.alloc (.map #[] 0)) (r := w.heap.size) (MapKept.heap_alloc w (.map #[] 0)).1 (Go.Proofs.YtepmnfjcmppghaaW.PrintWords.below_alloc (Below.refl _ _) _) (Nat.le_refl _); obtain ⟨W2, m2, b2, B2⟩ := many_up2 (w0 := w) (W := W1) (r := w.heap.size) b1 B1 (Nat.le_refl _); have HB := Aside0.mk B2; have HM := Aside0.mk b2; clear b1 B1 b2 B2; have hT := Aside0.mk (Go.Proofs.Ytepmnfjcmppghaa.Sp.clamp_bd (a := a1) (low := 0) (high := 64) (by omega)); have hW := Aside0.mk (Go.Proofs.Ytepmnfjcmppghaa.Sp.win_bd a0)
 generalize Go.Proofs.Ytepmnfjcmppghaa.Sp.clamp a1 0 64 = T at *
 generalize Go.Proofs.Ytepmnfjcmppghaa.Sp.win a0 = v at *
 go_enter Try.func19, Try.ntmps19
 go_wp2_with (first
  | (go_at_call 28; refine (cut_ofS.calls a0 v _ hS2.out).mono ?_; rintro e w3 ⟨rfl, hb3⟩; have H3 := Aside0.mk (many_on HB.out HM.out hb3); clear HB HM hb3)
  | (go_at_call 34; refine (safe_ClampS.calls a1 0 64 T _ hS1.out).mono ?_; rintro e w4 ⟨rfl, hb4⟩; have H4 := Aside0.mk (many_on H3.out.1 H3.out.2 hb4); clear H3 hb4)
  | fail)
 have hW' := hW.out; have hT' := hT.out
 go_loopg [6, 13] (T.toNat) (fun kq v6 v13 wr => ∃ y i : Int, v6 = .int .i64 y ∧ v13 = .int .i64 i ∧ Aside0 (0 ≤ i ∧ i + kq = T ∧ 131072 ≤ y ∧ y ≤ 68719476736 ∧ Go.Proofs.Ytepmnfjcmppghaa.Sp.manyW kq y = Go.Proofs.Ytepmnfjcmppghaa.Sp.manyW T.toNat v) ∧ Aside0 (Below w.heap.size w wr ∧ wr.heap[w.heap.size]? = some (.map #[manyE1, manyE2] 2)))
 case atStart => exact ⟨v, 0, rfl, rfl, ⟨by omega, by omega, by omega, by omega, rfl⟩, H4⟩
 case round =>
  clear hW' hT' H4; obtain ⟨y, i, rfl, rfl, HA, HB⟩ := hrel
  cases gk with
  | zero =>
   have c1 : decide (i < T) = false := decide_eq_false (by have := HA.out; omega)
   go_wp2
   go_ret
   have e1 : y = Go.Proofs.Ytepmnfjcmppghaa.Sp.manyW T.toNat v := HA.out.2.2.2.2; exact ⟨congrArg (fun z => Ending.returned (.int .i64 z)) e1, HB.out.1⟩
  | succ k1 =>
   have c1 : decide (i < T) = true := decide_eq_true (by have := HA.out; omega)
   by_cases cy : y > 131072
   ·have c2 : decide (y > 131072) = true := decide_eq_true cy; have hL := many_look HB.out.2 true; have HK := Aside0.mk (cut_window_leastS.eq (a := y) (by have := HA.out; omega)); have HV := Aside0.mk cy; clear cy
    go_wp2_with (first
     | (go_at_call 31; refine (cut_window_leastS.calls y _ _ HK.out).mono ?_; rintro e w5 ⟨rfl, hb5⟩; have H5 := Aside0.mk (many_on HB.out.1 HB.out.2 hb5); clear hb5)
     | fail)
    have cw : RowKit.wrap64 (i + 1) = i + 1 := Go.Proofs.Ytepmnfjcmppghaa.Sp.w64 (by have := HA.out; have := hT.out; omega); have cb := Go.Proofs.Ytepmnfjcmppghaa.Sp.leastW_bd y
    have cm : Go.Proofs.Ytepmnfjcmppghaa.Sp.manyW (k1 + 1) y = Go.Proofs.Ytepmnfjcmppghaa.Sp.manyW k1 (Go.Proofs.Ytepmnfjcmppghaa.Sp.leastW y) := by
     show Go.Proofs.Ytepmnfjcmppghaa.Sp.manyW k1 (if 131072 < y then Go.Proofs.Ytepmnfjcmppghaa.Sp.leastW y else y) = _
     rw [if_pos HV.out]
    go_roundg k1
    case rel => exact ⟨Go.Proofs.Ytepmnfjcmppghaa.Sp.leastW y, wrap64 (i + 1), rfl, rfl, ⟨by rw [cw]; have := HA.out; omega, by rw [cw]; have := HA.out; omega, cb.1, cb.2, cm.symm.trans HA.out.2.2.2.2⟩, H5⟩
    case measure => omega
   ·have c2 : decide (y > 131072) = false := decide_eq_false cy; have hL := many_look HB.out.2 false; have HV := Aside0.mk cy; clear cy
    go_wp2_with (first
     | (go_at_call 33; refine (cut_window_same.calls1 y _).mono ?_; rintro e w5 ⟨rfl, hb5⟩; have H5 := Aside0.mk (many_on HB.out.1 HB.out.2 hb5); clear hb5)
     | fail)
    have cw : RowKit.wrap64 (i + 1) = i + 1 := Go.Proofs.Ytepmnfjcmppghaa.Sp.w64 (by have := HA.out; have := hT.out; omega)
    have cm : Go.Proofs.Ytepmnfjcmppghaa.Sp.manyW (k1 + 1) y = Go.Proofs.Ytepmnfjcmppghaa.Sp.manyW k1 y := by
     show Go.Proofs.Ytepmnfjcmppghaa.Sp.manyW k1 (if 131072 < y then Go.Proofs.Ytepmnfjcmppghaa.Sp.leastW y else y) = _
     rw [if_neg (by have := HV.out; omega)]
    go_roundg k1
    case rel => exact ⟨y, wrap64 (i + 1), rfl, rfl, ⟨by rw [cw]; have := HA.out; omega, by rw [cw]; have := HA.out; omega, HA.out.2.2.1, HA.out.2.2.2.1, cm.symm.trans HA.out.2.2.2.2⟩, H5⟩
    case measure => omega

end Go.Proofs.Ytepmnfjcmppghaa.Px
