/- Printed by px.py, over the kit's print. Conditions: none beside the theorems' own. -/
import Derived.RangeFuncNested
import Derived.Deep.QuietTactic
import Derived.BigQuiet
import Derived.Deep.LoopGhost
import Derived.Deep.RegionWith
import Derived.Test.YtbpcfamjidjhjaaDoorPx0
import Derived.Test.YtbpcfamjidjhjaaDoorPx6
import Derived.Test.YtbpcfamjidjhjaaDoorSpec
namespace Go.Proofs.YtbpcfamjidjhjaaDoor.Px
open Go.RowKit Go.Proofs.YtbpcfamjidjhjaaDoorW.PrintWords Go.Proofs.YtbpcfamjidjhjaaDoorW.PrintLast Go.Proofs.YtbpcfamjidjhjaaDoorW.PrintMore
attribute [local go_sem] max2_int min2_int max_two min_two max_three min_three max_four min_four
set_option linter.unusedVariables false
set_option linter.unusedSimpArgs false

/-! ### guide_Parts: function 10 -/
noncomputable def guide_Parts.chk (p : S23) : Int := Sp.chkQ p.f0 p.f1 p.f2 p.f3 p.f4 p.f5 p.f6
noncomputable def guide_Parts.ok (p : S23) : Bool := decide (guide_Parts.chk p = 0)
noncomputable def guide_Parts.f (l : List (S23)) : Option (List (S23) × List (S23)) := Sp.need (l.length ≤ 1000000) (some (l.filter guide_Parts.ok, l.filter fun p => !guide_Parts.ok p))
theorem guide_Parts.eq {l : List (S23)} (h : l.length ≤ 1000000) : guide_Parts.f l = some (l.filter guide_Parts.ok, l.filter fun p => !guide_Parts.ok p) := Sp.need_pos h
def guide_Inv (b0 gm gn : Nat) (lm ln : List S23) (W : World) : Prop := ∃ vm vn, (Boxed W gm 26 vm ∧ Boxed W gn 26 vn) ∧ Kd.R k23 23 W b0 (fun k => (k ≠ gm ∧ k ≠ gn) ∧ some k ≠ vn.ownBlock) vm lm ∧ Kd.R k23 23 W b0 (fun k => (k ≠ gm ∧ k ≠ gn) ∧ some k ≠ vm.ownBlock) vn ln
theorem guide_Inv.swap {b0 gm gn : Nat} {lm ln : List S23} {W : World} (h : guide_Inv b0 gm gn lm ln W) : guide_Inv b0 gn gm ln lm W := by
 obtain ⟨vm, vn, ⟨h1, h2⟩, h3, h4⟩ := h; exact ⟨vn, vm, ⟨h2, h1⟩, Kd.R_mono h4 (fun k hk => ⟨⟨hk.1.2, hk.1.1⟩, hk.2⟩), Kd.R_mono h3 (fun k hk => ⟨⟨hk.1.2, hk.1.1⟩, hk.2⟩)⟩
theorem guide_appended {b0 gm gn : Nat} {vm vn v1 : Value} {lm ln lp : List S23} {W w1 : World} (hne : gm ≠ gn) (hM : Boxed W gm 26 vm) (hN : Boxed W gn 26 vn) (RM : Kd.R k23 23 W b0 (fun k => (k ≠ gm ∧ k ≠ gn) ∧ some k ≠ vn.ownBlock) vm lm) (RN : Kd.R k23 23 W b0 (fun k => (k ≠ gm ∧ k ≠ gn) ∧ some k ≠ vm.ownBlock) vn ln)
  (ho : Kd.R k23 23 w1 b0 (fun k => (k ≠ gm ∧ k ≠ gn) ∧ some k ≠ vn.ownBlock) v1 lp) (hg : W.grownBy w1 vm.ownBlock) (hat : v1.ownBlock = vm.ownBlock ∨ ∃ b, v1.ownBlock = some b ∧ W.heap.size ≤ b) :
  Boxed w1 gm 26 vm ∧ guide_Inv b0 gm gn lp ln (w1.setCell ⟨gm, 0, none⟩ v1) := by
 have M1 : Boxed w1 gm 26 vm := hM.kept hg (fun e => (RM.1 gm e.symm).1.1 rfl); have N1 : Boxed w1 gn 26 vn := hN.kept hg (fun e => (RM.1 gn e.symm).1.2 rfl); have RN1 := Kd.R_step (Kd.R_mono (Kd.R_bound RN) (ok' := fun k => ((k ≠ gm ∧ k ≠ gn) ∧ some k ≠ vm.ownBlock) ∧ some k ≠ v1.ownBlock) (fun k hk => ⟨hk.1, fun e => by
  rcases hat with x | ⟨b, x, y⟩
  ·exact hk.1.2 (e.trans x)
  ·rw [x] at e; cases e; have := hk.2.2.1; omega⟩)) (fun k hk hlt => hg.block k hlt hk.1.2)
 have st : ∀ k, k ≠ gm → (w1.setCell ⟨gm, 0, none⟩ v1).heap[k]? = w1.heap[k]? := fun k hk => Below.heap_setCell _ _ _ k (fun e => hk e)
 refine ⟨M1, v1, vn, ⟨M1.set _, N1.other (fun e => hne e.symm) _⟩, Kd.R_step ho (fun k hk _ => st k hk.1.1), Kd.R_step (Kd.R_mono RN1 (fun k hk => ⟨hk.1.1, hk.2⟩)) (fun k hk _ => st k hk.1.1)⟩
theorem guide_fresh {b0 gm gn : Nat} {vm vn : Value} {ln : List S23} {W : World} (hM : Boxed W gm 26 vm) (hN : Boxed W gn 26 vn) (RN : Kd.R k23 23 W b0 (fun k => (k ≠ gm ∧ k ≠ gn) ∧ some k ≠ vm.ownBlock) vn ln) (k : Nat) (hk : W.heap.size ≤ k) : (k ≠ gm ∧ k ≠ gn) ∧ some k ≠ vn.ownBlock := by
 have a := hM.lt; have b := hN.lt; exact ⟨⟨by omega, by omega⟩, fun e => by have := ((Kd.R_bound RN).1 k e.symm).2.2.1; omega⟩
set_option maxRecDepth 100000 in
set_option maxHeartbeats 4000000 in
theorem guide_put (gm gn : Nat) (lm ln : List S23) (p : S23) (e : Int) (w0 w : World) (HC : Aside0 (guide_Check.f p.f0 p.f1 p.f2 p.f3 p.f4 p.f5 p.f6 = some e)) (hB : Below w0.heap.size w0 w) (hgm : w0.heap.size ≤ gm) (hgn : w0.heap.size ≤ gn) (hne : gm ≠ gn) (hi : guide_Inv w0.heap.size gm gn lm ln w) (hl : Aside0 (lm.length < 2513169434916 ∧ ln.length < 2513169434916)) :
  Calls Tryd.prog 26 #[.agg #[.int .i64 p.f0, .int .i64 p.f1, .int .i64 p.f2, .int .i64 p.f3, .int .i64 p.f4, .int .i64 p.f5, .int .i64 p.f6], .pointer (some ⟨gm, 0, none⟩), .pointer (some ⟨gn, 0, none⟩)] w fun en w' => (∃ v, en = .returned v) ∧ guide_Inv w0.heap.size gm gn (if e = 0 then lm ++ [p] else lm) (if e = 0 then ln else ln ++ [p]) w' ∧ Below w0.heap.size w0 w' := by
 obtain ⟨vm, vn, ⟨hM, hN⟩, RM, RN⟩ := hi; have HB := Aside0.mk hB; have BM := Aside0.mk (show w.heap[gm]? = some (.cells #[vm] 26 (0, 0)) from hM); have BN := Aside0.mk (show w.heap[gn]? = some (.cells #[vn] 26 (0, 0)) from hN); replace RM := Aside0.mk RM; replace RN := Aside0.mk RN; have GM := Aside0.mk hgm; have GN := Aside0.mk hgn; clear hB hM hN hgm hgn
 by_cases c : e = 0
 ·have c1 : (e == 0) = true := beq_iff_eq.mpr c
  rw [if_pos c, if_pos c]
  clear c
  go_enter Tryd.func26, Tryd.ntmps26
  go_wp2_with (first
   | ((with_reducible refine gate_dst (N := 3) rfl ?_); refine box_event ?hg (N := 3) ?hd (cs := #[.int .i64 p.f0, .int .i64 p.f1, .int .i64 p.f2, .int .i64 p.f3, .int .i64 p.f4, .int .i64 p.f5, .int .i64 p.f6]) (t := 23) ?hr ?_; (case hd => rfl); (case hg => rfl); (case hr => first | (go_simp; done) | (go_simp; rfl)); intro gb hg w2 hbox hb; have BK := Aside0.mk hbox; obtain ⟨NM1, NM2, nBM⟩ := nbA BM hg hb; replace BM := nBM; clear nBM; obtain ⟨NN1, NN2, nBN⟩ := nbA BN hg hb; replace BN := nBN; clear nBN; replace RM := Aside0.mk (Kd.R_below RM.out hb); replace RN := Aside0.mk (Kd.R_below RN.out hb); replace HB := Aside0.mk (HB.out.trans (hb.mono HB.out.size)); clear hb hbox hg; have z0 := czZ BK 0 (.int .i64 p.f0); have z1 := czZ BK 1 (.int .i64 p.f1); have z2 := czZ BK 2 (.int .i64 p.f2); have z3 := czZ BK 3 (.int .i64 p.f3); have z4 := czZ BK 4 (.int .i64 p.f4); have z5 := czZ BK 5 (.int .i64 p.f5); have z6 := czZ BK 6 (.int .i64 p.f6))
   | (go_at_call 11; refine (guide_Check.calls p.f0 p.f1 p.f2 p.f3 p.f4 p.f5 p.f6 e _ HC.out).mono ?_; rintro e1 w3 ⟨rfl, hb⟩; replace BK := bbZ BK hb; replace BM := bbZ BM hb; replace BN := bbZ BN hb; replace RM := Aside0.mk (Kd.R_below RM.out hb); replace RN := Aside0.mk (Kd.R_below RN.out hb); replace HB := Aside0.mk (HB.out.trans (hb.mono HB.out.size)); clear hb z0 z1 z2 z3 z4 z5 z6; have z0 := czZ BK 0 (.int .i64 p.f0); have z1 := czZ BK 1 (.int .i64 p.f1); have z2 := czZ BK 2 (.int .i64 p.f2); have z3 := czZ BK 3 (.int .i64 p.f3); have z4 := czZ BK 4 (.int .i64 p.f4); have z5 := czZ BK 5 (.int .i64 p.f5); have z6 := czZ BK 6 (.int .i64 p.f6); have y0 := czZ BM 0 vm)
   | ((with_reducible refine gate_builtin (b := .append) (xs := #[.tmp 7, .tmp 9]) rfl ?_); at_builtin; refine Kd.R_append k23 (w0 := w0) w0.heap.size rfl (.tmp 7) (.tmp 9) 26 23 (.agg #[(.int .i64 0), (.int .i64 0), (.int .i64 0), (.int .i64 0), (.int .i64 0), (.int .i64 0), (.int .i64 0)]) 56 rfl Tryd.underlying26 info23 rfl (by decide) (by omega) vm lm p [.int .i64 p.f0, .int .i64 p.f1, .int .i64 p.f2, .int .i64 p.f3, .int .i64 p.f4, .int .i64 p.f5, .int .i64 p.f6] (fun k => (k ≠ gm ∧ k ≠ gn) ∧ some k ≠ (vn).ownBlock) (fun _ => False) rfl rfl ?aP (fun _ hk => hk.elim) ?aF ?aO ?aB ?aS ?aL ?_; (case aP => exact k23_mkM _ _ _ p); (case aB => exact HB.out); (case aF => exact guide_fresh BM.out BN.out RN.out); (case aO => exact RM.out); (case aS => exact HB.out.size); (case aL => have := hl.out.1; omega); intro v1 w4 ho hbb hg hat; obtain ⟨A1, c1', rfl⟩ := Kd.R_slice ho; obtain ⟨M1, I1⟩ := guide_appended hne BM.out BN.out RM.out RN.out ho hg hat; replace HB := Aside0.mk hbb; rw [List.length_append, List.length_singleton] at I1; have I2 := Aside0.mk I1; have y1 := M1.cell; have f1 := M1.frozen; clear ho hbb hg hat I1)
   | fail)
  refine bodyPost_ret (results_none rfl _ _ _) rfl ?_; exact ⟨⟨_, rfl⟩, I2.out, HB.out.setCell (p := ⟨gm, 0, none⟩) GM.out _⟩
 ·have c1 : (e == 0) = false := beq_eq_false_iff_ne.mpr c
  rw [if_neg c, if_neg c]
  clear c; have RM2 := Aside0.mk (Kd.R_mono RM.out (ok' := fun k => (k ≠ gn ∧ k ≠ gm) ∧ some k ≠ vn.ownBlock) (fun k hk => ⟨⟨hk.1.2, hk.1.1⟩, hk.2⟩)); have RN2 := Aside0.mk (Kd.R_mono RN.out (ok' := fun k => (k ≠ gn ∧ k ≠ gm) ∧ some k ≠ vm.ownBlock) (fun k hk => ⟨⟨hk.1.2, hk.1.1⟩, hk.2⟩)); clear RM RN
  go_enter Tryd.func26, Tryd.ntmps26
  go_wp2_with (first
   | ((with_reducible refine gate_dst (N := 3) rfl ?_); refine box_event ?hg (N := 3) ?hd (cs := #[.int .i64 p.f0, .int .i64 p.f1, .int .i64 p.f2, .int .i64 p.f3, .int .i64 p.f4, .int .i64 p.f5, .int .i64 p.f6]) (t := 23) ?hr ?_; (case hd => rfl); (case hg => rfl); (case hr => first | (go_simp; done) | (go_simp; rfl)); intro gb hg w2 hbox hb; have BK := Aside0.mk hbox; obtain ⟨NM1, NM2, nBM⟩ := nbA BM hg hb; replace BM := nBM; clear nBM; obtain ⟨NN1, NN2, nBN⟩ := nbA BN hg hb; replace BN := nBN; clear nBN; replace RM2 := Aside0.mk (Kd.R_below RM2.out hb); replace RN2 := Aside0.mk (Kd.R_below RN2.out hb); replace HB := Aside0.mk (HB.out.trans (hb.mono HB.out.size)); clear hb hbox hg; have z0 := czZ BK 0 (.int .i64 p.f0); have z1 := czZ BK 1 (.int .i64 p.f1); have z2 := czZ BK 2 (.int .i64 p.f2); have z3 := czZ BK 3 (.int .i64 p.f3); have z4 := czZ BK 4 (.int .i64 p.f4); have z5 := czZ BK 5 (.int .i64 p.f5); have z6 := czZ BK 6 (.int .i64 p.f6))
   | (go_at_call 11; refine (guide_Check.calls p.f0 p.f1 p.f2 p.f3 p.f4 p.f5 p.f6 e _ HC.out).mono ?_; rintro e1 w3 ⟨rfl, hb⟩; replace BK := bbZ BK hb; replace BM := bbZ BM hb; replace BN := bbZ BN hb; replace RM2 := Aside0.mk (Kd.R_below RM2.out hb); replace RN2 := Aside0.mk (Kd.R_below RN2.out hb); replace HB := Aside0.mk (HB.out.trans (hb.mono HB.out.size)); clear hb z0 z1 z2 z3 z4 z5 z6; have z0 := czZ BK 0 (.int .i64 p.f0); have z1 := czZ BK 1 (.int .i64 p.f1); have z2 := czZ BK 2 (.int .i64 p.f2); have z3 := czZ BK 3 (.int .i64 p.f3); have z4 := czZ BK 4 (.int .i64 p.f4); have z5 := czZ BK 5 (.int .i64 p.f5); have z6 := czZ BK 6 (.int .i64 p.f6); have y0 := czZ BN 0 vn)
   | ((with_reducible refine gate_builtin (b := .append) (xs := #[.tmp 11, .tmp 13]) rfl ?_); at_builtin; refine Kd.R_append k23 (w0 := w0) w0.heap.size rfl (.tmp 11) (.tmp 13) 26 23 (.agg #[(.int .i64 0), (.int .i64 0), (.int .i64 0), (.int .i64 0), (.int .i64 0), (.int .i64 0), (.int .i64 0)]) 56 rfl Tryd.underlying26 info23 rfl (by decide) (by omega) vn ln p [.int .i64 p.f0, .int .i64 p.f1, .int .i64 p.f2, .int .i64 p.f3, .int .i64 p.f4, .int .i64 p.f5, .int .i64 p.f6] (fun k => (k ≠ gn ∧ k ≠ gm) ∧ some k ≠ (vm).ownBlock) (fun _ => False) rfl rfl ?aP (fun _ hk => hk.elim) ?aF ?aO ?aB ?aS ?aL ?_; (case aP => exact k23_mkM _ _ _ p); (case aB => exact HB.out); (case aF => exact guide_fresh BN.out BM.out RM2.out); (case aO => exact RN2.out); (case aS => exact HB.out.size); (case aL => have := hl.out.2; omega); intro v1 w4 ho hbb hg hat; obtain ⟨A1, c1', rfl⟩ := Kd.R_slice ho; obtain ⟨M1, I1⟩ := guide_appended (fun e => hne e.symm) BN.out BM.out RN2.out RM2.out ho hg hat; replace HB := Aside0.mk hbb; rw [List.length_append, List.length_singleton] at I1; have I2 := Aside0.mk I1; have y1 := M1.cell; have f1 := M1.frozen; clear ho hbb hg hat I1)
   | fail)
  refine bodyPost_end (results_none rfl _ _ _) rfl ?_; exact ⟨⟨_, rfl⟩, I2.out.swap, HB.out.setCell (p := ⟨gn, 0, none⟩) GN.out _⟩
theorem guide_Inv.below {b0 gm gn : Nat} {lm ln : List S23} {W W' : World} (h : guide_Inv b0 gm gn lm ln W) (hb : Below W.heap.size W W') : guide_Inv b0 gm gn lm ln W' := by
 obtain ⟨vm, vn, ⟨h1, h2⟩, h3, h4⟩ := h; exact ⟨vm, vn, ⟨(hb.block gm h1.lt).trans h1, (hb.block gn h2.lt).trans h2⟩, Kd.R_below h3 hb, Kd.R_below h4 hb⟩
theorem guide_step (l : List S23) (i : Nat) (h : i < l.length) (q : S23 → Bool) : (l.take (i + 1)).filter q = if q (rd_T23 l i) = true then (l.take i).filter q ++ [rd_T23 l i] else (l.take i).filter q := by
 have e : rd_T23 l i = l[i] := by unfold rd_T23; simp [List.getD_eq_getElem?_getD, List.getElem?_eq_getElem h]
 rw [List.take_add_one, List.getElem?_eq_getElem h, e]
 simp only [Option.toList_some, List.filter_append, List.filter_cons, List.filter_nil]
 split <;> simp
theorem guide_results {tmps : Array Value} {W : World} {gm gn : Nat} {Am An : Option Addr} {nm nn cm cn : Nat} (h2 : tmps.getD 2 undef = .pointer (some ⟨gm, 0, none⟩)) (h3 : tmps.getD 3 undef = .pointer (some ⟨gn, 0, none⟩)) (c2 : W.cell? ⟨gm, 0, none⟩ = some (.slice Am nm cm)) (c3 : W.cell? ⟨gn, 0, none⟩ = some (.slice An nn cn)) :
  (results Tryd.f10 tmps).run Tryd.prog W = .ok (.tuple #[.slice Am nm cm, .slice An nn cn]) W := by
 have h2' : tmps[2]?.getD undef = .pointer (some ⟨gm, 0, none⟩) := by simpa using h2
 have h3' : tmps[3]?.getD undef = .pointer (some ⟨gn, 0, none⟩) := by simpa using h3
 simp [results, show Tryd.f10.results = #[.cell 2 26, .cell 3 26] from rfl, h2', h3', asAddr]
 go_simp
theorem guide_last {gm gn : Nat} {w wr : World} {Am An : Option Addr} {cm cn : Nat} {lm ln : List S23} {a : Act} (bm : Boxed wr gm 26 (.slice Am lm.length cm)) (bn : Boxed wr gn 26 (.slice An ln.length cn)) (hne : gm ≠ gn)
  (RM : Kd.R k23 23 wr w.heap.size (fun k => (k ≠ gm ∧ k ≠ gn) ∧ some k ≠ (Value.slice An ln.length cn).ownBlock) (.slice Am lm.length cm) lm) (RN : Kd.R k23 23 wr w.heap.size (fun k => (k ≠ gm ∧ k ≠ gn) ∧ some k ≠ (Value.slice Am lm.length cm).ownBlock) (.slice An ln.length cn) ln)
  (HB : Below w.heap.size w wr) (ha : a.defers = []) (h2 : a.tmps.getD 2 undef = .pointer (some ⟨gm, 0, none⟩)) (h3 : a.tmps.getD 3 undef = .pointer (some ⟨gn, 0, none⟩)) (hgm : w.heap.size ≤ gm) (hgn : w.heap.size ≤ gn) :
  bodyPost Tryd.prog Tryd.f10 (fun e w' => ∃ v0_ v1_, e = .returned (.tuple #[v0_, v1_]) ∧ Kd.R k23 23 w' w.heap.size (fun k => some k ≠ v1_.ownBlock) v0_ lm ∧ Kd.R k23 23 w' w.heap.size (fun k => some k ≠ v0_.ownBlock) v1_ ln ∧ Below w.heap.size w w') Exit.ret a
   (((wr.setCell ⟨gm, 0, none⟩ (.slice Am lm.length cm)).setCell ⟨gn, 0, none⟩ (.slice An ln.length cn)).drew) := by
 have m1 := (bm.set (.slice Am lm.length cm)).other hne (.slice An ln.length cn); have n1 := (bn.other (fun e => hne e.symm) (.slice Am lm.length cm)).set (.slice An ln.length cn); have m2 : Boxed (((wr.setCell ⟨gm, 0, none⟩ (.slice Am lm.length cm)).setCell ⟨gn, 0, none⟩ (.slice An ln.length cn)).drew) gm 26 (.slice Am lm.length cm) := blk_drew m1; have n2 : Boxed (((wr.setCell ⟨gm, 0, none⟩ (.slice Am lm.length cm)).setCell ⟨gn, 0, none⟩ (.slice An ln.length cn)).drew) gn 26 (.slice An ln.length cn) := blk_drew n1
 have st : ∀ k, (k ≠ gm ∧ k ≠ gn) → ((wr.setCell ⟨gm, 0, none⟩ (.slice Am lm.length cm)).setCell ⟨gn, 0, none⟩ (.slice An ln.length cn)).heap[k]? = wr.heap[k]? := fun k hk => (Below.heap_setCell _ _ _ k (fun e => hk.2 e)).trans (Below.heap_setCell _ _ _ k (fun e => hk.1 e))
 refine bodyPost_ret (guide_results h2 h3 m2.cell n2.cell) ha ⟨_, _, rfl, ?_, ?_, ?_⟩
 ·exact Kd.R_drew (Kd.R_mono (Kd.R_step RM (fun k hk _ => st k hk.1)) (fun k hk => hk.2))
 ·exact Kd.R_drew (Kd.R_mono (Kd.R_step RN (fun k hk _ => st k hk.1)) (fun k hk => hk.2))
 ·exact below_drew1 ((HB.setCell (p := ⟨gm, 0, none⟩) hgm _).setCell (p := ⟨gn, 0, none⟩) hgn _)
set_option maxRecDepth 100000 in
set_option maxHeartbeats 4000000 in
theorem guide_Parts.walk (A0 : Option Addr) (c0 : Nat) (l0 : List S23) (w : World) (hr0 : Kd.C k23 w A0 l0.length l0) (hc0 : l0.length ≤ c0) (hlen : Aside0 (l0.length ≤ 1000000)) :
  Calls Tryd.prog 10 #[.slice A0 l0.length c0] w fun e w' => ∃ v0_ v1_, e = .returned (.tuple #[v0_, v1_]) ∧ Kd.R k23 23 w' w.heap.size (fun k => some k ≠ v1_.ownBlock) v0_ (l0.filter guide_Parts.ok) ∧ Kd.R k23 23 w' w.heap.size (fun k => some k ≠ v0_.ownBlock) v1_ (l0.filter fun p => !guide_Parts.ok p) ∧ Below w.heap.size w w' := by
 have hmf : ∀ (fn : Fn) (first cap : Array Value) (w : World), (Instr.makeFunc fn first cap).run Tryd.prog w = .ok (.func fn first cap) w := fun _ _ _ _ => rfl
 have HR0 := Aside0.mk hr0; have HC0 := Aside0.mk hc0; clear hr0 hc0; have HB := Aside0.mk (Below.refl w.heap.size w)
 go_enter Tryd.func10, Tryd.ntmps10
 go_wp2
 go_loopg [10] l0.length (fun kq v10 wr => ∃ i : Nat, v10 = .int .i64 i ∧ Aside0 (i + kq = l0.length) ∧ Aside0 (guide_Inv w.heap.size w.heap.size (w.heap.size + 1) ((l0.take i).filter guide_Parts.ok) ((l0.take i).filter fun p => !guide_Parts.ok p) wr) ∧ Aside0 (Below w.heap.size w wr))
 case atStart =>
  refine ⟨0, rfl, ⟨by omega⟩, ⟨.slice none 0 0, .slice none 0 0, ⟨?_, ?_⟩, Kd.R_nil _ _ _ _ _, Kd.R_nil _ _ _ _ _⟩, ⟨?_⟩⟩
  ·exact (Boxed.new w 26 _).alloc _
  ·have := Boxed.new (w.alloc (.cells #[.slice none 0 0] 26)) 26 (.slice none 0 0)
   rw [World.size_alloc] at this
   exact this
  ·exact ((Below.refl _ w).alloc (Nat.le_refl _) _).alloc (by simp) _
 case round =>
  clear HB; obtain ⟨i, rfl, HI, HV, HB⟩ := hrel
  cases gk with
  | zero =>
   have hi : i = l0.length := by have := HI.out; omega
   subst hi
   have c1 : decide ((l0.length : Int) < (l0.length : Int)) = false := decide_eq_false (by omega); have HV1 := HV.out
   rw [List.take_length] at HV1
   obtain ⟨vm, vn, ⟨bm, bn⟩, RM, RN⟩ := HV1; clear HV; obtain ⟨Am, cm, rfl⟩ := Kd.R_slice RM; obtain ⟨An, cn, rfl⟩ := Kd.R_slice RN; have ym := bm.cell; have yn := bn.cell; have fm := bm.frozen; have fn := bn.frozen
   go_wp2
   go_region_with (fail)
   all_goals (go_wp2; exact guide_last bm bn (by omega) RM RN HB.out rfl rfl rfl (Nat.le_refl _) (Nat.le_succ _))
  | succ k1 =>
   have hi : i < l0.length := by have := HI.out; omega
   have c1 : decide ((i : Int) < (l0.length : Int)) = true := decide_eq_true (by omega)
   have p363 : 0 ≤ (i : Int) := by omega
   have q363 : (i : Int) < (l0.length : Int) := by omega
   obtain ⟨ad, e363, hx_0, hx_1, hx_2, hx_3, hx_4, hx_5, hx_6⟩ := at_T23 HR0.out i p363 q363
   cases e363
   have hin : ((i : Int)).toNat = i := by omega
   rw [hin] at hx_0 hx_1 hx_2 hx_3 hx_4 hx_5 hx_6
   replace hx_0 := (HB.out.cell (World.block_lt_of_cell? w _ hx_0)).trans hx_0; replace hx_1 := (HB.out.cell (World.block_lt_of_cell? w _ hx_1)).trans hx_1; replace hx_2 := (HB.out.cell (World.block_lt_of_cell? w _ hx_2)).trans hx_2; replace hx_3 := (HB.out.cell (World.block_lt_of_cell? w _ hx_3)).trans hx_3; replace hx_4 := (HB.out.cell (World.block_lt_of_cell? w _ hx_4)).trans hx_4; replace hx_5 := (HB.out.cell (World.block_lt_of_cell? w _ hx_5)).trans hx_5; replace hx_6 := (HB.out.cell (World.block_lt_of_cell? w _ hx_6)).trans hx_6; replace p363 := eq_true p363; replace q363 := eq_true q363
   go_wp2_with (first | (go_at_call 26; refine (guide_put w.heap.size (w.heap.size + 1) ((l0.take i).filter guide_Parts.ok) ((l0.take i).filter fun p => !guide_Parts.ok p) (rd_T23 l0 i) (guide_Parts.chk (rd_T23 l0 i)) w _ ⟨rfl⟩ (HB.out.trans ((below_alloc (Below.refl _ _) _).mono HB.out.size)) (Nat.le_refl _) (Nat.le_succ _) (by omega) (HV.out.below (below_alloc (Below.refl _ _) _)) ⟨⟨by have := hlen.out; have a := List.length_filter_le guide_Parts.ok (l0.take i); have b := List.length_take_le i l0; omega, by have := hlen.out; have a := List.length_filter_le (fun p => !guide_Parts.ok p) (l0.take i); have b := List.length_take_le i l0; omega⟩⟩).mono ?_; rintro en w9 ⟨⟨vv, rfl⟩, hi9, hb9⟩) | fail)
   go_roundg k1
   case rel =>
    refine ⟨i + 1, congrArg (Value.int .i64) (by rw [Sp.w64 (x := (i : Int) + 1) (by have := hlen.out; omega)]; rfl), ⟨by have := HI.out; omega⟩, ⟨?_⟩, ⟨hb9⟩⟩
    rw [guide_step l0 i hi, guide_step l0 i hi]
    by_cases e0 : guide_Parts.chk (rd_T23 l0 i) = 0
    ·rw [if_pos e0, if_pos e0] at hi9
     have e1 : guide_Parts.ok (rd_T23 l0 i) = true := decide_eq_true e0
     rw [e1, if_pos rfl, if_neg (by simp)]
     exact hi9
    ·rw [if_neg e0, if_neg e0] at hi9
     have e1 : guide_Parts.ok (rd_T23 l0 i) = false := decide_eq_false e0
     rw [e1, if_neg (by simp), if_pos (show (!false) = true from rfl)]
     exact hi9
   case measure => omega
theorem guide_Parts.calls (A0 : Option Addr) (c0 : Nat) (l0 : List (S23)) (r1 : List (S23)) (r2 : List (S23)) (w : World) (hr0 : Kd.C k23 w A0 l0.length l0) (hc0 : l0.length ≤ c0) (h : guide_Parts.f l0 = some (r1, r2)) :
  Calls Tryd.prog 10 #[.slice A0 l0.length c0] w fun e w' => ∃ v0_ v1_ : Value, e = .returned (.tuple #[v0_, v1_]) ∧ Kd.R k23 23 w' w.heap.size (fun k_ => some k_ ≠ (v1_ : Value).ownBlock) v0_ r1 ∧ Kd.R k23 23 w' w.heap.size (fun k_ => some k_ ≠ (v0_ : Value).ownBlock) v1_ r2 ∧ Below w.heap.size w w' := by
 obtain ⟨hl, h⟩ := Sp.need_some h; obtain ⟨rfl, rfl⟩ := Prod.mk.inj (Option.some.inj h); exact guide_Parts.walk A0 c0 l0 w hr0 hc0 ⟨hl⟩

end Go.Proofs.YtbpcfamjidjhjaaDoor.Px
