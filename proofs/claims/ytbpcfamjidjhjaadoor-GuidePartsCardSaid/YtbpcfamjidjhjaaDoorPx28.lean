/- Printed by px.py, over the kit's print. Conditions: none beside the theorems' own. -/
import Derived.WalkMore
import Derived.Test.YtbpcfamjidjhjaaDoorPx0
import Derived.Test.YtbpcfamjidjhjaaDoorPx14
import Derived.Test.YtbpcfamjidjhjaaDoorPx27
import Derived.Test.YtbpcfamjidjhjaaDoorSpec
namespace Go.Proofs.YtbpcfamjidjhjaaDoor.Px
open Go.RowKit Go.Proofs.YtbpcfamjidjhjaaDoorW.PrintWords Go.Proofs.YtbpcfamjidjhjaaDoorW.PrintLast Go.Proofs.YtbpcfamjidjhjaaDoorW.PrintMore
attribute [local go_sem] max2_int min2_int max_two min_two max_three min_three max_four min_four
set_option linter.unusedVariables false
set_option linter.unusedSimpArgs false

/-! ### root_Third: function 60 -/
noncomputable def root_Third.f (n : Bool) (h l : Int) : Option Int := Sp.need (Sp.U h ∧ Sp.U l) (some (Sp.root3 (h * 18446744073709551616 + l)))
theorem root_Third.eq {n : Bool} {h l : Int} (h1 : Sp.U h) (h2 : Sp.U l) : root_Third.f n h l = some (Sp.root3 (h * 18446744073709551616 + l)) := Sp.need_pos ⟨h1, h2⟩
set_option maxHeartbeats 1000000 in
set_option maxRecDepth 100000 in
theorem root_Third.closure (g : Nat) (n h l : Int) (c1 : Bool) (c2 c3 e k : Int) (b d : Bool) (HC : Aside0 (root_CubeS.f n = some (c1, c2, c3, e))) (HK : Aside0 (b = true → big_CmpS.f c1 c2 c3 false h l = some k)) (he : (e == 0) = b) (hk : decide (k ≤ 0) = d) (w : World)
  (hb0 : w.heap[g]? = some (.cells #[.bool false, .int .u64 h, .int .u64 l] 59 (0, 0))) :
  Calls Tryd.prog 73 #[.int .u64 n, .pointer (some ⟨g, 0, none⟩)] w fun e w' => e = .returned (.bool (b && d)) ∧ Below w.heap.size w w' := by
 have HB := Aside0.mk (Below.refl w.heap.size w); have BK := Aside0.mk hb0; clear hb0
 cases b
 ·go_enter Tryd.func73, Tryd.ntmps73
  go_wp2_with (first
   | (go_at_call 74; refine (root_CubeS.calls n c1 c2 c3 e _ HC.out).mono ?_; rintro e1 w1 ⟨rfl, hb⟩; replace BK := bbZ BK hb; replace HB := stA hb; clear hb)
   | ((with_reducible refine gate_dst (N := 4) rfl ?_); refine box_event ?hg (N := 4) ?hd (cs := #[.bool false, .int .u64 0, .int .u64 0]) (t := 59) ?hr ?_; (case hd => rfl); (case hg => rfl); (case hr => first | (go_simp; done) | (go_simp; rfl)); intro gb hg w2 hbox hb; have BK1 := Aside0.mk hbox; obtain ⟨GW1, nHB⟩ := geA hg hb; have GE1 := GW1; obtain ⟨NB1, NB2, nBK⟩ := nbA BK hg hb; replace BK := nBK; clear nBK; replace HB := nHB; clear nHB; clear hb hbox hg; have z0 := czZ BK1 0 (.bool false); have z1 := czZ BK1 1 (.int .u64 0); have z2 := czZ BK1 2 (.int .u64 0); have f0 := blk_frozen BK1.out 0; have f1 := blk_frozen BK1.out 1; have f2 := blk_frozen BK1.out 2; have y0 := czZ BK 0 (.bool false); have y1 := czZ BK 1 (.int .u64 h); have y2 := czZ BK 2 (.int .u64 l); have n1 := NB1.out; have n2 := NB2.out))
  go_ret
  exact ⟨by first | rfl | (simp; done) | (simp [*]; done), (by repeat (first | (with_reducible first | apply below_alloc | exact HB.out | apply pw_below_drewN | apply below_drew1 | refine below_set ?_ GE1.out) | exact HB.out))⟩
 ·go_enter Tryd.func73, Tryd.ntmps73
  go_wp2_with (first
   | (go_at_call 74; refine (root_CubeS.calls n c1 c2 c3 e _ HC.out).mono ?_; rintro e1 w1 ⟨rfl, hb⟩; replace BK := bbZ BK hb; replace HB := stA hb; clear hb)
   | ((with_reducible refine gate_dst (N := 4) rfl ?_); refine box_event ?hg (N := 4) ?hd (cs := #[.bool false, .int .u64 0, .int .u64 0]) (t := 59) ?hr ?_; (case hd => rfl); (case hg => rfl); (case hr => first | (go_simp; done) | (go_simp; rfl)); intro gb hg w2 hbox hb; have BK1 := Aside0.mk hbox; obtain ⟨GW1, nHB⟩ := geA hg hb; have GE1 := GW1; obtain ⟨NB1, NB2, nBK⟩ := nbA BK hg hb; replace BK := nBK; clear nBK; replace HB := nHB; clear nHB; clear hb hbox hg; have z0 := czZ BK1 0 (.bool false); have z1 := czZ BK1 1 (.int .u64 0); have z2 := czZ BK1 2 (.int .u64 0); have f0 := blk_frozen BK1.out 0; have f1 := blk_frozen BK1.out 1; have f2 := blk_frozen BK1.out 2; have y0 := czZ BK 0 (.bool false); have y1 := czZ BK 1 (.int .u64 h); have y2 := czZ BK 2 (.int .u64 l); have n1 := NB1.out; have n2 := NB2.out)
   | (go_at_call 32; refine (big_CmpS.calls c1 c2 c3 false h l k _ (HK.out (by trivial))).mono ?_; rintro e1 w3 ⟨rfl, hb⟩; replace HB := Aside0.mk (below_step (by repeat (first | (with_reducible first | apply below_alloc | exact HB.out | apply pw_below_drewN | apply below_drew1 | refine below_set ?_ GE1.out) | exact HB.out)) hb); clear hb))
  go_ret
  exact ⟨by first | rfl | (simp; done) | (simp [*]; done), (by repeat (first | (with_reducible first | apply below_alloc | exact HB.out | apply pw_below_drewN | apply below_drew1 | refine below_set ?_ GE1.out) | exact HB.out))⟩
set_option maxHeartbeats 2000000 in
set_option maxRecDepth 100000 in
/-- The greatest number of so many bits for which something is right: told by a function value that answers 'n ≤ R', whatever the world behind what was. -/
theorem root_Third.greatest (R many : Int) (g : Nat) (o : Obj) (hm : Aside0 (0 ≤ many ∧ many ≤ 43)) (hR : Aside0 (0 ≤ R ∧ R < 2 ^ many.toNat)) (w : World) (hb0 : w.heap[g]? = some o)
  (hright : ∀ (n : Int) (b : Bool) (w' : World), Aside0 (0 ≤ n ∧ n < 18446744073709551616 ∧ decide (n ≤ R) = b) → w'.heap[g]? = some o → Calls Tryd.prog 73 #[.int .u64 n, .pointer (some ⟨g, 0, none⟩)] w' fun e w'' => e = .returned (.bool b) ∧ Below w'.heap.size w' w'') :
  Calls Tryd.prog 72 #[.int .i64 many, .func (.func 73) #[] #[.pointer (some ⟨g, 0, none⟩)]] w fun e w' => e = .returned (.int .u64 R) ∧ Below w.heap.size w w' := by
 have HB := Aside0.mk (Below.refl w.heap.size w); have BK := Aside0.mk hb0; have HF := Aside0.mk hright; clear hb0 hright; have hs : (0 : Int) ≤ many := hm.out.1
 go_enter Tryd.func72, Tryd.ntmps72
 go_wp2_with (fail)
 go_step3
 go_wp2_with (fail)
 go_quiet (fail)
 go_wp2_with (fail)
 go_step3
 go_wp2_with (fail)
 obtain ⟨H0, hH0⟩ : ∃ H0 : Int, H0 = IntKind.u64.wrap (IntKind.u64.wrap (2 ^ min many.toNat 64) - 1) := ⟨_, rfl⟩
 rw [← hH0]
 have h0 : Aside0 (H0 = 2 ^ many.toNat - 1 ∧ H0 < 8796093022208) := ⟨by
  have a := hm.out; have p : (2 : Int) ^ many.toNat ≤ 2 ^ 43 := Sp.pow2_le (by omega); have p0 : (0 : Int) < 2 ^ many.toNat := Int.pow_pos (by omega)
  have q : (2 : Int) ^ 43 = 8796093022208 := by decide
  rw [hH0, show min many.toNat 64 = many.toNat by omega, Sp.u64w, Sp.u64w]
  omega⟩
 clear hH0 hs
 go_loopg [5, 6, 12] many.toNat (fun kq v5 v6 v12 wr => ∃ lo hi i : Int, v5 = .int .u64 lo ∧ v6 = .int .u64 hi ∧ v12 = .int .i64 i ∧ Aside0 (0 ≤ lo ∧ lo ≤ R ∧ R ≤ hi ∧ hi < 8796093022208 ∧ hi - lo < 2 ^ kq ∧ i + (kq : Int) = many ∧ 0 ≤ i) ∧ Aside0 (Below w.heap.size w wr))
 case atStart =>
  have a := hm.out; have b := hR.out; have c := h0.out; exact ⟨0, H0, 0, rfl, rfl, rfl, ⟨by omega, by omega, by omega, by omega, by omega, by omega, by omega⟩, ⟨pw_below_drewN HB.out _⟩⟩
 case round =>
  clear HB; obtain ⟨lo, hi, i, rfl, rfl, rfl, HA, HB⟩ := hrel
  cases gk with
  | zero =>
   have c1 : decide (i < many) = false := decide_eq_false (by have := HA.out; omega)
   have e1 : lo = R := by have := HA.out; simp at this; omega
   go_wp2
   (try rw [Exit.noGoto_ret])
   go_ret
   exact ⟨congrArg (fun z => Ending.returned (.int .u64 z)) e1, HB.out⟩
  | succ k1 =>
   have c1 : decide (i < many) = true := decide_eq_true (by have := HA.out; omega)
   by_cases e : lo = hi
   ·have c2 : (lo == hi) = true := beq_iff_eq.mpr e
    have e1 : Aside0 (lo = R) := ⟨by have := HA.out; omega⟩
    clear e
    go_wp2
    (try rw [Exit.noGoto_ret])
    go_ret
    exact ⟨congrArg (fun z => Ending.returned (.int .u64 z)) e1.out, HB.out⟩
   ·have c2 : (lo == hi) = false := beq_eq_false_iff_ne.mpr e
    have e1 : Aside0 (lo ≠ hi) := ⟨e⟩
    clear e; have e2 := Int.pow_succ 2 k1
    have hd : Aside0 (hi - lo < 2 * 2 ^ k1) := ⟨by have := HA.out; omega⟩
    clear e2
    obtain ⟨n, hn⟩ : ∃ n, IntKind.u64.wrap (hi - IntKind.u64.wrap ((IntKind.u64.wrap (hi - lo)).tdiv 2)) = n := ⟨_, rfl⟩
    obtain ⟨n1, hn1⟩ : ∃ n1, IntKind.u64.wrap (n - 1) = n1 := ⟨_, rfl⟩
    obtain ⟨i1, hi1⟩ : ∃ i1, wrap64 (i + 1) = i1 := ⟨_, rfl⟩
    have hn' : Aside0 (0 ≤ n ∧ n < 18446744073709551616 ∧ n = hi - (hi - lo) / 2 ∧ n1 = n - 1 ∧ i1 = i + 1) := ⟨by
     have a := HA.out; have b := e1.out; have c := hm.out; have hi1' := hi1
     rw [Sp.w64 (x := i + 1) (by omega)] at hi1'
     have hn2 := hn
     rw [Sp.u64w_in (x := hi - lo) (by omega), Int.tdiv_eq_ediv_of_nonneg (by omega), Sp.u64w_in (x := (hi - lo) / 2) (by omega), Sp.u64w_in (x := hi - (hi - lo) / 2) (by omega)] at hn2
     have hn3 := hn1
     rw [Sp.u64w_in (x := n - 1) (by omega)] at hn3
     omega⟩
    by_cases cr : n ≤ R
    ·have cr' := Aside0.mk cr; clear cr
     go_wp2_with (first | (go_at_call 73; refine (HF.out n true _ ⟨hn'.out.1, hn'.out.2.1, decide_eq_true cr'.out⟩ (blk_below BK.out HB.out)).mono ?_; rintro e9 w9 ⟨rfl, hb9⟩; replace HB := Aside0.mk (below_step HB.out hb9); clear hb9) | fail)
     go_roundg k1
     case rel =>
      have a := HA.out; have b := hn'.out; have c := cr'.out; have d := hd.out; have f := e1.out; exact ⟨n, hi, i1, rfl, rfl, congrArg (Value.int .i64) hi1, ⟨by omega, by omega, by omega, by omega, by omega, by omega, by omega⟩, HB⟩
     case measure => omega
    ·have cr' := Aside0.mk cr; clear cr
     go_wp2_with (first | (go_at_call 73; refine (HF.out n false _ ⟨hn'.out.1, hn'.out.2.1, decide_eq_false cr'.out⟩ (blk_below BK.out HB.out)).mono ?_; rintro e9 w9 ⟨rfl, hb9⟩; replace HB := Aside0.mk (below_step HB.out hb9); clear hb9) | fail)
     go_roundg k1
     case rel =>
      have a := HA.out; have b := hn'.out; have c := cr'.out; have d := hd.out; have f := e1.out; exact ⟨lo, n1, i1, rfl, rfl, congrArg (Value.int .i64) hi1, ⟨by omega, by omega, by omega, by omega, by omega, by omega, by omega⟩, HB⟩
     case measure => omega
theorem root_Third.right {h l n : Int} {b : Bool} {g : Nat} {w : World} (h1 : Sp.U h) (h2 : Sp.U l) (hn : 0 ≤ n ∧ n < 18446744073709551616 ∧ decide (n ≤ Sp.root3 (h * 18446744073709551616 + l)) = b)
  (hb : w.heap[g]? = some (.cells #[.bool false, .int .u64 h, .int .u64 l] 59 (0, 0))) :
  Calls Tryd.prog 73 #[.int .u64 n, .pointer (some ⟨g, 0, none⟩)] w fun e w' => e = .returned (.bool b) ∧ Below w.heap.size w w' := by
 obtain ⟨n0, n1, rfl⟩ := hn; have k := Sp.cube_le_iff (X := h * 18446744073709551616 + l) (by omega) n0; have p0 := Int.mul_nonneg (Int.mul_nonneg n0 n0) n0
 by_cases c : Sp.B (n * n * n)
 ·have hc := (root_CubeS.eq (a := n) ⟨n0, n1⟩).trans (Sp.held_in c); have hk := big_CmpS.el (m := false) c h1 h2
  rw [Sp.val_f] at hk
  refine (root_Third.closure g n h l _ _ _ _ _ true (decide (n ≤ Sp.root3 (h * 18446744073709551616 + l))) ⟨hc⟩ ⟨fun _ => hk⟩ rfl ?_ w hb).mono (fun e w' hq => ⟨by rw [hq.1]; simp, hq.2⟩)
  rw [decide_eq_decide, ← k]
  unfold Sp.cmpI
  split
  ·omega
  ·split <;> omega
 ·have hc := (root_CubeS.eq (a := n) ⟨n0, n1⟩).trans (Sp.held_out c); have hf : decide (n ≤ Sp.root3 (h * 18446744073709551616 + l)) = false := decide_eq_false (by rw [← k]; omega)
  rw [hf]
  exact (root_Third.closure g n h l _ _ _ _ 0 false true ⟨hc⟩ ⟨fun x => by cases x⟩ rfl rfl w hb).mono (fun e w' hq => ⟨by rw [hq.1]; simp, hq.2⟩)
set_option maxHeartbeats 1000000 in
set_option maxRecDepth 100000 in
theorem root_Third.calls (a0_0 : Bool) (a0_1 a0_2 r : Int) (w : World) (h : root_Third.f a0_0 a0_1 a0_2 = some r) :
  Calls Tryd.prog 60 #[.agg #[.bool a0_0, .int .u64 a0_1, .int .u64 a0_2]] w fun e w' => e = .returned (.int .u64 r) ∧ Below w.heap.size w w' := by
 obtain ⟨⟨h1, h2⟩, h⟩ := Sp.need_some h; obtain rfl := Option.some.inj h; clear h
 have hmf : ∀ (fn : Fn) (first cap : Array Value) (w : World), (Instr.makeFunc fn first cap).run Tryd.prog w = .ok (.func fn first cap) w := fun _ _ _ _ => rfl
 have HU := Aside0.mk (And.intro h1 h2); have HL := Aside0.mk (root_longS.eq (n := false) h1 h2); have HR := Aside0.mk (Sp.root3_bits h1 h2); have H0 := Aside0.mk (Sp.root3_spec (X := a0_1 * 18446744073709551616 + a0_2) (by omega)); have HB := Aside0.mk (Below.refl w.heap.size w)
 obtain ⟨many, hm⟩ : ∃ many, wrap64 (Int.tdiv (wrap64 (Sp.longW a0_1 a0_2 + 2)) 3) = many := ⟨_, rfl⟩
 have HM : Aside0 (many = (Sp.longW a0_1 a0_2 + 2) / 3) := ⟨by
  have b := Sp.longW_bd h1 h2
  rw [← hm, Sp.w64 (x := Sp.longW a0_1 a0_2 + 2) (by omega), Int.tdiv_eq_ediv_of_nonneg (by omega), Sp.w64 (by omega)]⟩
 clear h1 h2
 generalize Sp.longW a0_1 a0_2 = L at *
 go_enter Tryd.func60, Tryd.ntmps60
 go_wp2_with (first
  | ((with_reducible refine gate_dst (N := 1) rfl ?_); refine box_event ?hg (N := 1) ?hd (cs := #[.bool a0_0, .int .u64 a0_1, .int .u64 a0_2]) (t := 59) ?hr ?_; (case hd => rfl); (case hg => rfl); (case hr => first | (go_simp; done) | (go_simp; rfl)); intro gb hg w2 hbox hb; have BK1 := Aside0.mk hbox; obtain ⟨GW1, nHB⟩ := geA hg hb; have GE1 := GW1; replace HB := nHB; clear nHB; clear hb hbox hg; have z0 := czZ BK1 0 (.bool a0_0); have z1 := czZ BK1 1 (.int .u64 a0_1); have z2 := czZ BK1 2 (.int .u64 a0_2); have f0 := blk_frozen BK1.out 0; have f1 := blk_frozen BK1.out 1; have f2 := blk_frozen BK1.out 2)
  | (go_at_call 71; refine (root_longS.calls false a0_1 a0_2 L _ HL.out).mono ?_; rintro e1 w3 ⟨rfl, hb⟩; have BK2 := Aside0.mk (blk_below (blk_put (cs := #[.bool a0_0, .int .u64 a0_1, .int .u64 a0_2]) BK1.out 0 (.bool false) rfl) hb); replace HB := Aside0.mk (below_step (by repeat (first | (with_reducible first | apply below_alloc | exact HB.out | apply pw_below_drewN | apply below_drew1 | refine below_set ?_ GE1.out) | exact HB.out)) hb); clear hb)
  | (go_at_call 72; refine (root_Third.greatest (Sp.root3 (a0_1 * 18446744073709551616 + a0_2)) many gb _ ⟨by have a := HM.out; have b := HR.out; omega⟩ ⟨by have a := HM.out; have b := HR.out; have c := H0.out; rw [a]; exact ⟨c.1, b.2.2⟩⟩ _ BK2.out (fun n b w' hn hb => root_Third.right HU.out.1 HU.out.2 hn.out hb)).mono ?_; rintro e1 w4 ⟨rfl, hb⟩; replace HB := Aside0.mk (below_step HB.out hb); clear hb)
  | fail)
 go_ret
 exact ⟨by first | rfl | (simp; done) | (simp [*]; done), (by repeat (first | (with_reducible first | apply below_alloc | exact HB.out | apply pw_below_drewN | apply below_drew1 | refine below_set ?_ GE1.out) | exact HB.out))⟩

end Go.Proofs.YtbpcfamjidjhjaaDoor.Px
