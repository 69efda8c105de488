/- Printed by a program of this session (wip/tool/px.py), over the kit's print: for each Go function a Lean function, and the proof that the machine's call answers as that function says. Conditions: none beside what the theorems state. -/
import Derived.Test.YtepmnfjcmppghaaPx0
import Derived.Test.YtepmnfjcmppghaaPx22
import Derived.Test.YtepmnfjcmppghaaPx23
import Derived.Test.YtepmnfjcmppghaaPx24
import Derived.Test.YtepmnfjcmppghaaPx25
import Derived.Test.YtepmnfjcmppghaaPx26
import Derived.Test.YtepmnfjcmppghaaPx28
import Derived.Test.YtepmnfjcmppghaaPx30
import Derived.Test.YtepmnfjcmppghaaPx31
import Derived.Test.YtepmnfjcmppghaaPx32
import Derived.Test.YtepmnfjcmppghaaSpec
namespace Go.Proofs.Ytepmnfjcmppghaa.Px
open Go.RowKit Go.Proofs.YtepmnfjcmppghaaW.PrintWords Go.Proofs.YtepmnfjcmppghaaW.PrintLast Go.Proofs.YtepmnfjcmppghaaW.PrintMore
attribute [local go_sem] max2_int min2_int max_two min_two max_three min_three max_four min_four   -- for this text's walks alone
set_option linter.unusedVariables false
set_option linter.unusedSimpArgs false

/-! ### sawtoothref02_CmpS: which is greater: pure, behind function 51 -/
noncomputable def sawtoothref02_CmpS.f (n : Bool) (h l : Int) (m : Bool) (i k : Int) : Option Int := Go.Proofs.Ytepmnfjcmppghaa.Sp.cmpF n h l m i k
section Ref02Cmp
open Go.Proofs.Ytepmnfjcmppghaa.Sp
theorem sawtoothref02_Cmp.main {n m : Bool} {h l i k : Int} (h1 : U h) (h2 : U l) (h3 : U i) (h4 : U k) : sawtoothref02_Cmp.f 1 n h l m i k = some (cmpI (val n h l) (val m i k)) := by
 unfold sawtoothref02_Cmp.f
 rw [sawtoothref02_digits.eq h1 h2, sawtoothref02_digits.eq h3 h4]
 simp only [Option.bind_some, sawtoothref02_belowS.eq h1 h2, sawtoothref02_belowS.eq h3 h4, sawtoothref02_less.eq h1 h2 h3 h4, sawtoothref02_less.eq h3 h4 h1 h2, sawtoothref02_Cmp.j0]
 have v1 : val n h l = h * 18446744073709551616 + l ∨ val n h l = -(h * 18446744073709551616 + l) := by unfold val; cases n <;> simp
 have v2 : val m i k = i * 18446744073709551616 + k ∨ val m i k = -(i * 18446744073709551616 + k) := by unfold val; cases m <;> simp
 have p1 : 0 ≤ h * 18446744073709551616 + l := by omega
 have p2 : 0 ≤ i * 18446744073709551616 + k := by omega
 generalize val n h l = v at *
 generalize val m i k = w at *
 generalize h * 18446744073709551616 + l = M at *
 generalize i * 18446744073709551616 + k = N at *
 unfold cmpI
 by_cases a : v < 0 <;> by_cases b : w < 0 <;> by_cases c : M < N <;> by_cases d : N < M <;> simp [a, b, c, d] <;> omega
end Ref02Cmp
theorem sawtoothref02_CmpS.calls (a0_0 : Bool) (a0_1 a0_2 : Int) (a1_0 : Bool) (a1_1 a1_2 r : Int) (w : World) (h : sawtoothref02_CmpS.f a0_0 a0_1 a0_2 a1_0 a1_1 a1_2 = some r) :
  Calls Try.prog 51 #[.agg #[.bool a0_0, .int .u64 a0_1, .int .u64 a0_2], .agg #[.bool a1_0, .int .u64 a1_1, .int .u64 a1_2]] w fun e w' => e = .returned (.int .i64 r) ∧ Below w.heap.size w w' := by
 obtain ⟨hc, h⟩ := Go.Proofs.Ytepmnfjcmppghaa.Sp.need_some h; obtain ⟨h1, h2, h3, h4⟩ := hc; exact sawtoothref02_Cmp.calls 1 a0_0 a0_1 a0_2 a1_0 a1_1 a1_2 r w (by rw [sawtoothref02_Cmp.main h1 h2 h3 h4]; exact h)

/-! ### sawtoothref04_part: function 40 -/
noncomputable def sawtoothref04_part.f (a0 : Int) (a1 : Int) (a2 : Int) (a3 : Int) : Option (Int × Int) := if a2 < 1 then (some (0, 20)) else ((sawtoothref02_MulS.f a0 a1).bind fun bt374 => ((sawtoothref02_OfS.f a3).bind fun bt377 => ((sawtoothref02_AddS.f bt374.1 bt374.2.1 bt374.2.2 bt377.1 bt377.2.1 bt377.2.2).bind fun bt380 => ((sawtoothref02_DivS.f bt380.1 bt380.2.1 bt380.2.2.1 (IntKind.u64.wrap (a2))).bind fun bt385 => ((sawtoothref02_IntS.f bt385.1 bt385.2.1 bt385.2.2.1).bind fun t391 => ((sawtoothref02_OfS.f t391).bind fun bt392 => ((sawtoothref02_CmpS.f bt385.1 bt385.2.1 bt385.2.2.1 bt392.1 bt392.2.1 bt392.2.2).bind fun t395 => (if t395 = 0 then (some (t391, 0)) else (some (0, 10))))))))))
set_option maxHeartbeats 8000000 in
set_option maxRecDepth 100000 in
theorem sawtoothref04_part.calls (a0 : Int) (a1 : Int) (a2 : Int) (a3 : Int) (r1 : Int) (r2 : Int) (w : World) (h : sawtoothref04_part.f a0 a1 a2 a3 = some (r1, r2)) :
  Calls Try.prog 40 #[.int .i64 a0, .int .i64 a1, .int .i64 a2, .int .i64 a3] w fun e w' => e = .returned (.tuple #[.int .i64 r1, .int .i64 r2]) ∧ Below w.heap.size w w' := by
 have hu60 := Try.underlying60; have HB := Aside0.mk (Below.refl w.heap.size w); have H : (if a2 < 1 then (some (0, 20)) else ((sawtoothref02_MulS.f a0 a1).bind fun bt374 => ((sawtoothref02_OfS.f a3).bind fun bt377 => ((sawtoothref02_AddS.f bt374.1 bt374.2.1 bt374.2.2 bt377.1 bt377.2.1 bt377.2.2).bind fun bt380 => ((sawtoothref02_DivS.f bt380.1 bt380.2.1 bt380.2.2.1 (IntKind.u64.wrap (a2))).bind fun bt385 => ((sawtoothref02_IntS.f bt385.1 bt385.2.1 bt385.2.2.1).bind fun t391 => ((sawtoothref02_OfS.f t391).bind fun bt392 => ((sawtoothref02_CmpS.f bt385.1 bt385.2.1 bt385.2.2.1 bt392.1 bt392.2.1 bt392.2.2).bind fun t395 => (if t395 = 0 then (some (t391, 0)) else (some (0, 10))))))))))) = some (r1, r2) := h; clear h
 by_cases c5 : a2 < 1
 ·rw [if_pos c5] at H
  have c5b0 : decide (a2 < 1) = true := decide_eq_true c5; clear c5; simp only [Option.some.injEq, Prod.mk.injEq] at H; obtain ⟨rfl, rfl⟩ := H
  go_enter Try.func40, Try.ntmps40
  go_wp2
  go_ret2
  exact ⟨by first | rfl | (simp [errW_none, errW_some] <;> rfl) | (simp [*, errW_none, errW_some] <;> rfl), by repeat (first | (with_reducible first | exact HB.out | apply below_alloc | apply pw_below_drewN | apply below_drew1) | exact HB.out)⟩
 ·rw [if_neg c5] at H
  have c5b0 : decide (a2 < 1) = false := decide_eq_false c5; clear c5; replace H := Option.bind_eq_some_iff.mp H; obtain ⟨⟨t374, t375, t376⟩, A60, H⟩ := H; (try dsimp only at H); have A6 := Aside0.mk A60; clear A60; replace H := Option.bind_eq_some_iff.mp H; obtain ⟨⟨t377, t378, t379⟩, A70, H⟩ := H; (try dsimp only at H); have A7 := Aside0.mk A70; clear A70; replace H := Option.bind_eq_some_iff.mp H; obtain ⟨⟨t380, t381, t382, t383⟩, A80, H⟩ := H; (try dsimp only at H); have A8 := Aside0.mk A80; clear A80; replace H := Option.bind_eq_some_iff.mp H; obtain ⟨⟨t385, t386, t387, t388, t389⟩, A90, H⟩ := H; (try dsimp only at H); have A9 := Aside0.mk A90; clear A90; replace H := Option.bind_eq_some_iff.mp H; obtain ⟨t391, A100, H⟩ := H; (try dsimp only at H); have A10 := Aside0.mk A100; clear A100; replace H := Option.bind_eq_some_iff.mp H; obtain ⟨⟨t392, t393, t394⟩, A110, H⟩ := H; replace H : ((sawtoothref02_CmpS.f t385 t386 t387 t392 t393 t394).bind fun t395 => (if t395 = 0 then (some (t391, 0)) else (some (0, 10)))) = some (r1, r2) := H; have A11 := Aside0.mk A110; clear A110; replace H := Option.bind_eq_some_iff.mp H; obtain ⟨t395, A120, H⟩ := H; replace H : (if t395 = 0 then (some (t391, 0)) else (some (0, 10))) = some (r1, r2) := H; have A12 := Aside0.mk A120; clear A120
  by_cases c13 : t395 = 0
  ·rw [if_pos c13] at H
   have c13b0 : (t395 == 0) = true := beq_iff_eq.mpr c13; have c13b1 : (t395 != 0) = false := bne_eq_false_iff_eq.mpr c13; clear c13; simp only [Option.some.injEq, Prod.mk.injEq] at H; obtain ⟨rfl, rfl⟩ := H
   go_enter Try.func40, Try.ntmps40
   try go_wp2_with (first | ((with_reducible refine gate_callee (f := 47) rfl ?_); refine goesL_ (some 21) rfl rfl Try.func47 (by kernel_rfl) rfl #[.int .i64 a0, .int .i64 a1] rfl (by (try simp only [List.map_toArray, List.map_cons, List.map_nil]); first | done | rfl | (simp only [List.length_drop, List.length_take]; rfl)) ?_; (with_reducible refine (sawtoothref02_MulS.calls a0 a1 t374 t375 t376 _ A6.out).mono ?_); rintro e w14 ⟨rfl, hb⟩; refine ⟨_, rfl, ?_⟩; replace HB := Aside0.mk (below_step (by repeat (first | (with_reducible first | exact HB.out | apply below_alloc | apply pw_below_drewN | apply below_drew1) | exact HB.out)) hb); (try clear hb); (try clear hb2); (try clear hk); (try clear hi)) | ((with_reducible refine gate_callee (f := 48) rfl ?_); refine goesL_ (some 23) rfl rfl Try.func48 (by kernel_rfl) rfl #[.int .i64 a3] rfl (by (try simp only [List.map_toArray, List.map_cons, List.map_nil]); first | done | rfl | (simp only [List.length_drop, List.length_take]; rfl)) ?_; (with_reducible refine (sawtoothref02_OfS.calls a3 t377 t378 t379 _ A7.out).mono ?_); rintro e w15 ⟨rfl, hb⟩; refine ⟨_, rfl, ?_⟩; replace HB := Aside0.mk (below_step (by repeat (first | (with_reducible first | exact HB.out | apply below_alloc | apply pw_below_drewN | apply below_drew1) | exact HB.out)) hb); (try clear hb); (try clear hb2); (try clear hk); (try clear hi)) | ((with_reducible refine gate_callee (f := 46) rfl ?_); refine goesL_ (some 24) rfl rfl Try.func46 (by kernel_rfl) rfl #[.agg #[.bool t374, .int .u64 t375, .int .u64 t376], .agg #[.bool t377, .int .u64 t378, .int .u64 t379]] rfl (by (try simp only [List.map_toArray, List.map_cons, List.map_nil]); first | done | rfl | (simp only [List.length_drop, List.length_take]; rfl)) ?_; (with_reducible refine (sawtoothref02_AddS.calls t374 t375 t376 t377 t378 t379 t380 t381 t382 t383 _ A8.out).mono ?_); rintro e w16 ⟨rfl, hb⟩; refine ⟨_, rfl, ?_⟩; replace HB := Aside0.mk (below_step (by repeat (first | (with_reducible first | exact HB.out | apply below_alloc | apply pw_below_drewN | apply below_drew1) | exact HB.out)) hb); (try clear hb); (try clear hb2); (try clear hk); (try clear hi)) | ((with_reducible refine gate_dst (N := 10) rfl ?_); refine box_event ?hg (N := 10) ?hd (cs := #[.bool false, .int .u64 0, .int .u64 0]) (t := 60) ?hr ?_; (case hd => rfl); (case hg => rfl); (case hr => first | (go_simp; done) | (go_simp; rfl)); intro gb384 hg w17 hbox hb; have BK384 := Aside0.mk (hbox); obtain ⟨GW384, nHB⟩ := geZ (by repeat (first | (with_reducible first | exact HB.out | apply below_alloc | apply pw_below_drewN | apply below_drew1) | exact HB.out)) hg hb; have GE384 := GW384; replace HB := nHB; clear nHB; clear hb hbox hg; have hcz18_0 : w17.cell? ⟨gb384, 0, none⟩ = some (.bool false) := (blk_cell BK384.out 0).trans rfl; have hcz18_1 : w17.cell? ⟨gb384, 1, none⟩ = some (.int .u64 0) := (blk_cell BK384.out 1).trans rfl; have hcz18_2 : w17.cell? ⟨gb384, 2, none⟩ = some (.int .u64 0) := (blk_cell BK384.out 2).trans rfl; have hfz18_0 := blk_frozen BK384.out 0; have hfz18_1 := blk_frozen BK384.out 1; have hfz18_2 := blk_frozen BK384.out 2) | ((with_reducible refine gate_callee (f := 49) rfl ?_); refine goesL_ (some 31) rfl rfl Try.func49 (by kernel_rfl) rfl #[.agg #[.bool t380, .int .u64 t381, .int .u64 t382], .int .u64 (IntKind.u64.wrap (a2))] rfl (by (try simp only [List.map_toArray, List.map_cons, List.map_nil]); first | done | rfl | (simp only [List.length_drop, List.length_take]; rfl)) ?_; (with_reducible refine (sawtoothref02_DivS.calls t380 t381 t382 (IntKind.u64.wrap (a2)) t385 t386 t387 t388 t389 _ A9.out).mono ?_); rintro e w19 ⟨rfl, hb⟩; refine ⟨_, rfl, ?_⟩; replace BK384 := Aside0.mk (blk_below (g := gb384) (o := .cells #[.bool t380, .int .u64 t381, .int .u64 t382] 60 (0, 0)) (by (with_reducible repeat (first | refine blk_drewN ?_ _ | refine blk_drew ?_ | refine blk_alloc ?_ _)); refine blk_put (cs := #[.bool t380, .int .u64 t381, .int .u64 0]) ?_ 2 _ rfl; (with_reducible repeat (first | refine blk_drewN ?_ _ | refine blk_drew ?_ | refine blk_alloc ?_ _)); refine blk_put (cs := #[.bool t380, .int .u64 0, .int .u64 0]) ?_ 1 _ rfl; (with_reducible repeat (first | refine blk_drewN ?_ _ | refine blk_drew ?_ | refine blk_alloc ?_ _)); refine blk_put (cs := #[.bool false, .int .u64 0, .int .u64 0]) ?_ 0 _ rfl; (with_reducible repeat (first | refine blk_drewN ?_ _ | refine blk_drew ?_ | refine blk_alloc ?_ _)); exact BK384.out) hb); replace HB := Aside0.mk (below_step (by repeat (first | (with_reducible first | exact HB.out | apply below_alloc | apply pw_below_drewN | apply below_drew1 | refine below_set ?_ GE384.out) | exact HB.out)) hb); (try clear hb); (try clear hb2); (try clear hk); (try clear hi)) | ((with_reducible refine gate_dst (N := 12) rfl ?_); refine box_event ?hg (N := 12) ?hd (cs := #[.bool false, .int .u64 0, .int .u64 0]) (t := 60) ?hr ?_; (case hd => rfl); (case hg => rfl); (case hr => first | (go_simp; done) | (go_simp; rfl)); intro gb390 hg w20 hbox hb; have BK390 := Aside0.mk (hbox); obtain ⟨GW390, nHB⟩ := geZ (by repeat (first | (with_reducible first | exact HB.out | apply below_alloc | apply pw_below_drewN | apply below_drew1 | refine below_set ?_ GE384.out) | exact HB.out)) hg hb; have GE390 := GW390; obtain ⟨NB384_390, NB390_384, nBK⟩ := nbZ BK384 (fun h_ => by (with_reducible repeat first | apply blk_drewN | apply blk_drew | apply blk_alloc); exact h_) hg hb; replace BK384 := nBK; clear nBK; replace HB := nHB; clear nHB; clear hb hbox hg; have hnb21 := NB390_384.out; have hnc21 := NB384_390.out; have hcz22_0 : w20.cell? ⟨gb390, 0, none⟩ = some (.bool false) := (blk_cell BK390.out 0).trans rfl; have hcz22_1 : w20.cell? ⟨gb390, 1, none⟩ = some (.int .u64 0) := (blk_cell BK390.out 1).trans rfl; have hcz22_2 : w20.cell? ⟨gb390, 2, none⟩ = some (.int .u64 0) := (blk_cell BK390.out 2).trans rfl; have hfz22_0 := blk_frozen BK390.out 0; have hfz22_1 := blk_frozen BK390.out 1; have hfz22_2 := blk_frozen BK390.out 2) | ((with_reducible refine gate_callee (f := 50) rfl ?_); refine goesL_ (some 36) rfl rfl Try.func50 (by kernel_rfl) rfl #[.agg #[.bool t385, .int .u64 t386, .int .u64 t387]] rfl (by (try simp only [List.map_toArray, List.map_cons, List.map_nil]); first | done | rfl | (simp only [List.length_drop, List.length_take]; rfl)) ?_; (with_reducible refine (sawtoothref02_IntS.calls t385 t386 t387 t391 _ A10.out).mono ?_); rintro e w23 ⟨rfl, hb⟩; refine ⟨_, rfl, ?_⟩; replace BK384 := bfZ BK384 (fun h_ => by (with_reducible repeat first | apply blk_drewN | apply blk_drew | apply blk_alloc | refine farZ ?_ NB384_390 _); exact h_) hb; replace BK390 := Aside0.mk (blk_below (g := gb390) (o := .cells #[.bool t385, .int .u64 t386, .int .u64 t387] 60 (0, 0)) (by (with_reducible repeat (first | refine blk_drewN ?_ _ | refine blk_drew ?_ | refine blk_alloc ?_ _)); refine blk_put (cs := #[.bool t385, .int .u64 t386, .int .u64 0]) ?_ 2 _ rfl; (with_reducible repeat (first | refine blk_drewN ?_ _ | refine blk_drew ?_ | refine blk_alloc ?_ _)); refine blk_put (cs := #[.bool t385, .int .u64 0, .int .u64 0]) ?_ 1 _ rfl; (with_reducible repeat (first | refine blk_drewN ?_ _ | refine blk_drew ?_ | refine blk_alloc ?_ _)); refine blk_put (cs := #[.bool false, .int .u64 0, .int .u64 0]) ?_ 0 _ rfl; (with_reducible repeat (first | refine blk_drewN ?_ _ | refine blk_drew ?_ | refine blk_alloc ?_ _)); exact BK390.out) hb); replace HB := Aside0.mk (below_step (by repeat (first | (with_reducible first | exact HB.out | apply below_alloc | apply pw_below_drewN | apply below_drew1 | refine below_set ?_ (Aside0.out (by assumption))) | exact HB.out)) hb); (try clear hb); (try clear hb2); (try clear hk); (try clear hi)))
   replace BK384 := Aside0.mk (blk_drew BK384.out); replace BK390 := Aside0.mk (blk_drew BK390.out); replace HB := Aside0.mk (below_drew1 HB.out); refine start_ (n := 5) (S := fun w' => w'.cell? ⟨gb390, 0, none⟩ = some (.bool t385) ∧ w'.cell? ⟨gb390, 1, none⟩ = some (.int .u64 t386) ∧ w'.cell? ⟨gb390, 2, none⟩ = some (.int .u64 t387)) (ds := []) #[N,N,N,N,N] (by kernel_rfl) rfl rfl ⟨(blk_cell BK390.out 0).trans rfl, (blk_cell BK390.out 1).trans rfl, (blk_cell BK390.out 2).trans rfl⟩ (fun hHeld => ?_)
   generalize w23.drew = w24 at BK384 BK390 HB hHeld ⊢
   refine pure_ (i := 1) (N := some 38) (v := ?_) (a' := ?_) #[N,Y,N,N,N] rfl rfl (by kernel_rfl) (fun _ _ _ h => h) (Or.inl ⟨by rfl, ?_⟩) ?_ ?_; rotate_left
   ·intro w'; go_simp
    with_reducible rfl
   rotate_left
   ·simp only [Act.put, sA, sB, sC, i64_w, i32_w]
    rfl
   refine take_ (i := 0) (N := some 37) (v := ?_) (a' := ?_) #[Y,Y,N,N,N] rfl rfl (by kernel_rfl) (fun _ _ _ h => h) (Or.inl ⟨by rfl, ?_⟩) hHeld ?_ ?_; rotate_left
   ·rintro w' ⟨s0, s1, s2⟩; go_simp
    with_reducible rfl
   rotate_left
   ·simp only [Act.put, sA, sB, sC, i64_w, i32_w]
    rfl
   refine one_ (i := 2) (N := some 39) #[Y,Y,Y,N,N] rfl rfl (by kernel_rfl) (by decide) (fun K hK => ?_); refine goes_ Try.func48 (by kernel_rfl) rfl #[.int .i64 t391] (by rfl) rfl rfl (by (try simp only [List.map_toArray, List.map_cons, List.map_nil]); first | done | rfl | (simp only [List.length_drop, List.length_take]; rfl)) ?_
   with_reducible refine (sawtoothref02_OfS.calls t391 t392 t393 t394 _ A11.out).mono ?_
   rintro e w25 ⟨rfl, hb⟩; refine ⟨_, rfl, ?_⟩; replace BK384 := bbZ BK384 hb; replace BK390 := bbZ BK390 hb; replace HB := Aside0.mk (below_step HB.out hb); (try clear hb); (try clear hb2); (try clear hk); (try clear hi); refine hK.out _ _ ⟨(blk_cell BK390.out 0).trans rfl, (blk_cell BK390.out 1).trans rfl, (blk_cell BK390.out 2).trans rfl⟩ (fun hHeld => ?_); clear hK K; refine norm_ (a' := ?_) ?_ ?_; rotate_left
   ·show Act.put _ (some 39) _ = _
    simp only [Act.put, sA, sB, sC, i64_w, i32_w]
    rfl
   refine one_ (i := 3) (N := some 40) #[Y,Y,Y,Y,N] rfl rfl (by kernel_rfl) (by decide) (fun K hK => ?_); refine goes_ Try.func51 (by kernel_rfl) rfl #[.agg #[.bool t385, .int .u64 t386, .int .u64 t387], .agg #[.bool t392, .int .u64 t393, .int .u64 t394]] (by rfl) rfl rfl (by (try simp only [List.map_toArray, List.map_cons, List.map_nil]); first | done | rfl | (simp only [List.length_drop, List.length_take]; rfl)) ?_
   with_reducible refine (sawtoothref02_CmpS.calls t385 t386 t387 t392 t393 t394 t395 _ A12.out).mono ?_
   rintro e w26 ⟨rfl, hb⟩; refine ⟨_, rfl, ?_⟩; replace BK384 := bbZ BK384 hb; replace BK390 := bbZ BK390 hb; replace HB := Aside0.mk (below_step HB.out hb); (try clear hb); (try clear hb2); (try clear hk); (try clear hi); refine hK.out _ _ ⟨(blk_cell BK390.out 0).trans rfl, (blk_cell BK390.out 1).trans rfl, (blk_cell BK390.out 2).trans rfl⟩ (fun hHeld => ?_); clear hK K; refine norm_ (a' := ?_) ?_ ?_; rotate_left
   ·show Act.put _ (some 40) _ = _
    simp only [Act.put, sA, sB, sC, i64_w, i32_w]
    rfl
   refine pure_ (i := 4) (N := some 41) (v := ?_) (a' := ?_) #[Y,Y,Y,Y,Y] rfl rfl (by kernel_rfl) (fun _ _ _ h => h) (Or.inl ⟨by rfl, ?_⟩) ?_ ?_; rotate_left
   ·intro w'; go_simp
    with_reducible rfl
   rotate_left
   ·simp only [Act.put, sA, sB, sC, i64_w, i32_w]
    rfl
   refine done_ (by kernel_rfl) ?_
   try go_wp2
   go_ret2
   exact ⟨by first | rfl | (simp [errW_none, errW_some] <;> rfl) | (simp [*, errW_none, errW_some] <;> rfl), by repeat (first | (with_reducible first | exact HB.out | apply below_alloc | apply pw_below_drewN | apply below_drew1 | refine below_set ?_ (Aside0.out (by assumption))) | exact HB.out)⟩
  ·rw [if_neg c13] at H
   have c13b0 : (t395 == 0) = false := beq_eq_false_iff_ne.mpr c13; have c13b1 : (t395 != 0) = true := bne_iff_ne.mpr c13; simp only [Option.some.injEq, Prod.mk.injEq] at H; obtain ⟨rfl, rfl⟩ := H
   go_enter Try.func40, Try.ntmps40
   try go_wp2_with (first | ((with_reducible refine gate_callee (f := 47) rfl ?_); refine goesL_ (some 21) rfl rfl Try.func47 (by kernel_rfl) rfl #[.int .i64 a0, .int .i64 a1] rfl (by (try simp only [List.map_toArray, List.map_cons, List.map_nil]); first | done | rfl | (simp only [List.length_drop, List.length_take]; rfl)) ?_; (with_reducible refine (sawtoothref02_MulS.calls a0 a1 t374 t375 t376 _ A6.out).mono ?_); rintro e w27 ⟨rfl, hb⟩; refine ⟨_, rfl, ?_⟩; replace HB := Aside0.mk (below_step (by repeat (first | (with_reducible first | exact HB.out | apply below_alloc | apply pw_below_drewN | apply below_drew1) | exact HB.out)) hb); (try clear hb); (try clear hb2); (try clear hk); (try clear hi)) | ((with_reducible refine gate_callee (f := 48) rfl ?_); refine goesL_ (some 23) rfl rfl Try.func48 (by kernel_rfl) rfl #[.int .i64 a3] rfl (by (try simp only [List.map_toArray, List.map_cons, List.map_nil]); first | done | rfl | (simp only [List.length_drop, List.length_take]; rfl)) ?_; (with_reducible refine (sawtoothref02_OfS.calls a3 t377 t378 t379 _ A7.out).mono ?_); rintro e w28 ⟨rfl, hb⟩; refine ⟨_, rfl, ?_⟩; replace HB := Aside0.mk (below_step (by repeat (first | (with_reducible first | exact HB.out | apply below_alloc | apply pw_below_drewN | apply below_drew1) | exact HB.out)) hb); (try clear hb); (try clear hb2); (try clear hk); (try clear hi)) | ((with_reducible refine gate_callee (f := 46) rfl ?_); refine goesL_ (some 24) rfl rfl Try.func46 (by kernel_rfl) rfl #[.agg #[.bool t374, .int .u64 t375, .int .u64 t376], .agg #[.bool t377, .int .u64 t378, .int .u64 t379]] rfl (by (try simp only [List.map_toArray, List.map_cons, List.map_nil]); first | done | rfl | (simp only [List.length_drop, List.length_take]; rfl)) ?_; (with_reducible refine (sawtoothref02_AddS.calls t374 t375 t376 t377 t378 t379 t380 t381 t382 t383 _ A8.out).mono ?_); rintro e w29 ⟨rfl, hb⟩; refine ⟨_, rfl, ?_⟩; replace HB := Aside0.mk (below_step (by repeat (first | (with_reducible first | exact HB.out | apply below_alloc | apply pw_below_drewN | apply below_drew1) | exact HB.out)) hb); (try clear hb); (try clear hb2); (try clear hk); (try clear hi)) | ((with_reducible refine gate_dst (N := 10) rfl ?_); refine box_event ?hg (N := 10) ?hd (cs := #[.bool false, .int .u64 0, .int .u64 0]) (t := 60) ?hr ?_; (case hd => rfl); (case hg => rfl); (case hr => first | (go_simp; done) | (go_simp; rfl)); intro gb384 hg w30 hbox hb; have BK384 := Aside0.mk (hbox); obtain ⟨GW384, nHB⟩ := geZ (by repeat (first | (with_reducible first | exact HB.out | apply below_alloc | apply pw_below_drewN | apply below_drew1) | exact HB.out)) hg hb; have GE384 := GW384; replace HB := nHB; clear nHB; clear hb hbox hg; have hcz31_0 : w30.cell? ⟨gb384, 0, none⟩ = some (.bool false) := (blk_cell BK384.out 0).trans rfl; have hcz31_1 : w30.cell? ⟨gb384, 1, none⟩ = some (.int .u64 0) := (blk_cell BK384.out 1).trans rfl; have hcz31_2 : w30.cell? ⟨gb384, 2, none⟩ = some (.int .u64 0) := (blk_cell BK384.out 2).trans rfl; have hfz31_0 := blk_frozen BK384.out 0; have hfz31_1 := blk_frozen BK384.out 1; have hfz31_2 := blk_frozen BK384.out 2) | ((with_reducible refine gate_callee (f := 49) rfl ?_); refine goesL_ (some 31) rfl rfl Try.func49 (by kernel_rfl) rfl #[.agg #[.bool t380, .int .u64 t381, .int .u64 t382], .int .u64 (IntKind.u64.wrap (a2))] rfl (by (try simp only [List.map_toArray, List.map_cons, List.map_nil]); first | done | rfl | (simp only [List.length_drop, List.length_take]; rfl)) ?_; (with_reducible refine (sawtoothref02_DivS.calls t380 t381 t382 (IntKind.u64.wrap (a2)) t385 t386 t387 t388 t389 _ A9.out).mono ?_); rintro e w32 ⟨rfl, hb⟩; refine ⟨_, rfl, ?_⟩; replace BK384 := Aside0.mk (blk_below (g := gb384) (o := .cells #[.bool t380, .int .u64 t381, .int .u64 t382] 60 (0, 0)) (by (with_reducible repeat (first | refine blk_drewN ?_ _ | refine blk_drew ?_ | refine blk_alloc ?_ _)); refine blk_put (cs := #[.bool t380, .int .u64 t381, .int .u64 0]) ?_ 2 _ rfl; (with_reducible repeat (first | refine blk_drewN ?_ _ | refine blk_drew ?_ | refine blk_alloc ?_ _)); refine blk_put (cs := #[.bool t380, .int .u64 0, .int .u64 0]) ?_ 1 _ rfl; (with_reducible repeat (first | refine blk_drewN ?_ _ | refine blk_drew ?_ | refine blk_alloc ?_ _)); refine blk_put (cs := #[.bool false, .int .u64 0, .int .u64 0]) ?_ 0 _ rfl; (with_reducible repeat (first | refine blk_drewN ?_ _ | refine blk_drew ?_ | refine blk_alloc ?_ _)); exact BK384.out) hb); replace HB := Aside0.mk (below_step (by repeat (first | (with_reducible first | exact HB.out | apply below_alloc | apply pw_below_drewN | apply below_drew1 | refine below_set ?_ GE384.out) | exact HB.out)) hb); (try clear hb); (try clear hb2); (try clear hk); (try clear hi)) | ((with_reducible refine gate_dst (N := 12) rfl ?_); refine box_event ?hg (N := 12) ?hd (cs := #[.bool false, .int .u64 0, .int .u64 0]) (t := 60) ?hr ?_; (case hd => rfl); (case hg => rfl); (case hr => first | (go_simp; done) | (go_simp; rfl)); intro gb390 hg w33 hbox hb; have BK390 := Aside0.mk (hbox); obtain ⟨GW390, nHB⟩ := geZ (by repeat (first | (with_reducible first | exact HB.out | apply below_alloc | apply pw_below_drewN | apply below_drew1 | refine below_set ?_ GE384.out) | exact HB.out)) hg hb; have GE390 := GW390; obtain ⟨NB384_390, NB390_384, nBK⟩ := nbZ BK384 (fun h_ => by (with_reducible repeat first | apply blk_drewN | apply blk_drew | apply blk_alloc); exact h_) hg hb; replace BK384 := nBK; clear nBK; replace HB := nHB; clear nHB; clear hb hbox hg; have hnb34 := NB390_384.out; have hnc34 := NB384_390.out; have hcz35_0 : w33.cell? ⟨gb390, 0, none⟩ = some (.bool false) := (blk_cell BK390.out 0).trans rfl; have hcz35_1 : w33.cell? ⟨gb390, 1, none⟩ = some (.int .u64 0) := (blk_cell BK390.out 1).trans rfl; have hcz35_2 : w33.cell? ⟨gb390, 2, none⟩ = some (.int .u64 0) := (blk_cell BK390.out 2).trans rfl; have hfz35_0 := blk_frozen BK390.out 0; have hfz35_1 := blk_frozen BK390.out 1; have hfz35_2 := blk_frozen BK390.out 2) | ((with_reducible refine gate_callee (f := 50) rfl ?_); refine goesL_ (some 36) rfl rfl Try.func50 (by kernel_rfl) rfl #[.agg #[.bool t385, .int .u64 t386, .int .u64 t387]] rfl (by (try simp only [List.map_toArray, List.map_cons, List.map_nil]); first | done | rfl | (simp only [List.length_drop, List.length_take]; rfl)) ?_; (with_reducible refine (sawtoothref02_IntS.calls t385 t386 t387 t391 _ A10.out).mono ?_); rintro e w36 ⟨rfl, hb⟩; refine ⟨_, rfl, ?_⟩; replace BK384 := bfZ BK384 (fun h_ => by (with_reducible repeat first | apply blk_drewN | apply blk_drew | apply blk_alloc | refine farZ ?_ NB384_390 _); exact h_) hb; replace BK390 := Aside0.mk (blk_below (g := gb390) (o := .cells #[.bool t385, .int .u64 t386, .int .u64 t387] 60 (0, 0)) (by (with_reducible repeat (first | refine blk_drewN ?_ _ | refine blk_drew ?_ | refine blk_alloc ?_ _)); refine blk_put (cs := #[.bool t385, .int .u64 t386, .int .u64 0]) ?_ 2 _ rfl; (with_reducible repeat (first | refine blk_drewN ?_ _ | refine blk_drew ?_ | refine blk_alloc ?_ _)); refine blk_put (cs := #[.bool t385, .int .u64 0, .int .u64 0]) ?_ 1 _ rfl; (with_reducible repeat (first | refine blk_drewN ?_ _ | refine blk_drew ?_ | refine blk_alloc ?_ _)); refine blk_put (cs := #[.bool false, .int .u64 0, .int .u64 0]) ?_ 0 _ rfl; (with_reducible repeat (first | refine blk_drewN ?_ _ | refine blk_drew ?_ | refine blk_alloc ?_ _)); exact BK390.out) hb); replace HB := Aside0.mk (below_step (by repeat (first | (with_reducible first | exact HB.out | apply below_alloc | apply pw_below_drewN | apply below_drew1 | refine below_set ?_ (Aside0.out (by assumption))) | exact HB.out)) hb); (try clear hb); (try clear hb2); (try clear hk); (try clear hi)))
   replace BK384 := Aside0.mk (blk_drew BK384.out); replace BK390 := Aside0.mk (blk_drew BK390.out); replace HB := Aside0.mk (below_drew1 HB.out); refine start_ (n := 5) (S := fun w' => w'.cell? ⟨gb390, 0, none⟩ = some (.bool t385) ∧ w'.cell? ⟨gb390, 1, none⟩ = some (.int .u64 t386) ∧ w'.cell? ⟨gb390, 2, none⟩ = some (.int .u64 t387)) (ds := []) #[N,N,N,N,N] (by kernel_rfl) rfl rfl ⟨(blk_cell BK390.out 0).trans rfl, (blk_cell BK390.out 1).trans rfl, (blk_cell BK390.out 2).trans rfl⟩ (fun hHeld => ?_)
   generalize w36.drew = w37 at BK384 BK390 HB hHeld ⊢
   refine pure_ (i := 1) (N := some 38) (v := ?_) (a' := ?_) #[N,Y,N,N,N] rfl rfl (by kernel_rfl) (fun _ _ _ h => h) (Or.inl ⟨by rfl, ?_⟩) ?_ ?_; rotate_left
   ·intro w'; go_simp
    with_reducible rfl
   rotate_left
   ·simp only [Act.put, sA, sB, sC, i64_w, i32_w]
    rfl
   refine take_ (i := 0) (N := some 37) (v := ?_) (a' := ?_) #[Y,Y,N,N,N] rfl rfl (by kernel_rfl) (fun _ _ _ h => h) (Or.inl ⟨by rfl, ?_⟩) hHeld ?_ ?_; rotate_left
   ·rintro w' ⟨s0, s1, s2⟩; go_simp
    with_reducible rfl
   rotate_left
   ·simp only [Act.put, sA, sB, sC, i64_w, i32_w]
    rfl
   refine one_ (i := 2) (N := some 39) #[Y,Y,Y,N,N] rfl rfl (by kernel_rfl) (by decide) (fun K hK => ?_); refine goes_ Try.func48 (by kernel_rfl) rfl #[.int .i64 t391] (by rfl) rfl rfl (by (try simp only [List.map_toArray, List.map_cons, List.map_nil]); first | done | rfl | (simp only [List.length_drop, List.length_take]; rfl)) ?_
   with_reducible refine (sawtoothref02_OfS.calls t391 t392 t393 t394 _ A11.out).mono ?_
   rintro e w38 ⟨rfl, hb⟩; refine ⟨_, rfl, ?_⟩; replace BK384 := bbZ BK384 hb; replace BK390 := bbZ BK390 hb; replace HB := Aside0.mk (below_step HB.out hb); (try clear hb); (try clear hb2); (try clear hk); (try clear hi); refine hK.out _ _ ⟨(blk_cell BK390.out 0).trans rfl, (blk_cell BK390.out 1).trans rfl, (blk_cell BK390.out 2).trans rfl⟩ (fun hHeld => ?_); clear hK K; refine norm_ (a' := ?_) ?_ ?_; rotate_left
   ·show Act.put _ (some 39) _ = _
    simp only [Act.put, sA, sB, sC, i64_w, i32_w]
    rfl
   refine one_ (i := 3) (N := some 40) #[Y,Y,Y,Y,N] rfl rfl (by kernel_rfl) (by decide) (fun K hK => ?_); refine goes_ Try.func51 (by kernel_rfl) rfl #[.agg #[.bool t385, .int .u64 t386, .int .u64 t387], .agg #[.bool t392, .int .u64 t393, .int .u64 t394]] (by rfl) rfl rfl (by (try simp only [List.map_toArray, List.map_cons, List.map_nil]); first | done | rfl | (simp only [List.length_drop, List.length_take]; rfl)) ?_
   with_reducible refine (sawtoothref02_CmpS.calls t385 t386 t387 t392 t393 t394 t395 _ A12.out).mono ?_
   rintro e w39 ⟨rfl, hb⟩; refine ⟨_, rfl, ?_⟩; replace BK384 := bbZ BK384 hb; replace BK390 := bbZ BK390 hb; replace HB := Aside0.mk (below_step HB.out hb); (try clear hb); (try clear hb2); (try clear hk); (try clear hi); refine hK.out _ _ ⟨(blk_cell BK390.out 0).trans rfl, (blk_cell BK390.out 1).trans rfl, (blk_cell BK390.out 2).trans rfl⟩ (fun hHeld => ?_); clear hK K; refine norm_ (a' := ?_) ?_ ?_; rotate_left
   ·show Act.put _ (some 40) _ = _
    simp only [Act.put, sA, sB, sC, i64_w, i32_w]
    rfl
   refine pure_ (i := 4) (N := some 41) (v := ?_) (a' := ?_) #[Y,Y,Y,Y,Y] rfl rfl (by kernel_rfl) (fun _ _ _ h => h) (Or.inl ⟨by rfl, ?_⟩) ?_ ?_; rotate_left
   ·intro w'; go_simp
    with_reducible rfl
   rotate_left
   ·simp only [Act.put, sA, sB, sC, i64_w, i32_w]
    rfl
   refine done_ (by kernel_rfl) ?_
   try go_wp2
   go_ret2
   exact ⟨by first | rfl | (simp [errW_none, errW_some] <;> rfl) | (simp [*, errW_none, errW_some] <;> rfl), by repeat (first | (with_reducible first | exact HB.out | apply below_alloc | apply pw_below_drewN | apply below_drew1 | refine below_set ?_ (Aside0.out (by assumption))) | exact HB.out)⟩

/-! ### sawtoothref04_partS: a part of a product, and some more: pure, behind function 40 -/
noncomputable def sawtoothref04_partS.f (a b c d : Int) : Option (Int × Int) := Go.Proofs.Ytepmnfjcmppghaa.Sp.need (Go.Proofs.Ytepmnfjcmppghaa.Sp.I a ∧ Go.Proofs.Ytepmnfjcmppghaa.Sp.I b ∧ Go.Proofs.Ytepmnfjcmppghaa.Sp.I c ∧ Go.Proofs.Ytepmnfjcmppghaa.Sp.I d) (if c < 1 then some (0, 20) else Go.Proofs.Ytepmnfjcmppghaa.Sp.fit ((a * b + d) / c))
section Ref04Part
open Go.Proofs.Ytepmnfjcmppghaa.Sp
theorem sawtoothref04_partS.eq {a b c d : Int} (h1 : I a) (h2 : I b) (h3 : I c) (h4 : I d) : sawtoothref04_partS.f a b c d = if c < 1 then some (0, 20) else fit ((a * b + d) / c) := need_pos ⟨h1, h2, h3, h4⟩
theorem sawtoothref04_part.main {a b c d : Int} (h1 : I a) (h2 : I b) (h3 : I c) (h4 : I d) : sawtoothref04_part.f a b c d = if c < 1 then some (0, 20) else fit ((a * b + d) / c) := by
 unfold sawtoothref04_part.f sawtoothref02_MulS.f sawtoothref02_OfS.f sawtoothref02_AddS.f sawtoothref02_DivS.f sawtoothref02_IntS.f sawtoothref02_CmpS.f
 by_cases hc : c < 1
 ·rw [if_pos hc, if_pos hc]
 have m := mulI h1 h2
 rw [if_neg hc, if_neg hc, mulF_eq h1 h2, ofF_eq h4]
 simp only [Option.bind_some]
 rw [addF_enc (by omega) (by omega), held_in (by omega), u64w_in (x := c) (by omega)]
 simp only [Option.bind_some]
 have hB : B (a * b + d) := by omega
 rw [divF_enc hB (by omega), quo_pos (by omega)]
 simp only [Option.bind_some]; have hq := div_B hB (show 0 < c by omega)
 generalize (a * b + d) / c = q at *
 rw [intF_enc hq]
 simp only [Option.bind_some]
 rw [ofF_eq (near_I _)]
 simp only [Option.bind_some]
 rw [cmpF_enc hq (I_B (near_I _))]
 simp only [Option.bind_some]
 unfold fit
 by_cases hi : I q
 ·rw [near_in hi, cmpI_eq rfl, if_pos rfl, if_pos hi]
 ·rw [if_neg hi, if_neg]
  unfold cmpI near
  split
  ·omega
  ·split
   ·have := near_I q; unfold near at this; split at * <;> (try split at *) <;> omega
   ·omega
end Ref04Part
theorem sawtoothref04_partS.calls (a b c d r1 r2 : Int) (w : World) (h : sawtoothref04_partS.f a b c d = some (r1, r2)) :
  Calls Try.prog 40 #[.int .i64 a, .int .i64 b, .int .i64 c, .int .i64 d] w fun e w' => e = .returned (.tuple #[.int .i64 r1, .int .i64 r2]) ∧ Below w.heap.size w w' := by
 obtain ⟨⟨h1, h2, h3, h4⟩, h⟩ := Go.Proofs.Ytepmnfjcmppghaa.Sp.need_some h; exact sawtoothref04_part.calls a b c d r1 r2 w (by rw [sawtoothref04_part.main h1 h2 h3 h4]; exact h)

/-! ### sawtoothref04_Floor: function 32 -/
noncomputable def sawtoothref04_Floor.f (a0 : Int) (a1 : Int) (a2 : Int) : Option (Int × Int) := (sawtoothref04_partS.f a0 a1 a2 0).bind fun bt396 => (some (bt396.1, bt396.2))
set_option maxHeartbeats 8000000 in
set_option maxRecDepth 100000 in
theorem sawtoothref04_Floor.calls (a0 : Int) (a1 : Int) (a2 : Int) (r1 : Int) (r2 : Int) (w : World) (h : sawtoothref04_Floor.f a0 a1 a2 = some (r1, r2)) :
  Calls Try.prog 32 #[.int .i64 a0, .int .i64 a1, .int .i64 a2] w fun e w' => e = .returned (.tuple #[.int .i64 r1, .int .i64 r2]) ∧ Below w.heap.size w w' := by
 have HB := Aside0.mk (Below.refl w.heap.size w); have H : ((sawtoothref04_partS.f a0 a1 a2 0).bind fun bt396 => (some (bt396.1, bt396.2))) = some (r1, r2) := h; clear h; replace H := Option.bind_eq_some_iff.mp H; obtain ⟨⟨t396, t397⟩, A40, H⟩ := H; replace H : (some (t396, t397)) = some (r1, r2) := H; have A4 := Aside0.mk A40; clear A40; simp only [Option.some.injEq, Prod.mk.injEq] at H; obtain ⟨rfl, rfl⟩ := H
 go_enter Try.func32, Try.ntmps32
 go_wp2_with (first | ((with_reducible refine gate_callee (f := 40) rfl ?_); refine goesL_ (some 11) rfl rfl Try.func40 (by kernel_rfl) rfl #[.int .i64 a0, .int .i64 a1, .int .i64 a2, .int .i64 0] rfl (by (try simp only [List.map_toArray, List.map_cons, List.map_nil]); first | done | rfl | (simp only [List.length_drop, List.length_take]; rfl)) ?_; (with_reducible refine (sawtoothref04_partS.calls a0 a1 a2 0 t396 t397 _ A4.out).mono ?_); rintro e w5 ⟨rfl, hb⟩; refine ⟨_, rfl, ?_⟩; replace HB := Aside0.mk (below_step (by repeat (first | (with_reducible first | exact HB.out | apply below_alloc | apply pw_below_drewN | apply below_drew1) | exact HB.out)) hb); (try clear hb); (try clear hb2); (try clear hk); (try clear hi)))
 go_ret2
 exact ⟨by first | rfl | (simp [errW_none, errW_some] <;> rfl) | (simp [*, errW_none, errW_some] <;> rfl), by repeat (first | (with_reducible first | exact HB.out | apply below_alloc | apply pw_below_drewN | apply below_drew1) | exact HB.out)⟩

/-! ### sawtoothref04_FloorS: a part of a product, from below: pure, behind function 32 -/
noncomputable def sawtoothref04_FloorS.f (a b c : Int) : Option (Int × Int) := Go.Proofs.Ytepmnfjcmppghaa.Sp.need (Go.Proofs.Ytepmnfjcmppghaa.Sp.I a ∧ Go.Proofs.Ytepmnfjcmppghaa.Sp.I b ∧ Go.Proofs.Ytepmnfjcmppghaa.Sp.I c) (Go.Proofs.Ytepmnfjcmppghaa.Sp.floorQ a b c)
section
open Go.Proofs.Ytepmnfjcmppghaa.Sp
theorem sawtoothref04_FloorS.eq {a b c : Int} (h1 : I a) (h2 : I b) (h3 : I c) : sawtoothref04_FloorS.f a b c = floorQ a b c := need_pos ⟨h1, h2, h3⟩
theorem sawtoothref04_Floor.main {a b c : Int} (h1 : I a) (h2 : I b) (h3 : I c) : sawtoothref04_Floor.f a b c = floorQ a b c := by
 unfold sawtoothref04_Floor.f
 rw [sawtoothref04_partS.eq h1 h2 h3 (by omega)]
 rw [show ∀ x : Option (Int × Int), (x.bind fun bt => some (bt.1, bt.2)) = x from fun x => by cases x <;> rfl]
 unfold floorQ; rw [Int.add_zero]
end
theorem sawtoothref04_FloorS.calls (a b c r1 r2 : Int) (w : World) (h : sawtoothref04_FloorS.f a b c = some (r1, r2)) :
  Calls Try.prog 32 #[.int .i64 a, .int .i64 b, .int .i64 c] w fun e w' => e = .returned (.tuple #[.int .i64 r1, .int .i64 r2]) ∧ Below w.heap.size w w' := by
 obtain ⟨⟨h1, h2, h3⟩, h⟩ := Go.Proofs.Ytepmnfjcmppghaa.Sp.need_some h; exact sawtoothref04_Floor.calls a b c r1 r2 w (by rw [sawtoothref04_Floor.main h1 h2 h3]; exact h)

/-! ### sawtoothref15_Least: function 18 -/
noncomputable def sawtoothref15_Least.f (a0 : Int) : Option (Int) := (sawtoothref15_GivenS.f a0).bind fun t398 => ((sawtoothref04_FloorS.f t398 7 10).bind fun bt399 => (some (mx bt399.1 131072)))
set_option maxHeartbeats 8000000 in
set_option maxRecDepth 100000 in
theorem sawtoothref15_Least.calls (a0 : Int) (r : Int) (w : World) (h : sawtoothref15_Least.f a0 = some r) :
  Calls Try.prog 18 #[.int .i64 a0] w fun e w' => e = .returned (.int .i64 r) ∧ Below w.heap.size w w' := by
 have HB := Aside0.mk (Below.refl w.heap.size w); have H : ((sawtoothref15_GivenS.f a0).bind fun t398 => ((sawtoothref04_FloorS.f t398 7 10).bind fun bt399 => (some (mx bt399.1 131072)))) = some r := h; clear h; replace H := Option.bind_eq_some_iff.mp H; obtain ⟨t398, A20, H⟩ := H; replace H : ((sawtoothref04_FloorS.f t398 7 10).bind fun bt399 => (some (mx bt399.1 131072))) = some r := H; have A2 := Aside0.mk A20; clear A20; replace H := Option.bind_eq_some_iff.mp H; obtain ⟨⟨t399, t400⟩, A30, H⟩ := H; replace H : (some (mx t399 131072)) = some r := H; have A3 := Aside0.mk A30; clear A30
 obtain ⟨ji4, hji4⟩ : ∃ j_ : Int, (mx t399 131072) = j_ := ⟨_, rfl⟩
 replace H : (some ji4) = some r := by first | (rw [hji4] at H; exact H) | (simp only [hji4] at H ⊢; exact H)
 (try rw [hji4] at A2)
 (try rw [hji4] at A3)
 (try (have hji4l : 131072 ≤ ji4 := by (rw [← hji4]; unfold mx; (repeat' split) <;> omega)))
 (try (have hji4m : 0 ≤ ji4 := by omega))
 have hji4_ : (if t399 < 131072 then 131072 else t399) = ji4 := hji4; obtain rfl := Option.some.inj H
 go_enter Try.func18, Try.ntmps18
 go_wp2_with (first | ((with_reducible refine gate_callee (f := 30) rfl ?_); refine goesL_ (some 7) rfl rfl Try.func30 (by kernel_rfl) rfl #[.int .i64 a0] rfl (by (try simp only [List.map_toArray, List.map_cons, List.map_nil]); first | done | rfl | (simp only [List.length_drop, List.length_take]; rfl)) ?_; (with_reducible refine (sawtoothref15_GivenS.calls a0 t398 _ A2.out).mono ?_); rintro e w' ⟨rfl, ⟨nd, rfl⟩⟩; refine ⟨_, rfl, ?_⟩) | ((with_reducible refine gate_callee (f := 32) rfl ?_); refine goesL_ (some 8) rfl rfl Try.func32 (by kernel_rfl) rfl #[.int .i64 t398, .int .i64 7, .int .i64 10] rfl (by (try simp only [List.map_toArray, List.map_cons, List.map_nil]); first | done | rfl | (simp only [List.length_drop, List.length_take]; rfl)) ?_; (with_reducible refine (sawtoothref04_FloorS.calls t398 7 10 t399 t400 _ A3.out).mono ?_); rintro e w5 ⟨rfl, hb⟩; refine ⟨_, rfl, ?_⟩; replace HB := Aside0.mk (below_step (by repeat (first | (with_reducible first | exact HB.out | apply below_alloc | apply pw_below_drewN | apply below_drew1) | exact HB.out)) hb); (try clear hb); (try clear hb2); (try clear hk); (try clear hi)))
 go_ret
 exact ⟨by first | rfl | (simp [errW_none, errW_some] <;> rfl) | (simp only [← hji4]; first | rfl | (simp [errW_none, errW_some] <;> rfl)) | (simp [*, errW_none, errW_some] <;> rfl), by repeat (first | (with_reducible first | exact HB.out | apply below_alloc | apply pw_below_drewN | apply below_drew1) | exact HB.out)⟩

/-! ### sawtoothref15_LeastS: what is left of a window: pure, behind function 18 -/
noncomputable def sawtoothref15_LeastS.f (a : Int) : Option Int := Go.Proofs.Ytepmnfjcmppghaa.Sp.need (Go.Proofs.Ytepmnfjcmppghaa.Sp.I a) (some (Go.Proofs.Ytepmnfjcmppghaa.Sp.leastW (Go.Proofs.Ytepmnfjcmppghaa.Sp.win a)))
section
open Go.Proofs.Ytepmnfjcmppghaa.Sp
theorem sawtoothref15_LeastS.eq {a : Int} (h1 : I a) : sawtoothref15_LeastS.f a = some (leastW (win a)) := need_pos h1
theorem sawtoothref15_Least.main {a : Int} (h1 : I a) : sawtoothref15_Least.f a = some (leastW (win a)) := by
 unfold sawtoothref15_Least.f
 have b := win_bd a
 rw [sawtoothref15_GivenS.eq h1]
 simp only [Option.bind_some]
 rw [sawtoothref04_FloorS.eq (by omega) (by omega) (by omega), floorQ_in (by omega) (by omega)]
 simp only [Option.bind_some]
 congr 1
 unfold leastW clamp mx
 (repeat' split) <;> omega
end
theorem sawtoothref15_LeastS.calls (a r1 : Int) (w : World) (h : sawtoothref15_LeastS.f a = some r1) :
  Calls Try.prog 18 #[.int .i64 a] w fun e w' => e = .returned (.int .i64 r1) ∧ Below w.heap.size w w' := by
 obtain ⟨h1, h⟩ := Go.Proofs.Ytepmnfjcmppghaa.Sp.need_some h; exact sawtoothref15_Least.calls a r1 w (by rw [sawtoothref15_Least.main h1]; exact h)

/-! ### sawtoothref11_Fast: function 29 -/
noncomputable def sawtoothref11_Fast.f (a0 : Int) (a1 : Int) : Option (Int) := if a1 ≥ a0 then (some a1) else (if a1 < 0 then (some 0) else ((sawtoothref04_FloorS.f a1 17 20).bind fun bt401 => (some bt401.1)))
set_option maxHeartbeats 8000000 in
set_option maxRecDepth 100000 in
theorem sawtoothref11_Fast.calls (a0 : Int) (a1 : Int) (r : Int) (w : World) (h : sawtoothref11_Fast.f a0 a1 = some r) :
  Calls Try.prog 29 #[.int .i64 a0, .int .i64 a1] w fun e w' => e = .returned (.int .i64 r) ∧ Below w.heap.size w w' := by
 have HB := Aside0.mk (Below.refl w.heap.size w); have H : (if a1 ≥ a0 then (some a1) else (if a1 < 0 then (some 0) else ((sawtoothref04_FloorS.f a1 17 20).bind fun bt401 => (some bt401.1)))) = some r := h; clear h
 by_cases c3 : a1 ≥ a0
 ·rw [if_pos c3] at H
  have c3b0 : decide (a0 ≤ a1) = true := decide_eq_true c3; clear c3; obtain rfl := Option.some.inj H
  go_enter Try.func29, Try.ntmps29
  go_wp2
  go_ret
  exact ⟨by first | rfl | (simp [errW_none, errW_some] <;> rfl) | (simp [*, errW_none, errW_some] <;> rfl), by repeat (first | (with_reducible first | exact HB.out | apply below_alloc | apply pw_below_drewN | apply below_drew1) | exact HB.out)⟩
 ·rw [if_neg c3] at H
  have c3b0 : decide (a0 ≤ a1) = false := decide_eq_false c3; clear c3
  by_cases c4 : a1 < 0
  ·rw [if_pos c4] at H
   have c4b0 : decide (a1 < 0) = true := decide_eq_true c4; clear c4; obtain rfl := Option.some.inj H
   go_enter Try.func29, Try.ntmps29
   go_wp2
   go_ret
   exact ⟨by first | rfl | (simp [errW_none, errW_some] <;> rfl) | (simp [*, errW_none, errW_some] <;> rfl), by repeat (first | (with_reducible first | exact HB.out | apply below_alloc | apply pw_below_drewN | apply below_drew1) | exact HB.out)⟩
  ·rw [if_neg c4] at H
   have c4b0 : decide (a1 < 0) = false := decide_eq_false c4; clear c4; replace H := Option.bind_eq_some_iff.mp H; obtain ⟨⟨t401, t402⟩, A50, H⟩ := H; replace H : (some t401) = some r := H; have A5 := Aside0.mk A50; clear A50; obtain rfl := Option.some.inj H
   go_enter Try.func29, Try.ntmps29
   go_wp2_with (first | ((with_reducible refine gate_callee (f := 32) rfl ?_); refine goesL_ (some 15) rfl rfl Try.func32 (by kernel_rfl) rfl #[.int .i64 a1, .int .i64 17, .int .i64 20] rfl (by (try simp only [List.map_toArray, List.map_cons, List.map_nil]); first | done | rfl | (simp only [List.length_drop, List.length_take]; rfl)) ?_; (with_reducible refine (sawtoothref04_FloorS.calls a1 17 20 t401 t402 _ A5.out).mono ?_); rintro e w6 ⟨rfl, hb⟩; refine ⟨_, rfl, ?_⟩; replace HB := Aside0.mk (below_step (by repeat (first | (with_reducible first | exact HB.out | apply below_alloc | apply pw_below_drewN | apply below_drew1) | exact HB.out)) hb); (try clear hb); (try clear hb2); (try clear hk); (try clear hi)))
   go_ret
   exact ⟨by first | rfl | (simp [errW_none, errW_some] <;> rfl) | (simp [*, errW_none, errW_some] <;> rfl), by repeat (first | (with_reducible first | exact HB.out | apply below_alloc | apply pw_below_drewN | apply below_drew1) | exact HB.out)⟩

/-! ### sawtoothref11_FastS: up to where a window grows next: pure, behind function 29 -/
noncomputable def sawtoothref11_FastS.f (a b : Int) : Option Int := Go.Proofs.Ytepmnfjcmppghaa.Sp.need (Go.Proofs.Ytepmnfjcmppghaa.Sp.I a ∧ Go.Proofs.Ytepmnfjcmppghaa.Sp.I b) (some (Go.Proofs.Ytepmnfjcmppghaa.Sp.fastQ a b))
section
open Go.Proofs.Ytepmnfjcmppghaa.Sp
theorem sawtoothref11_FastS.eq {a b : Int} (h1 : I a) (h2 : I b) : sawtoothref11_FastS.f a b = some (fastQ a b) := need_pos ⟨h1, h2⟩
theorem sawtoothref11_Fast.main {a b : Int} (h1 : I a) (h2 : I b) : sawtoothref11_Fast.f a b = some (fastQ a b) := by
 unfold sawtoothref11_Fast.f fastQ
 by_cases c : b ≥ a
 ·rw [if_pos c, if_pos c]
 ·rw [if_neg c, if_neg c]
  by_cases c2 : b < 0
  ·rw [if_pos c2, if_pos c2]; rfl
  ·rw [if_neg c2, if_neg c2, sawtoothref04_FloorS.eq h2 (by omega) (by omega), floorQ_in (by omega) (by omega)]
   rfl
end
theorem sawtoothref11_FastS.calls (a b r1 : Int) (w : World) (h : sawtoothref11_FastS.f a b = some r1) :
  Calls Try.prog 29 #[.int .i64 a, .int .i64 b] w fun e w' => e = .returned (.int .i64 r1) ∧ Below w.heap.size w w' := by
 obtain ⟨⟨h1, h2⟩, h⟩ := Go.Proofs.Ytepmnfjcmppghaa.Sp.need_some h; exact sawtoothref11_Fast.calls a b r1 w (by rw [sawtoothref11_Fast.main h1 h2]; exact h)

/-! ### sawtoothref15_Loss: function 15 -/
noncomputable def sawtoothref15_Loss.f (a0 : Int) (a1 : Int) : Option (Int × Int) := (sawtoothref15_LeastS.f a0).bind fun t403 => ((sawtoothref15_GivenS.f a0).bind fun t404 => ((sawtoothref11_FastS.f a1 t404).bind fun t405 => (some (t403, t405))))
set_option maxHeartbeats 8000000 in
set_option maxRecDepth 100000 in
theorem sawtoothref15_Loss.calls (a0 : Int) (a1 : Int) (r1 : Int) (r2 : Int) (w : World) (h : sawtoothref15_Loss.f a0 a1 = some (r1, r2)) :
  Calls Try.prog 15 #[.int .i64 a0, .int .i64 a1] w fun e w' => e = .returned (.tuple #[.int .i64 r1, .int .i64 r2]) ∧ Below w.heap.size w w' := by
 have HB := Aside0.mk (Below.refl w.heap.size w); have H : ((sawtoothref15_LeastS.f a0).bind fun t403 => ((sawtoothref15_GivenS.f a0).bind fun t404 => ((sawtoothref11_FastS.f a1 t404).bind fun t405 => (some (t403, t405))))) = some (r1, r2) := h; clear h; replace H := Option.bind_eq_some_iff.mp H; obtain ⟨t403, A30, H⟩ := H; replace H : ((sawtoothref15_GivenS.f a0).bind fun t404 => ((sawtoothref11_FastS.f a1 t404).bind fun t405 => (some (t403, t405)))) = some (r1, r2) := H; have A3 := Aside0.mk A30; clear A30; replace H := Option.bind_eq_some_iff.mp H; obtain ⟨t404, A40, H⟩ := H; replace H : ((sawtoothref11_FastS.f a1 t404).bind fun t405 => (some (t403, t405))) = some (r1, r2) := H; have A4 := Aside0.mk A40; clear A40; replace H := Option.bind_eq_some_iff.mp H; obtain ⟨t405, A50, H⟩ := H; replace H : (some (t403, t405)) = some (r1, r2) := H; have A5 := Aside0.mk A50; clear A50; simp only [Option.some.injEq, Prod.mk.injEq] at H; obtain ⟨rfl, rfl⟩ := H
 go_enter Try.func15, Try.ntmps15
 go_wp2_with (first | ((with_reducible refine gate_callee (f := 18) rfl ?_); refine goesL_ (some 7) rfl rfl Try.func18 (by kernel_rfl) rfl #[.int .i64 a0] rfl (by (try simp only [List.map_toArray, List.map_cons, List.map_nil]); first | done | rfl | (simp only [List.length_drop, List.length_take]; rfl)) ?_; (with_reducible refine (sawtoothref15_LeastS.calls a0 t403 _ A3.out).mono ?_); rintro e w6 ⟨rfl, hb⟩; refine ⟨_, rfl, ?_⟩; replace HB := Aside0.mk (below_step (by repeat (first | (with_reducible first | exact HB.out | apply below_alloc | apply pw_below_drewN | apply below_drew1) | exact HB.out)) hb); (try clear hb); (try clear hb2); (try clear hk); (try clear hi)) | ((with_reducible refine gate_callee (f := 30) rfl ?_); refine goesL_ (some 10) rfl rfl Try.func30 (by kernel_rfl) rfl #[.int .i64 a0] rfl (by (try simp only [List.map_toArray, List.map_cons, List.map_nil]); first | done | rfl | (simp only [List.length_drop, List.length_take]; rfl)) ?_; (with_reducible refine (sawtoothref15_GivenS.calls a0 t404 _ A4.out).mono ?_); rintro e w' ⟨rfl, ⟨nd, rfl⟩⟩; refine ⟨_, rfl, ?_⟩) | ((with_reducible refine gate_callee (f := 29) rfl ?_); refine goesL_ (some 11) rfl rfl Try.func29 (by kernel_rfl) rfl #[.int .i64 a1, .int .i64 t404] rfl (by (try simp only [List.map_toArray, List.map_cons, List.map_nil]); first | done | rfl | (simp only [List.length_drop, List.length_take]; rfl)) ?_; (with_reducible refine (sawtoothref11_FastS.calls a1 t404 t405 _ A5.out).mono ?_); rintro e w7 ⟨rfl, hb⟩; refine ⟨_, rfl, ?_⟩; replace HB := Aside0.mk (below_step (by repeat (first | (with_reducible first | exact HB.out | apply below_alloc | apply pw_below_drewN | apply below_drew1) | exact HB.out)) hb); (try clear hb); (try clear hb2); (try clear hk); (try clear hi)))
 go_ret2
 exact ⟨by first | rfl | (simp [errW_none, errW_some] <;> rfl) | (simp [*, errW_none, errW_some] <;> rfl), by repeat (first | (with_reducible first | exact HB.out | apply below_alloc | apply pw_below_drewN | apply below_drew1) | exact HB.out)⟩

/-! ### sawtoothref15_LossS: what a loss leaves: pure, behind function 15 -/
noncomputable def sawtoothref15_LossS.f (a b : Int) : Option (Int × Int) := Go.Proofs.Ytepmnfjcmppghaa.Sp.need (Go.Proofs.Ytepmnfjcmppghaa.Sp.I a ∧ Go.Proofs.Ytepmnfjcmppghaa.Sp.I b) (some (Go.Proofs.Ytepmnfjcmppghaa.Sp.leastW (Go.Proofs.Ytepmnfjcmppghaa.Sp.win a), Go.Proofs.Ytepmnfjcmppghaa.Sp.fastQ b (Go.Proofs.Ytepmnfjcmppghaa.Sp.win a)))
section
open Go.Proofs.Ytepmnfjcmppghaa.Sp
theorem sawtoothref15_LossS.eq {a b : Int} (h1 : I a) (h2 : I b) : sawtoothref15_LossS.f a b = some (leastW (win a), fastQ b (win a)) := need_pos ⟨h1, h2⟩
theorem sawtoothref15_Loss.main {a b : Int} (h1 : I a) (h2 : I b) : sawtoothref15_Loss.f a b = some (leastW (win a), fastQ b (win a)) := by
 unfold sawtoothref15_Loss.f
 have w := win_bd a
 rw [sawtoothref15_LeastS.eq h1, sawtoothref15_GivenS.eq h1]
 simp only [Option.bind_some]
 rw [sawtoothref11_FastS.eq h2 (by omega)]
 rfl
end
theorem sawtoothref15_LossS.calls (a b r1 r2 : Int) (w : World) (h : sawtoothref15_LossS.f a b = some (r1, r2)) :
  Calls Try.prog 15 #[.int .i64 a, .int .i64 b] w fun e w' => e = .returned (.tuple #[.int .i64 r1, .int .i64 r2]) ∧ Below w.heap.size w w' := by
 obtain ⟨⟨h1, h2⟩, h⟩ := Go.Proofs.Ytepmnfjcmppghaa.Sp.need_some h; exact sawtoothref15_Loss.calls a b r1 r2 w (by rw [sawtoothref15_Loss.main h1 h2]; exact h)

/-! ### sawtoothref15_Many: function 20 -/
noncomputable def sawtoothref15_Many.l0 : Nat → Int → Int → Int → Option (Int)
 | 0, _, _, _ => none
 | k + 1, x1, x5, x6 => if x6 < x1 then (if x5 > 131072 then ((sawtoothref15_LeastS.f x5).bind fun t407 => (sawtoothref15_Many.l0 k x1 t407 (wrap64 (x6 + 1)))) else (some x5)) else (some x5)
noncomputable def sawtoothref15_Many.f (k : Nat) (a0 : Int) (a1 : Int) : Option (Int) := (sawtoothref15_GivenS.f a0).bind fun t406 => (sawtoothref15_Many.l0 k a1 t406 0)
theorem sawtoothref15_Many.mono_l : ∀ k, (∀ y0 y1 y2, LeO (sawtoothref15_Many.l0 k y0 y1 y2) (sawtoothref15_Many.l0 (k + 1) y0 y1 y2))
 | 0 => fun _ _ _ r h => by simp [sawtoothref15_Many.l0] at h
 | k + 1 => by
  have ih0 := sawtoothref15_Many.mono_l k
  ·intro y0 y1 y2
   unfold sawtoothref15_Many.l0
   repeat' first
   | (with_reducible exact ih0 _ _ _)
   | (with_reducible exact LeO.refl _)
   | (with_reducible exact LeO.none _)
   | (with_reducible refine LeO.ite ?_ ?_)
   | (with_reducible refine LeO.bind ?_ (fun _ => ?_))
   | exact ih0 _ _ _
   | exact LeO.none _
   | refine LeO.ite ?_ ?_
   | refine LeO.bind ?_ (fun _ => ?_)
theorem sawtoothref15_Many.mono : ∀ a0 a1 k, LeO (sawtoothref15_Many.f k a0 a1) (sawtoothref15_Many.f (k + 1) a0 a1) := by
 intro a0 a1 k; have ih0 := sawtoothref15_Many.mono_l k
 unfold sawtoothref15_Many.f
 repeat' first
   | (with_reducible exact ih0 _ _ _)
   | (with_reducible exact LeO.refl _)
   | (with_reducible exact LeO.none _)
   | (with_reducible refine LeO.ite ?_ ?_)
   | (with_reducible refine LeO.bind ?_ (fun _ => ?_))
   | exact ih0 _ _ _
   | exact LeO.none _
   | refine LeO.ite ?_ ?_
   | refine LeO.bind ?_ (fun _ => ?_)
set_option maxHeartbeats 8000000 in
set_option maxRecDepth 100000 in
theorem sawtoothref15_Many.calls (k : Nat) (a0 : Int) (a1 : Int) (r : Int) (w : World) (h : sawtoothref15_Many.f k a0 a1 = some r) :
  Calls Try.prog 20 #[.int .i64 a0, .int .i64 a1] w fun e w' => e = .returned (.int .i64 r) ∧ Below w.heap.size w w' := by
 have HB := Aside0.mk (Below.refl w.heap.size w); have H : ((sawtoothref15_GivenS.f a0).bind fun t406 => (sawtoothref15_Many.l0 k a1 t406 0)) = some r := h; clear h; replace H := Option.bind_eq_some_iff.mp H; obtain ⟨t406, A30, H⟩ := H; replace H : (sawtoothref15_Many.l0 k a1 t406 0) = some r := H; have A3 := Aside0.mk A30; clear A30; have H' := Aside0.mk H; clear H
 go_enter Try.func20, Try.ntmps20
 go_wp2_with (first | ((with_reducible refine gate_callee (f := 30) rfl ?_); refine goesL_ (some 8) rfl rfl Try.func30 (by kernel_rfl) rfl #[.int .i64 a0] rfl (by (try simp only [List.map_toArray, List.map_cons, List.map_nil]); first | done | rfl | (simp only [List.length_drop, List.length_take]; rfl)) ?_; (with_reducible refine (sawtoothref15_GivenS.calls a0 t406 _ A3.out).mono ?_); rintro e w' ⟨rfl, ⟨nd, rfl⟩⟩; refine ⟨_, rfl, ?_⟩))
 go_loopg [5, 6] k (fun kq v5 v6 w' => ∃ (x5_1 : Int) (x6_1 : Int), v5 = .int .i64 x5_1 ∧ v6 = .int .i64 x6_1 ∧ Aside0 (sawtoothref15_Many.l0 kq a1 x5_1 x6_1 = some r) ∧ Aside0 (kq ≤ k) ∧ Aside0 (Below w.heap.size w w'))
 case atStart => exact ⟨(t406), (0), (by first | rfl | (simp; done) | (simp [*]; done)), (by first | rfl | (simp; done) | (simp [*]; done)), H', ⟨Nat.le_refl _⟩, ⟨by repeat (first | (with_reducible first | exact HB.out | apply below_alloc | apply pw_below_drewN | apply below_drew1) | exact HB.out)⟩⟩
 case round =>
  clear H'
  try clear c2
  try clear p2
  try clear c3
  obtain ⟨x5_1, x6_1, rfl, rfl, HA, HK1, HB⟩ := hrel
  cases gk with
  | zero => exact absurd HA.out (by simp [sawtoothref15_Many.l0])
  | succ k1 =>
   have H := HA.out; clear HA; simp only [sawtoothref15_Many.l0] at H
   by_cases c4 : x6_1 < a1
   ·rw [if_pos c4] at H
    have c4b0 : decide (x6_1 < a1) = true := decide_eq_true c4; clear c4
    by_cases c5 : x5_1 > 131072
    ·rw [if_pos c5] at H
     have c5b0 : decide (131072 < x5_1) = true := decide_eq_true c5; clear c5; replace H := Option.bind_eq_some_iff.mp H; obtain ⟨t407, A60, H⟩ := H; replace H : (sawtoothref15_Many.l0 k1 a1 t407 (wrap64 (x6_1 + 1))) = some r := H; have A6 := Aside0.mk A60; clear A60; have H' := Aside0.mk H; clear H
     go_wp2_with (first | ((with_reducible refine gate_callee (f := 18) rfl ?_); refine goesL_ (some 19) rfl rfl Try.func18 (by kernel_rfl) rfl #[.int .i64 x5_1] rfl (by (try simp only [List.map_toArray, List.map_cons, List.map_nil]); first | done | rfl | (simp only [List.length_drop, List.length_take]; rfl)) ?_; (with_reducible refine (sawtoothref15_LeastS.calls x5_1 t407 _ A6.out).mono ?_); rintro e w7 ⟨rfl, hb⟩; refine ⟨_, rfl, ?_⟩; replace HB := Aside0.mk (below_step (by repeat (first | (with_reducible first | exact HB.out | apply below_alloc | apply pw_below_drewN | apply below_drew1) | exact HB.out)) hb); (try clear hb); (try clear hb2); (try clear hk); (try clear hi)))
     go_roundg k1
     case measure => have := HK1.out; omega
     case rel => exact ⟨(t407), (wrap64 (x6_1 + 1)), (by first | rfl | (simp; done) | (simp [*]; done)), (by first | rfl | (simp; done) | (simp [*]; done)), H', ⟨by have := HK1.out; omega⟩, ⟨by repeat (first | (with_reducible first | exact HB.out | apply below_alloc | apply pw_below_drewN | apply below_drew1) | exact HB.out)⟩⟩
    ·rw [if_neg c5] at H
     have c5b0 : decide (131072 < x5_1) = false := decide_eq_false c5; clear c5; obtain rfl := Option.some.inj H
     go_wp2
     go_ret
     exact ⟨by first | rfl | (simp [errW_none, errW_some] <;> rfl) | (simp [*, errW_none, errW_some] <;> rfl), by repeat (first | (with_reducible first | exact HB.out | apply below_alloc | apply pw_below_drewN | apply below_drew1) | exact HB.out)⟩
   ·rw [if_neg c4] at H
    have c4b0 : decide (x6_1 < a1) = false := decide_eq_false c4; clear c4; obtain rfl := Option.some.inj H
    go_wp2
    go_ret
    exact ⟨by first | rfl | (simp [errW_none, errW_some] <;> rfl) | (simp [*, errW_none, errW_some] <;> rfl), by repeat (first | (with_reducible first | exact HB.out | apply below_alloc | apply pw_below_drewN | apply below_drew1) | exact HB.out)⟩

/-! ### sawtoothref15_ManyS: what some leave: pure, behind function 20 -/
noncomputable def sawtoothref15_ManyS.f (a b : Int) : Option Int := Go.Proofs.Ytepmnfjcmppghaa.Sp.need (Go.Proofs.Ytepmnfjcmppghaa.Sp.I a ∧ Go.Proofs.Ytepmnfjcmppghaa.Sp.I b) (some (Go.Proofs.Ytepmnfjcmppghaa.Sp.manyW (Go.Proofs.Ytepmnfjcmppghaa.Sp.clamp b 0 64).toNat (Go.Proofs.Ytepmnfjcmppghaa.Sp.win a)))
section
open Go.Proofs.Ytepmnfjcmppghaa.Sp
theorem sawtoothref15_ManyS.eq {a b : Int} (h1 : I a) (h2 : I b) : sawtoothref15_ManyS.f a b = some (manyW (clamp b 0 64).toNat (win a)) := need_pos ⟨h1, h2⟩
theorem sawtoothref15_Many.all (n : Int) (hn : I n) : ∀ (K : Nat) (w i : Int), 131072 ≤ w → w ≤ 68719476736 → 0 ≤ i → i + K ≤ 1000000 → manyW K w = 131072 → sawtoothref15_Many.l0 (K + 1) n w i = some (manyW (n - i).toNat w)
 | 0, w, i, h1, h2, h3, h4, h5 => by
  have e : w = 131072 := h5
  subst e
  rw [sawtoothref15_Many.l0, manyW_two]
  by_cases c : i < n
  ·rw [if_pos c, if_neg (by omega)]
  ·rw [if_neg c]
 | K + 1, w, i, h1, h2, h3, h4, h5 => by
  rw [sawtoothref15_Many.l0]
  by_cases c : i < n
  ·rw [if_pos c]
   by_cases cw : w > 131072
   ·have b := leastW_bd w
    have h6 : manyW K (leastW w) = 131072 := by
     have e : manyW (K + 1) w = manyW K (if 131072 < w then leastW w else w) := rfl
     rw [e, if_pos cw] at h5; exact h5
    have hw : win w = w := clamp_in h1 h2
    rw [if_pos cw, sawtoothref15_LeastS.eq (by omega), hw]
    simp only [Option.bind_some]
    rw [w64 (x := i + 1) (by omega), sawtoothref15_Many.all n hn K (leastW w) (i + 1) b.1 b.2 (by omega) (by omega) h6]
    rw [show (n - i).toNat = (n - (i + 1)).toNat + 1 by omega]
    show _ = some (manyW _ (if 131072 < w then leastW w else w))
    rw [if_pos cw]
   ·have e : w = 131072 := by omega
    subst e
    rw [if_neg cw, manyW_two]
  ·rw [if_neg c, show (n - i).toNat = 0 by omega]; rfl
theorem sawtoothref15_Many.main {a b : Int} (h1 : I a) (h2 : I b) : sawtoothref15_Many.f 51 a b = some (manyW (clamp b 0 64).toNat (win a)) := by
 have w := win_bd a
 unfold sawtoothref15_Many.f
 rw [sawtoothref15_GivenS.eq h1]
 simp only [Option.bind_some]
 rw [sawtoothref15_Many.all b h2 50 (win a) 0 w.1 w.2 (by omega) (by omega) (manyW_end w.1 w.2 (by omega)), manyW_clamp w.1 w.2, Int.sub_zero]
end
theorem sawtoothref15_ManyS.calls (a b r1 : Int) (w : World) (h : sawtoothref15_ManyS.f a b = some r1) :
  Calls Try.prog 20 #[.int .i64 a, .int .i64 b] w fun e w' => e = .returned (.int .i64 r1) ∧ Below w.heap.size w w' := by
 obtain ⟨⟨h1, h2⟩, h⟩ := Go.Proofs.Ytepmnfjcmppghaa.Sp.need_some h; exact sawtoothref15_Many.calls 51 a b r1 w (by rw [sawtoothref15_Many.main h1 h2]; exact h)

/-! ### sawtoothlaw15_CutTells: function 3 -/
noncomputable def sawtoothlaw15_CutTells.f (a0 : Int) (a1 : Int) (a2 : Int) : Option (Bool) := (sawtoothlaw15_awakeS.f).bind fun t408 => ((cut_LossS.f a0 a1).bind fun bt409 => ((sawtoothref15_LossS.f a0 a1).bind fun bt411 => ((cut_TimeoutS.f a0 a1).bind fun bt413 => (if t408 = true then ((cut_LeastS.f a0).bind fun t416 => ((sawtoothref15_LeastS.f a0).bind fun t417 => (if t416 = t417 then (if bt409.1 = bt411.1 then (if bt409.2 = bt411.2 then (if bt413.1 = 131072 then (if bt413.2.1 = bt411.1 then (if bt413.2.2 = bt411.2 then ((cut_Many.f a0 a2).bind fun t418 => ((sawtoothref15_ManyS.f a0 a2).bind fun t419 => (some (t418 == t419)))) else (none)) else (none)) else (none)) else (none)) else (none)) else (none)))) else (none)))))
set_option maxHeartbeats 8000000 in
set_option maxRecDepth 100000 in
theorem sawtoothlaw15_CutTells.calls (a0 : Int) (a1 : Int) (a2 : Int) (r : Bool) (w : World) (h : sawtoothlaw15_CutTells.f a0 a1 a2 = some r) :
  Calls Try.prog 3 #[.int .i64 a0, .int .i64 a1, .int .i64 a2] w fun e w' => e = .returned (.bool r) ∧ Below w.heap.size w w' := by
 have HB := Aside0.mk (Below.refl w.heap.size w); have H : ((sawtoothlaw15_awakeS.f).bind fun t408 => ((cut_LossS.f a0 a1).bind fun bt409 => ((sawtoothref15_LossS.f a0 a1).bind fun bt411 => ((cut_TimeoutS.f a0 a1).bind fun bt413 => (if t408 = true then ((cut_LeastS.f a0).bind fun t416 => ((sawtoothref15_LeastS.f a0).bind fun t417 => (if t416 = t417 then (if bt409.1 = bt411.1 then (if bt409.2 = bt411.2 then (if bt413.1 = 131072 then (if bt413.2.1 = bt411.1 then (if bt413.2.2 = bt411.2 then ((cut_Many.f a0 a2).bind fun t418 => ((sawtoothref15_ManyS.f a0 a2).bind fun t419 => (some (t418 == t419)))) else (none)) else (none)) else (none)) else (none)) else (none)) else (none)))) else (none)))))) = some r := h; clear h; replace H := Option.bind_eq_some_iff.mp H; obtain ⟨t408, A40, H⟩ := H; (try dsimp only at H); have A4 := Aside0.mk A40; clear A40; replace H := Option.bind_eq_some_iff.mp H; obtain ⟨⟨t409, t410⟩, A50, H⟩ := H; (try dsimp only at H); have A5 := Aside0.mk A50; clear A50; replace H := Option.bind_eq_some_iff.mp H; obtain ⟨⟨t411, t412⟩, A60, H⟩ := H; (try dsimp only at H); have A6 := Aside0.mk A60; clear A60; replace H := Option.bind_eq_some_iff.mp H; obtain ⟨⟨t413, t414, t415⟩, A70, H⟩ := H; (try dsimp only at H); have A7 := Aside0.mk A70; clear A70
 by_cases c8 : t408 = true
 ·subst c8
  have H1 : ((cut_LeastS.f a0).bind fun t416 => ((sawtoothref15_LeastS.f a0).bind fun t417 => (if t416 = t417 then (if t409 = t411 then (if t410 = t412 then (if t413 = 131072 then (if t414 = t411 then (if t415 = t412 then ((cut_Many.f a0 a2).bind fun t418 => ((sawtoothref15_ManyS.f a0 a2).bind fun t419 => (some (t418 == t419)))) else (none)) else (none)) else (none)) else (none)) else (none)) else (none)))) = some r := by rw [if_pos rfl] at H; exact H
  clear H; have H := H1; clear H1; replace H := Option.bind_eq_some_iff.mp H; obtain ⟨t416, A90, H⟩ := H; (try dsimp only at H); have A9 := Aside0.mk A90; clear A90; replace H := Option.bind_eq_some_iff.mp H; obtain ⟨t417, A100, H⟩ := H; (try dsimp only at H); have A10 := Aside0.mk A100; clear A100
  by_cases c11 : t416 = t417
  ·rw [if_pos c11] at H
   have c11b0 : (t416 == t417) = true := beq_iff_eq.mpr c11; have c11b1 : (t416 != t417) = false := bne_eq_false_iff_eq.mpr c11; clear c11
   by_cases c12 : t409 = t411
   ·rw [if_pos c12] at H
    have c12b0 : (t409 == t411) = true := beq_iff_eq.mpr c12; have c12b1 : (t409 != t411) = false := bne_eq_false_iff_eq.mpr c12; clear c12
    by_cases c13 : t410 = t412
    ·rw [if_pos c13] at H
     have c13b0 : (t410 == t412) = true := beq_iff_eq.mpr c13; have c13b1 : (t410 != t412) = false := bne_eq_false_iff_eq.mpr c13; clear c13
     by_cases c14 : t413 = 131072
     ·rw [if_pos c14] at H
      have c14b0 : (t413 == 131072) = true := beq_iff_eq.mpr c14; have c14b1 : (t413 != 131072) = false := bne_eq_false_iff_eq.mpr c14; clear c14
      by_cases c15 : t414 = t411
      ·rw [if_pos c15] at H
       have c15b0 : (t414 == t411) = true := beq_iff_eq.mpr c15; have c15b1 : (t414 != t411) = false := bne_eq_false_iff_eq.mpr c15; clear c15
       by_cases c16 : t415 = t412
       ·rw [if_pos c16] at H
        have c16b0 : (t415 == t412) = true := beq_iff_eq.mpr c16; have c16b1 : (t415 != t412) = false := bne_eq_false_iff_eq.mpr c16; clear c16; replace H := Option.bind_eq_some_iff.mp H; obtain ⟨t418, A170, H⟩ := H; replace H : ((sawtoothref15_ManyS.f a0 a2).bind fun t419 => (some (t418 == t419))) = some r := H; have A17 := Aside0.mk A170; clear A170; replace H := Option.bind_eq_some_iff.mp H; obtain ⟨t419, A180, H⟩ := H; replace H : (some (t418 == t419)) = some r := H; have A18 := Aside0.mk A180; clear A180; obtain rfl := Option.some.inj H
        go_enter Try.func3, Try.ntmps3
        go_wp2_with (first | ((with_reducible refine gate_callee (f := 13) rfl ?_); refine goesL_ (some 15) rfl rfl Try.func13 (by kernel_rfl) rfl #[] rfl (by (try simp only [List.map_toArray, List.map_cons, List.map_nil]); first | done | rfl | (simp only [List.length_drop, List.length_take]; rfl)) ?_; (with_reducible refine (sawtoothlaw15_awakeS.calls  true _ A4.out).mono ?_); rintro e w19 ⟨rfl, hb⟩; refine ⟨_, rfl, ?_⟩; replace HB := Aside0.mk (below_step (by repeat (first | (with_reducible first | exact HB.out | apply below_alloc | apply pw_below_drewN | apply below_drew1) | exact HB.out)) hb); (try clear hb); (try clear hb2); (try clear hk); (try clear hi)) | ((with_reducible refine gate_callee (f := 14) rfl ?_); refine goesL_ (some 19) rfl rfl Try.func14 (by kernel_rfl) rfl #[.int .i64 a0, .int .i64 a1] rfl (by (try simp only [List.map_toArray, List.map_cons, List.map_nil]); first | done | rfl | (simp only [List.length_drop, List.length_take]; rfl)) ?_; (with_reducible refine (cut_LossS.calls a0 a1 t409 t410 _ A5.out).mono ?_); rintro e w20 ⟨rfl, hb⟩; refine ⟨_, rfl, ?_⟩; replace HB := Aside0.mk (below_step (by repeat (first | (with_reducible first | exact HB.out | apply below_alloc | apply pw_below_drewN | apply below_drew1) | exact HB.out)) hb); (try clear hb); (try clear hb2); (try clear hk); (try clear hi)) | ((with_reducible refine gate_callee (f := 15) rfl ?_); refine goesL_ (some 25) rfl rfl Try.func15 (by kernel_rfl) rfl #[.int .i64 a0, .int .i64 a1] rfl (by (try simp only [List.map_toArray, List.map_cons, List.map_nil]); first | done | rfl | (simp only [List.length_drop, List.length_take]; rfl)) ?_; (with_reducible refine (sawtoothref15_LossS.calls a0 a1 t411 t412 _ A6.out).mono ?_); rintro e w21 ⟨rfl, hb⟩; refine ⟨_, rfl, ?_⟩; replace HB := Aside0.mk (below_step (by repeat (first | (with_reducible first | exact HB.out | apply below_alloc | apply pw_below_drewN | apply below_drew1) | exact HB.out)) hb); (try clear hb); (try clear hb2); (try clear hk); (try clear hi)) | ((with_reducible refine gate_callee (f := 16) rfl ?_); refine goesL_ (some 31) rfl rfl Try.func16 (by kernel_rfl) rfl #[.int .i64 a0, .int .i64 a1] rfl (by (try simp only [List.map_toArray, List.map_cons, List.map_nil]); first | done | rfl | (simp only [List.length_drop, List.length_take]; rfl)) ?_; (with_reducible refine (cut_TimeoutS.calls a0 a1 t413 t414 t415 _ A7.out).mono ?_); rintro e w22 ⟨rfl, hb⟩; refine ⟨_, rfl, ?_⟩; replace HB := Aside0.mk (below_step (by repeat (first | (with_reducible first | exact HB.out | apply below_alloc | apply pw_below_drewN | apply below_drew1) | exact HB.out)) hb); (try clear hb); (try clear hb2); (try clear hk); (try clear hi)) | (go_at_call 17; (with_reducible refine (cut_LeastS.calls a0 t416 _ A9.out).mono ?_); rintro e w23 ⟨rfl, hb⟩; replace HB := Aside0.mk (below_step (by repeat (first | (with_reducible first | exact HB.out | apply below_alloc | apply pw_below_drewN | apply below_drew1) | exact HB.out)) hb); (try clear hb); (try clear hb2); (try clear hk); (try clear hi)) | (go_at_call 18; (with_reducible refine (sawtoothref15_LeastS.calls a0 t417 _ A10.out).mono ?_); rintro e w24 ⟨rfl, hb⟩; replace HB := Aside0.mk (below_step (by repeat (first | (with_reducible first | exact HB.out | apply below_alloc | apply pw_below_drewN | apply below_drew1) | exact HB.out)) hb); (try clear hb); (try clear hb2); (try clear hk); (try clear hi)) | (go_at_call 19; (with_reducible refine (cut_Many.calls a0 a2 t418 _ A17.out).mono ?_); rintro e w25 ⟨rfl, hb⟩; replace HB := Aside0.mk (below_step (by repeat (first | (with_reducible first | exact HB.out | apply below_alloc | apply pw_below_drewN | apply below_drew1) | exact HB.out)) hb); (try clear hb); (try clear hb2); (try clear hk); (try clear hi)) | (go_at_call 20; (with_reducible refine (sawtoothref15_ManyS.calls a0 a2 t419 _ A18.out).mono ?_); rintro e w26 ⟨rfl, hb⟩; replace HB := Aside0.mk (below_step (by repeat (first | (with_reducible first | exact HB.out | apply below_alloc | apply pw_below_drewN | apply below_drew1) | exact HB.out)) hb); (try clear hb); (try clear hb2); (try clear hk); (try clear hi)))
        go_ret
        exact ⟨by first | rfl | (simp [errW_none, errW_some] <;> rfl) | (simp [*, errW_none, errW_some] <;> rfl), by repeat (first | (with_reducible first | exact HB.out | apply below_alloc | apply pw_below_drewN | apply below_drew1) | exact HB.out)⟩
       ·rw [if_neg c16] at H
        exact absurd H (by simp)
      ·rw [if_neg c15] at H
       exact absurd H (by simp)
     ·rw [if_neg c14] at H
      exact absurd H (by simp)
    ·rw [if_neg c13] at H
     exact absurd H (by simp)
   ·rw [if_neg c12] at H
    exact absurd H (by simp)
  ·rw [if_neg c11] at H
   exact absurd H (by simp)
 ·replace c8 := Bool.eq_false_iff.mpr c8
  subst c8
  have H1 : (none) = some r := by rw [if_neg (show ¬ (false = true) by decide)] at H; exact H
  clear H; have H := H1; clear H1; exact absurd H (by simp)

/-- THE ONE PURE STATEMENT of sawtoothlaw15_CutTells: yours. -/
def sawtoothlaw15_CutTells.Pure : Prop := ∀ (a0 : Int) (a1 : Int) (a2 : Int), (Lit.int .i64 a0).wf = true → (Lit.int .i64 a1).wf = true → (Lit.int .i64 a2).wf = true → sawtoothlaw15_CutTells.f a0 a1 a2 = some true
theorem sawtoothlaw15_CutTells.walk (P : sawtoothlaw15_CutTells.Pure) (a0 : Int) (a1 : Int) (a2 : Int) (w : World) (w0 : (Lit.int .i64 a0).wf = true) (w1 : (Lit.int .i64 a1).wf = true) (w2 : (Lit.int .i64 a2).wf = true) :
  Calls Try.prog 3 #[.int .i64 a0, .int .i64 a1, .int .i64 a2] w fun e w' => e = .returned (.bool true) ∧ Below w.heap.size w w' := by
 have h := P a0 a1 a2 w0 w1 w2; refine (sawtoothlaw15_CutTells.calls a0 a1 a2 true w h).mono ?_; rintro e w' ⟨rfl, hd⟩; exact ⟨rfl, hd⟩

end Go.Proofs.Ytepmnfjcmppghaa.Px
