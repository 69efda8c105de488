/- Printed by a program of this session (wip/tool/px.py), over the kit's print: for each Go function a Lean function, and the proof that the machine's call answers as that function says. Conditions: none beside what the theorems state. -/
import Derived.Test.YtepmnfjcmppghaaPx0
import Derived.Test.YtepmnfjcmppghaaPx23
import Derived.Test.YtepmnfjcmppghaaPx24
import Derived.Test.YtepmnfjcmppghaaPx26
import Derived.Test.YtepmnfjcmppghaaPx28
import Derived.Test.YtepmnfjcmppghaaPx29
import Derived.Test.YtepmnfjcmppghaaPx30
import Derived.Test.YtepmnfjcmppghaaSpec
namespace Go.Proofs.Ytepmnfjcmppghaa.Px
open Go.RowKit Go.Proofs.YtepmnfjcmppghaaW.PrintWords Go.Proofs.YtepmnfjcmppghaaW.PrintLast Go.Proofs.YtepmnfjcmppghaaW.PrintMore
attribute [local go_sem] max2_int min2_int max_two min_two max_three min_three max_four min_four   -- for this text's walks alone
set_option linter.unusedVariables false
set_option linter.unusedSimpArgs false

/-! ### sawtoothref02_CmpS: which is greater: pure, behind function 51 -/
noncomputable def sawtoothref02_CmpS.f (n : Bool) (h l : Int) (m : Bool) (i k : Int) : Option Int := Go.Proofs.Ytepmnfjcmppghaa.Sp.cmpF n h l m i k
section Ref02Cmp
open Go.Proofs.Ytepmnfjcmppghaa.Sp
theorem sawtoothref02_Cmp.main {n m : Bool} {h l i k : Int} (h1 : U h) (h2 : U l) (h3 : U i) (h4 : U k) : sawtoothref02_Cmp.f 1 n h l m i k = some (cmpI (val n h l) (val m i k)) := by
 unfold sawtoothref02_Cmp.f
 rw [sawtoothref02_digits.eq h1 h2, sawtoothref02_digits.eq h3 h4]
 simp only [Option.bind_some, sawtoothref02_belowS.eq h1 h2, sawtoothref02_belowS.eq h3 h4, sawtoothref02_less.eq h1 h2 h3 h4, sawtoothref02_less.eq h3 h4 h1 h2, sawtoothref02_Cmp.j0]
 have v1 : val n h l = h * 18446744073709551616 + l ∨ val n h l = -(h * 18446744073709551616 + l) := by unfold val; cases n <;> simp
 have v2 : val m i k = i * 18446744073709551616 + k ∨ val m i k = -(i * 18446744073709551616 + k) := by unfold val; cases m <;> simp
 have p1 : 0 ≤ h * 18446744073709551616 + l := by omega
 have p2 : 0 ≤ i * 18446744073709551616 + k := by omega
 generalize val n h l = v at *
 generalize val m i k = w at *
 generalize h * 18446744073709551616 + l = M at *
 generalize i * 18446744073709551616 + k = N at *
 unfold cmpI
 by_cases a : v < 0 <;> by_cases b : w < 0 <;> by_cases c : M < N <;> by_cases d : N < M <;> simp [a, b, c, d] <;> omega
end Ref02Cmp
theorem sawtoothref02_CmpS.calls (a0_0 : Bool) (a0_1 a0_2 : Int) (a1_0 : Bool) (a1_1 a1_2 r : Int) (w : World) (h : sawtoothref02_CmpS.f a0_0 a0_1 a0_2 a1_0 a1_1 a1_2 = some r) :
  Calls Try.prog 51 #[.agg #[.bool a0_0, .int .u64 a0_1, .int .u64 a0_2], .agg #[.bool a1_0, .int .u64 a1_1, .int .u64 a1_2]] w fun e w' => e = .returned (.int .i64 r) ∧ Below w.heap.size w w' := by
 obtain ⟨hc, h⟩ := Go.Proofs.Ytepmnfjcmppghaa.Sp.need_some h; obtain ⟨h1, h2, h3, h4⟩ := hc; exact sawtoothref02_Cmp.calls 1 a0_0 a0_1 a0_2 a1_0 a1_1 a1_2 r w (by rw [sawtoothref02_Cmp.main h1 h2 h3 h4]; exact h)

/-! ### sawtoothref04_part: function 40 -/
noncomputable def sawtoothref04_part.f (a0 : Int) (a1 : Int) (a2 : Int) (a3 : Int) : Option (Int × Int) := if a2 < 1 then (some (0, 20)) else ((sawtoothref02_MulS.f a0 a1).bind fun bt371 => ((sawtoothref02_OfS.f a3).bind fun bt374 => ((sawtoothref02_AddS.f bt371.1 bt371.2.1 bt371.2.2 bt374.1 bt374.2.1 bt374.2.2).bind fun bt377 => ((sawtoothref02_DivS.f bt377.1 bt377.2.1 bt377.2.2.1 (IntKind.u64.wrap (a2))).bind fun bt382 => ((sawtoothref02_IntS.f bt382.1 bt382.2.1 bt382.2.2.1).bind fun t388 => ((sawtoothref02_OfS.f t388).bind fun bt389 => ((sawtoothref02_CmpS.f bt382.1 bt382.2.1 bt382.2.2.1 bt389.1 bt389.2.1 bt389.2.2).bind fun t392 => (if t392 = 0 then (some (t388, 0)) else (some (0, 10))))))))))
set_option maxHeartbeats 8000000 in
set_option maxRecDepth 100000 in
theorem sawtoothref04_part.calls (a0 : Int) (a1 : Int) (a2 : Int) (a3 : Int) (r1 : Int) (r2 : Int) (w : World) (h : sawtoothref04_part.f a0 a1 a2 a3 = some (r1, r2)) :
  Calls Try.prog 40 #[.int .i64 a0, .int .i64 a1, .int .i64 a2, .int .i64 a3] w fun e w' => e = .returned (.tuple #[.int .i64 r1, .int .i64 r2]) ∧ Below w.heap.size w w' := by
 have hu60 := Try.underlying60; have HB := Aside0.mk (Below.refl w.heap.size w); have H : (if a2 < 1 then (some (0, 20)) else ((sawtoothref02_MulS.f a0 a1).bind fun bt371 => ((sawtoothref02_OfS.f a3).bind fun bt374 => ((sawtoothref02_AddS.f bt371.1 bt371.2.1 bt371.2.2 bt374.1 bt374.2.1 bt374.2.2).bind fun bt377 => ((sawtoothref02_DivS.f bt377.1 bt377.2.1 bt377.2.2.1 (IntKind.u64.wrap (a2))).bind fun bt382 => ((sawtoothref02_IntS.f bt382.1 bt382.2.1 bt382.2.2.1).bind fun t388 => ((sawtoothref02_OfS.f t388).bind fun bt389 => ((sawtoothref02_CmpS.f bt382.1 bt382.2.1 bt382.2.2.1 bt389.1 bt389.2.1 bt389.2.2).bind fun t392 => (if t392 = 0 then (some (t388, 0)) else (some (0, 10))))))))))) = some (r1, r2) := h; clear h
 by_cases c5 : a2 < 1
 ·rw [if_pos c5] at H
  have c5b0 : decide (a2 < 1) = true := decide_eq_true c5; clear c5; simp only [Option.some.injEq, Prod.mk.injEq] at H; obtain ⟨rfl, rfl⟩ := H
  go_enter Try.func40, Try.ntmps40
  go_wp2
  go_ret2
  exact ⟨by first | rfl | (simp [errW_none, errW_some] <;> rfl) | (simp [*, errW_none, errW_some] <;> rfl), by repeat (first | (with_reducible first | exact HB.out | apply below_alloc | apply pw_below_drewN | apply below_drew1) | exact HB.out)⟩
 ·rw [if_neg c5] at H
  have c5b0 : decide (a2 < 1) = false := decide_eq_false c5; clear c5; replace H := Option.bind_eq_some_iff.mp H; obtain ⟨⟨t371, t372, t373⟩, A60, H⟩ := H; (try dsimp only at H); have A6 := Aside0.mk A60; clear A60; replace H := Option.bind_eq_some_iff.mp H; obtain ⟨⟨t374, t375, t376⟩, A70, H⟩ := H; (try dsimp only at H); have A7 := Aside0.mk A70; clear A70; replace H := Option.bind_eq_some_iff.mp H; obtain ⟨⟨t377, t378, t379, t380⟩, A80, H⟩ := H; (try dsimp only at H); have A8 := Aside0.mk A80; clear A80; replace H := Option.bind_eq_some_iff.mp H; obtain ⟨⟨t382, t383, t384, t385, t386⟩, A90, H⟩ := H; (try dsimp only at H); have A9 := Aside0.mk A90; clear A90; replace H := Option.bind_eq_some_iff.mp H; obtain ⟨t388, A100, H⟩ := H; (try dsimp only at H); have A10 := Aside0.mk A100; clear A100; replace H := Option.bind_eq_some_iff.mp H; obtain ⟨⟨t389, t390, t391⟩, A110, H⟩ := H; replace H : ((sawtoothref02_CmpS.f t382 t383 t384 t389 t390 t391).bind fun t392 => (if t392 = 0 then (some (t388, 0)) else (some (0, 10)))) = some (r1, r2) := H; have A11 := Aside0.mk A110; clear A110; replace H := Option.bind_eq_some_iff.mp H; obtain ⟨t392, A120, H⟩ := H; replace H : (if t392 = 0 then (some (t388, 0)) else (some (0, 10))) = some (r1, r2) := H; have A12 := Aside0.mk A120; clear A120
  by_cases c13 : t392 = 0
  ·rw [if_pos c13] at H
   have c13b0 : (t392 == 0) = true := beq_iff_eq.mpr c13; have c13b1 : (t392 != 0) = false := bne_eq_false_iff_eq.mpr c13; clear c13; simp only [Option.some.injEq, Prod.mk.injEq] at H; obtain ⟨rfl, rfl⟩ := H
   go_enter Try.func40, Try.ntmps40
   try go_wp2_with (first | ((with_reducible refine gate_callee (f := 47) rfl ?_); refine goesLA_ (some 21) rfl rfl Try.func47 rfl #[.int .i64 a0, .int .i64 a1] rfl ?_; (with_reducible refine (sawtoothref02_MulS.calls a0 a1 t371 t372 t373 _ A6.out).mono ?_); rintro e w14 ⟨rfl, hb⟩; refine ⟨_, rfl, ?_⟩; replace HB := stA hb; (try clear hb); (try clear hb2); (try clear hk); (try clear hi)) | ((with_reducible refine gate_callee (f := 48) rfl ?_); refine goesLA_ (some 23) rfl rfl Try.func48 rfl #[.int .i64 a3] rfl ?_; (with_reducible refine (sawtoothref02_OfS.calls a3 t374 t375 t376 _ A7.out).mono ?_); rintro e w15 ⟨rfl, hb⟩; refine ⟨_, rfl, ?_⟩; replace HB := stA hb; (try clear hb); (try clear hb2); (try clear hk); (try clear hi)) | ((with_reducible refine gate_callee (f := 46) rfl ?_); refine goesLA_ (some 24) rfl rfl Try.func46 rfl #[.agg #[.bool t371, .int .u64 t372, .int .u64 t373], .agg #[.bool t374, .int .u64 t375, .int .u64 t376]] rfl ?_; (with_reducible refine (sawtoothref02_AddS.calls t371 t372 t373 t374 t375 t376 t377 t378 t379 t380 _ A8.out).mono ?_); rintro e w16 ⟨rfl, hb⟩; refine ⟨_, rfl, ?_⟩; replace HB := stA hb; (try clear hb); (try clear hb2); (try clear hk); (try clear hi)) | ((with_reducible refine gate_dst (N := 10) rfl ?_); refine box_event ?hg (N := 10) ?hd (cs := #[.bool false, .int .u64 0, .int .u64 0]) (t := 60) ?hr ?_; (case hd => rfl); (case hg => rfl); (case hr => first | (go_simp; done) | (go_simp; rfl)); intro gb381 hg w17 hbox hb; have BK381 := Aside0.mk (hbox); obtain ⟨GW381, nHB⟩ := geA hg hb; have GE381 := GW381; replace HB := nHB; clear nHB; clear hb hbox hg; have hcz18_0 := czZ BK381 0 (.bool false); have hcz18_1 := czZ BK381 1 (.int .u64 0); have hcz18_2 := czZ BK381 2 (.int .u64 0); have hfz18_0 := blk_frozen BK381.out 0; have hfz18_1 := blk_frozen BK381.out 1; have hfz18_2 := blk_frozen BK381.out 2) | ((with_reducible refine gate_callee (f := 49) rfl ?_); refine goesLA_ (some 31) rfl rfl Try.func49 rfl #[.agg #[.bool t377, .int .u64 t378, .int .u64 t379], .int .u64 (IntKind.u64.wrap (a2))] rfl ?_; (with_reducible refine (sawtoothref02_DivS.calls t377 t378 t379 (IntKind.u64.wrap (a2)) t382 t383 t384 t385 t386 _ A9.out).mono ?_); rintro e w19 ⟨rfl, hb⟩; refine ⟨_, rfl, ?_⟩; replace BK381 := Aside0.mk (blk_below (g := gb381) (o := .cells #[.bool t377, .int .u64 t378, .int .u64 t379] 60 (0, 0)) (by (with_reducible repeat (first | refine blk_drewN ?_ _ | refine blk_drew ?_ | refine blk_alloc ?_ _)); refine blk_put (cs := #[.bool t377, .int .u64 t378, .int .u64 0]) ?_ 2 _ rfl; (with_reducible repeat (first | refine blk_drewN ?_ _ | refine blk_drew ?_ | refine blk_alloc ?_ _)); refine blk_put (cs := #[.bool t377, .int .u64 0, .int .u64 0]) ?_ 1 _ rfl; (with_reducible repeat (first | refine blk_drewN ?_ _ | refine blk_drew ?_ | refine blk_alloc ?_ _)); refine blk_put (cs := #[.bool false, .int .u64 0, .int .u64 0]) ?_ 0 _ rfl; (with_reducible repeat (first | refine blk_drewN ?_ _ | refine blk_drew ?_ | refine blk_alloc ?_ _)); exact BK381.out) hb); replace HB := stA hb; (try clear hb); (try clear hb2); (try clear hk); (try clear hi)) | ((with_reducible refine gate_dst (N := 12) rfl ?_); refine box_event ?hg (N := 12) ?hd (cs := #[.bool false, .int .u64 0, .int .u64 0]) (t := 60) ?hr ?_; (case hd => rfl); (case hg => rfl); (case hr => first | (go_simp; done) | (go_simp; rfl)); intro gb387 hg w20 hbox hb; have BK387 := Aside0.mk (hbox); obtain ⟨GW387, nHB⟩ := geA hg hb; have GE387 := GW387; obtain ⟨NB381_387, NB387_381, nBK⟩ := nbA BK381 hg hb; replace BK381 := nBK; clear nBK; replace HB := nHB; clear nHB; clear hb hbox hg; have hnb21 := NB387_381.out; have hnc21 := NB381_387.out; have hcz22_0 := czZ BK387 0 (.bool false); have hcz22_1 := czZ BK387 1 (.int .u64 0); have hcz22_2 := czZ BK387 2 (.int .u64 0); have hfz22_0 := blk_frozen BK387.out 0; have hfz22_1 := blk_frozen BK387.out 1; have hfz22_2 := blk_frozen BK387.out 2) | ((with_reducible refine gate_callee (f := 50) rfl ?_); refine goesLA_ (some 36) rfl rfl Try.func50 rfl #[.agg #[.bool t382, .int .u64 t383, .int .u64 t384]] rfl ?_; (with_reducible refine (sawtoothref02_IntS.calls t382 t383 t384 t388 _ A10.out).mono ?_); rintro e w23 ⟨rfl, hb⟩; refine ⟨_, rfl, ?_⟩; replace BK381 := bfZ BK381 (fun h_ => by (with_reducible repeat first | apply blk_drewN | apply blk_drew | apply blk_alloc | refine farZ ?_ NB381_387 _); exact h_) hb; replace BK387 := Aside0.mk (blk_below (g := gb387) (o := .cells #[.bool t382, .int .u64 t383, .int .u64 t384] 60 (0, 0)) (by (with_reducible repeat (first | refine blk_drewN ?_ _ | refine blk_drew ?_ | refine blk_alloc ?_ _)); refine blk_put (cs := #[.bool t382, .int .u64 t383, .int .u64 0]) ?_ 2 _ rfl; (with_reducible repeat (first | refine blk_drewN ?_ _ | refine blk_drew ?_ | refine blk_alloc ?_ _)); refine blk_put (cs := #[.bool t382, .int .u64 0, .int .u64 0]) ?_ 1 _ rfl; (with_reducible repeat (first | refine blk_drewN ?_ _ | refine blk_drew ?_ | refine blk_alloc ?_ _)); refine blk_put (cs := #[.bool false, .int .u64 0, .int .u64 0]) ?_ 0 _ rfl; (with_reducible repeat (first | refine blk_drewN ?_ _ | refine blk_drew ?_ | refine blk_alloc ?_ _)); exact BK387.out) hb); replace HB := stA hb; (try clear hb); (try clear hb2); (try clear hk); (try clear hi)))
   replace BK381 := Aside0.mk (blk_drew BK381.out); replace BK387 := Aside0.mk (blk_drew BK387.out); replace HB := Aside0.mk (below_drew1 HB.out); refine start_ (n := 5) (S := fun w' => w'.cell? ⟨gb387, 0, none⟩ = some (.bool t382) ∧ w'.cell? ⟨gb387, 1, none⟩ = some (.int .u64 t383) ∧ w'.cell? ⟨gb387, 2, none⟩ = some (.int .u64 t384)) (ds := []) #[N,N,N,N,N] (by kernel_rfl) rfl rfl ⟨(blk_cell BK387.out 0).trans rfl, (blk_cell BK387.out 1).trans rfl, (blk_cell BK387.out 2).trans rfl⟩ (fun hHeld => ?_)
   generalize w23.drew = w24 at BK381 BK387 HB hHeld ⊢
   refine pure_ (i := 1) (N := some 38) (v := ?_) (a' := ?_) #[N,Y,N,N,N] rfl rfl (by kernel_rfl) (fun _ _ _ h => h) (Or.inl ⟨by rfl, ?_⟩) ?_ ?_; rotate_left
   ·intro w'; go_simp
    with_reducible rfl
   rotate_left
   ·simp only [Act.put, sA, sB, sC, i64_w, i32_w]
    rfl
   refine take_ (i := 0) (N := some 37) (v := ?_) (a' := ?_) #[Y,Y,N,N,N] rfl rfl (by kernel_rfl) (fun _ _ _ h => h) (Or.inl ⟨by rfl, ?_⟩) hHeld ?_ ?_; rotate_left
   ·rintro w' ⟨s0, s1, s2⟩; go_simp
    with_reducible rfl
   rotate_left
   ·simp only [Act.put, sA, sB, sC, i64_w, i32_w]
    rfl
   refine one_ (i := 2) (N := some 39) #[Y,Y,Y,N,N] rfl rfl (by kernel_rfl) (by decide) (fun K hK => ?_); refine goesA_ Try.func48 rfl #[.int .i64 t388] (by rfl) rfl rfl ?_
   with_reducible refine (sawtoothref02_OfS.calls t388 t389 t390 t391 _ A11.out).mono ?_
   rintro e w25 ⟨rfl, hb⟩; refine ⟨_, rfl, ?_⟩; replace BK381 := bbZ BK381 hb; replace BK387 := bbZ BK387 hb; replace HB := Aside0.mk (below_step HB.out hb); (try clear hb); (try clear hb2); (try clear hk); (try clear hi); refine hK.out _ _ ⟨(blk_cell BK387.out 0).trans rfl, (blk_cell BK387.out 1).trans rfl, (blk_cell BK387.out 2).trans rfl⟩ (fun hHeld => ?_); clear hK K; refine norm_ (a' := ?_) ?_ ?_; rotate_left
   ·show Act.put _ (some 39) _ = _
    simp only [Act.put, sA, sB, sC, i64_w, i32_w]
    rfl
   refine one_ (i := 3) (N := some 40) #[Y,Y,Y,Y,N] rfl rfl (by kernel_rfl) (by decide) (fun K hK => ?_); refine goesA_ Try.func51 rfl #[.agg #[.bool t382, .int .u64 t383, .int .u64 t384], .agg #[.bool t389, .int .u64 t390, .int .u64 t391]] (by rfl) rfl rfl ?_
   with_reducible refine (sawtoothref02_CmpS.calls t382 t383 t384 t389 t390 t391 t392 _ A12.out).mono ?_
   rintro e w26 ⟨rfl, hb⟩; refine ⟨_, rfl, ?_⟩; replace BK381 := bbZ BK381 hb; replace BK387 := bbZ BK387 hb; replace HB := Aside0.mk (below_step HB.out hb); (try clear hb); (try clear hb2); (try clear hk); (try clear hi); refine hK.out _ _ ⟨(blk_cell BK387.out 0).trans rfl, (blk_cell BK387.out 1).trans rfl, (blk_cell BK387.out 2).trans rfl⟩ (fun hHeld => ?_); clear hK K; refine norm_ (a' := ?_) ?_ ?_; rotate_left
   ·show Act.put _ (some 40) _ = _
    simp only [Act.put, sA, sB, sC, i64_w, i32_w]
    rfl
   refine pure_ (i := 4) (N := some 41) (v := ?_) (a' := ?_) #[Y,Y,Y,Y,Y] rfl rfl (by kernel_rfl) (fun _ _ _ h => h) (Or.inl ⟨by rfl, ?_⟩) ?_ ?_; rotate_left
   ·intro w'; go_simp
    with_reducible rfl
   rotate_left
   ·simp only [Act.put, sA, sB, sC, i64_w, i32_w]
    rfl
   refine done_ (by kernel_rfl) ?_
   try go_wp2
   go_ret2
   exact ⟨by first | rfl | (simp [errW_none, errW_some] <;> rfl) | (simp [*, errW_none, errW_some] <;> rfl), by repeat (first | (with_reducible first | exact HB.out | apply below_alloc | apply pw_below_drewN | apply below_drew1 | refine below_set ?_ (Aside0.out (by assumption))) | exact HB.out)⟩
  ·rw [if_neg c13] at H
   have c13b0 : (t392 == 0) = false := beq_eq_false_iff_ne.mpr c13; have c13b1 : (t392 != 0) = true := bne_iff_ne.mpr c13; simp only [Option.some.injEq, Prod.mk.injEq] at H; obtain ⟨rfl, rfl⟩ := H
   go_enter Try.func40, Try.ntmps40
   try go_wp2_with (first | ((with_reducible refine gate_callee (f := 47) rfl ?_); refine goesLA_ (some 21) rfl rfl Try.func47 rfl #[.int .i64 a0, .int .i64 a1] rfl ?_; (with_reducible refine (sawtoothref02_MulS.calls a0 a1 t371 t372 t373 _ A6.out).mono ?_); rintro e w27 ⟨rfl, hb⟩; refine ⟨_, rfl, ?_⟩; replace HB := stA hb; (try clear hb); (try clear hb2); (try clear hk); (try clear hi)) | ((with_reducible refine gate_callee (f := 48) rfl ?_); refine goesLA_ (some 23) rfl rfl Try.func48 rfl #[.int .i64 a3] rfl ?_; (with_reducible refine (sawtoothref02_OfS.calls a3 t374 t375 t376 _ A7.out).mono ?_); rintro e w28 ⟨rfl, hb⟩; refine ⟨_, rfl, ?_⟩; replace HB := stA hb; (try clear hb); (try clear hb2); (try clear hk); (try clear hi)) | ((with_reducible refine gate_callee (f := 46) rfl ?_); refine goesLA_ (some 24) rfl rfl Try.func46 rfl #[.agg #[.bool t371, .int .u64 t372, .int .u64 t373], .agg #[.bool t374, .int .u64 t375, .int .u64 t376]] rfl ?_; (with_reducible refine (sawtoothref02_AddS.calls t371 t372 t373 t374 t375 t376 t377 t378 t379 t380 _ A8.out).mono ?_); rintro e w29 ⟨rfl, hb⟩; refine ⟨_, rfl, ?_⟩; replace HB := stA hb; (try clear hb); (try clear hb2); (try clear hk); (try clear hi)) | ((with_reducible refine gate_dst (N := 10) rfl ?_); refine box_event ?hg (N := 10) ?hd (cs := #[.bool false, .int .u64 0, .int .u64 0]) (t := 60) ?hr ?_; (case hd => rfl); (case hg => rfl); (case hr => first | (go_simp; done) | (go_simp; rfl)); intro gb381 hg w30 hbox hb; have BK381 := Aside0.mk (hbox); obtain ⟨GW381, nHB⟩ := geA hg hb; have GE381 := GW381; replace HB := nHB; clear nHB; clear hb hbox hg; have hcz31_0 := czZ BK381 0 (.bool false); have hcz31_1 := czZ BK381 1 (.int .u64 0); have hcz31_2 := czZ BK381 2 (.int .u64 0); have hfz31_0 := blk_frozen BK381.out 0; have hfz31_1 := blk_frozen BK381.out 1; have hfz31_2 := blk_frozen BK381.out 2) | ((with_reducible refine gate_callee (f := 49) rfl ?_); refine goesLA_ (some 31) rfl rfl Try.func49 rfl #[.agg #[.bool t377, .int .u64 t378, .int .u64 t379], .int .u64 (IntKind.u64.wrap (a2))] rfl ?_; (with_reducible refine (sawtoothref02_DivS.calls t377 t378 t379 (IntKind.u64.wrap (a2)) t382 t383 t384 t385 t386 _ A9.out).mono ?_); rintro e w32 ⟨rfl, hb⟩; refine ⟨_, rfl, ?_⟩; replace BK381 := Aside0.mk (blk_below (g := gb381) (o := .cells #[.bool t377, .int .u64 t378, .int .u64 t379] 60 (0, 0)) (by (with_reducible repeat (first | refine blk_drewN ?_ _ | refine blk_drew ?_ | refine blk_alloc ?_ _)); refine blk_put (cs := #[.bool t377, .int .u64 t378, .int .u64 0]) ?_ 2 _ rfl; (with_reducible repeat (first | refine blk_drewN ?_ _ | refine blk_drew ?_ | refine blk_alloc ?_ _)); refine blk_put (cs := #[.bool t377, .int .u64 0, .int .u64 0]) ?_ 1 _ rfl; (with_reducible repeat (first | refine blk_drewN ?_ _ | refine blk_drew ?_ | refine blk_alloc ?_ _)); refine blk_put (cs := #[.bool false, .int .u64 0, .int .u64 0]) ?_ 0 _ rfl; (with_reducible repeat (first | refine blk_drewN ?_ _ | refine blk_drew ?_ | refine blk_alloc ?_ _)); exact BK381.out) hb); replace HB := stA hb; (try clear hb); (try clear hb2); (try clear hk); (try clear hi)) | ((with_reducible refine gate_dst (N := 12) rfl ?_); refine box_event ?hg (N := 12) ?hd (cs := #[.bool false, .int .u64 0, .int .u64 0]) (t := 60) ?hr ?_; (case hd => rfl); (case hg => rfl); (case hr => first | (go_simp; done) | (go_simp; rfl)); intro gb387 hg w33 hbox hb; have BK387 := Aside0.mk (hbox); obtain ⟨GW387, nHB⟩ := geA hg hb; have GE387 := GW387; obtain ⟨NB381_387, NB387_381, nBK⟩ := nbA BK381 hg hb; replace BK381 := nBK; clear nBK; replace HB := nHB; clear nHB; clear hb hbox hg; have hnb34 := NB387_381.out; have hnc34 := NB381_387.out; have hcz35_0 := czZ BK387 0 (.bool false); have hcz35_1 := czZ BK387 1 (.int .u64 0); have hcz35_2 := czZ BK387 2 (.int .u64 0); have hfz35_0 := blk_frozen BK387.out 0; have hfz35_1 := blk_frozen BK387.out 1; have hfz35_2 := blk_frozen BK387.out 2) | ((with_reducible refine gate_callee (f := 50) rfl ?_); refine goesLA_ (some 36) rfl rfl Try.func50 rfl #[.agg #[.bool t382, .int .u64 t383, .int .u64 t384]] rfl ?_; (with_reducible refine (sawtoothref02_IntS.calls t382 t383 t384 t388 _ A10.out).mono ?_); rintro e w36 ⟨rfl, hb⟩; refine ⟨_, rfl, ?_⟩; replace BK381 := bfZ BK381 (fun h_ => by (with_reducible repeat first | apply blk_drewN | apply blk_drew | apply blk_alloc | refine farZ ?_ NB381_387 _); exact h_) hb; replace BK387 := Aside0.mk (blk_below (g := gb387) (o := .cells #[.bool t382, .int .u64 t383, .int .u64 t384] 60 (0, 0)) (by (with_reducible repeat (first | refine blk_drewN ?_ _ | refine blk_drew ?_ | refine blk_alloc ?_ _)); refine blk_put (cs := #[.bool t382, .int .u64 t383, .int .u64 0]) ?_ 2 _ rfl; (with_reducible repeat (first | refine blk_drewN ?_ _ | refine blk_drew ?_ | refine blk_alloc ?_ _)); refine blk_put (cs := #[.bool t382, .int .u64 0, .int .u64 0]) ?_ 1 _ rfl; (with_reducible repeat (first | refine blk_drewN ?_ _ | refine blk_drew ?_ | refine blk_alloc ?_ _)); refine blk_put (cs := #[.bool false, .int .u64 0, .int .u64 0]) ?_ 0 _ rfl; (with_reducible repeat (first | refine blk_drewN ?_ _ | refine blk_drew ?_ | refine blk_alloc ?_ _)); exact BK387.out) hb); replace HB := stA hb; (try clear hb); (try clear hb2); (try clear hk); (try clear hi)))
   replace BK381 := Aside0.mk (blk_drew BK381.out); replace BK387 := Aside0.mk (blk_drew BK387.out); replace HB := Aside0.mk (below_drew1 HB.out); refine start_ (n := 5) (S := fun w' => w'.cell? ⟨gb387, 0, none⟩ = some (.bool t382) ∧ w'.cell? ⟨gb387, 1, none⟩ = some (.int .u64 t383) ∧ w'.cell? ⟨gb387, 2, none⟩ = some (.int .u64 t384)) (ds := []) #[N,N,N,N,N] (by kernel_rfl) rfl rfl ⟨(blk_cell BK387.out 0).trans rfl, (blk_cell BK387.out 1).trans rfl, (blk_cell BK387.out 2).trans rfl⟩ (fun hHeld => ?_)
   generalize w36.drew = w37 at BK381 BK387 HB hHeld ⊢
   refine pure_ (i := 1) (N := some 38) (v := ?_) (a' := ?_) #[N,Y,N,N,N] rfl rfl (by kernel_rfl) (fun _ _ _ h => h) (Or.inl ⟨by rfl, ?_⟩) ?_ ?_; rotate_left
   ·intro w'; go_simp
    with_reducible rfl
   rotate_left
   ·simp only [Act.put, sA, sB, sC, i64_w, i32_w]
    rfl
   refine take_ (i := 0) (N := some 37) (v := ?_) (a' := ?_) #[Y,Y,N,N,N] rfl rfl (by kernel_rfl) (fun _ _ _ h => h) (Or.inl ⟨by rfl, ?_⟩) hHeld ?_ ?_; rotate_left
   ·rintro w' ⟨s0, s1, s2⟩; go_simp
    with_reducible rfl
   rotate_left
   ·simp only [Act.put, sA, sB, sC, i64_w, i32_w]
    rfl
   refine one_ (i := 2) (N := some 39) #[Y,Y,Y,N,N] rfl rfl (by kernel_rfl) (by decide) (fun K hK => ?_); refine goesA_ Try.func48 rfl #[.int .i64 t388] (by rfl) rfl rfl ?_
   with_reducible refine (sawtoothref02_OfS.calls t388 t389 t390 t391 _ A11.out).mono ?_
   rintro e w38 ⟨rfl, hb⟩; refine ⟨_, rfl, ?_⟩; replace BK381 := bbZ BK381 hb; replace BK387 := bbZ BK387 hb; replace HB := Aside0.mk (below_step HB.out hb); (try clear hb); (try clear hb2); (try clear hk); (try clear hi); refine hK.out _ _ ⟨(blk_cell BK387.out 0).trans rfl, (blk_cell BK387.out 1).trans rfl, (blk_cell BK387.out 2).trans rfl⟩ (fun hHeld => ?_); clear hK K; refine norm_ (a' := ?_) ?_ ?_; rotate_left
   ·show Act.put _ (some 39) _ = _
    simp only [Act.put, sA, sB, sC, i64_w, i32_w]
    rfl
   refine one_ (i := 3) (N := some 40) #[Y,Y,Y,Y,N] rfl rfl (by kernel_rfl) (by decide) (fun K hK => ?_); refine goesA_ Try.func51 rfl #[.agg #[.bool t382, .int .u64 t383, .int .u64 t384], .agg #[.bool t389, .int .u64 t390, .int .u64 t391]] (by rfl) rfl rfl ?_
   with_reducible refine (sawtoothref02_CmpS.calls t382 t383 t384 t389 t390 t391 t392 _ A12.out).mono ?_
   rintro e w39 ⟨rfl, hb⟩; refine ⟨_, rfl, ?_⟩; replace BK381 := bbZ BK381 hb; replace BK387 := bbZ BK387 hb; replace HB := Aside0.mk (below_step HB.out hb); (try clear hb); (try clear hb2); (try clear hk); (try clear hi); refine hK.out _ _ ⟨(blk_cell BK387.out 0).trans rfl, (blk_cell BK387.out 1).trans rfl, (blk_cell BK387.out 2).trans rfl⟩ (fun hHeld => ?_); clear hK K; refine norm_ (a' := ?_) ?_ ?_; rotate_left
   ·show Act.put _ (some 40) _ = _
    simp only [Act.put, sA, sB, sC, i64_w, i32_w]
    rfl
   refine pure_ (i := 4) (N := some 41) (v := ?_) (a' := ?_) #[Y,Y,Y,Y,Y] rfl rfl (by kernel_rfl) (fun _ _ _ h => h) (Or.inl ⟨by rfl, ?_⟩) ?_ ?_; rotate_left
   ·intro w'; go_simp
    with_reducible rfl
   rotate_left
   ·simp only [Act.put, sA, sB, sC, i64_w, i32_w]
    rfl
   refine done_ (by kernel_rfl) ?_
   try go_wp2
   go_ret2
   exact ⟨by first | rfl | (simp [errW_none, errW_some] <;> rfl) | (simp [*, errW_none, errW_some] <;> rfl), by repeat (first | (with_reducible first | exact HB.out | apply below_alloc | apply pw_below_drewN | apply below_drew1 | refine below_set ?_ (Aside0.out (by assumption))) | exact HB.out)⟩

/-! ### sawtoothref04_partS: a part of a product, and some more: pure, behind function 40 -/
noncomputable def sawtoothref04_partS.f (a b c d : Int) : Option (Int × Int) := Go.Proofs.Ytepmnfjcmppghaa.Sp.need (Go.Proofs.Ytepmnfjcmppghaa.Sp.I a ∧ Go.Proofs.Ytepmnfjcmppghaa.Sp.I b ∧ Go.Proofs.Ytepmnfjcmppghaa.Sp.I c ∧ Go.Proofs.Ytepmnfjcmppghaa.Sp.I d) (if c < 1 then some (0, 20) else Go.Proofs.Ytepmnfjcmppghaa.Sp.fit ((a * b + d) / c))
section Ref04Part
open Go.Proofs.Ytepmnfjcmppghaa.Sp
theorem sawtoothref04_partS.eq {a b c d : Int} (h1 : I a) (h2 : I b) (h3 : I c) (h4 : I d) : sawtoothref04_partS.f a b c d = if c < 1 then some (0, 20) else fit ((a * b + d) / c) := need_pos ⟨h1, h2, h3, h4⟩
theorem sawtoothref04_part.main {a b c d : Int} (h1 : I a) (h2 : I b) (h3 : I c) (h4 : I d) : sawtoothref04_part.f a b c d = if c < 1 then some (0, 20) else fit ((a * b + d) / c) := by
 unfold sawtoothref04_part.f sawtoothref02_MulS.f sawtoothref02_OfS.f sawtoothref02_AddS.f sawtoothref02_DivS.f sawtoothref02_IntS.f sawtoothref02_CmpS.f
 by_cases hc : c < 1
 ·rw [if_pos hc, if_pos hc]
 have m := mulI h1 h2
 rw [if_neg hc, if_neg hc, mulF_eq h1 h2, ofF_eq h4]
 simp only [Option.bind_some]
 rw [addF_enc (by omega) (by omega), held_in (by omega), u64w_in (x := c) (by omega)]
 simp only [Option.bind_some]
 have hB : B (a * b + d) := by omega
 rw [divF_enc hB (by omega), quo_pos (by omega)]
 simp only [Option.bind_some]; have hq := div_B hB (show 0 < c by omega)
 generalize (a * b + d) / c = q at *
 rw [intF_enc hq]
 simp only [Option.bind_some]
 rw [ofF_eq (near_I _)]
 simp only [Option.bind_some]
 rw [cmpF_enc hq (I_B (near_I _))]
 simp only [Option.bind_some]
 unfold fit
 by_cases hi : I q
 ·rw [near_in hi, cmpI_eq rfl, if_pos rfl, if_pos hi]
 ·rw [if_neg hi, if_neg]
  unfold cmpI near
  split
  ·omega
  ·split
   ·have := near_I q; unfold near at this; split at * <;> (try split at *) <;> omega
   ·omega
end Ref04Part
theorem sawtoothref04_partS.calls (a b c d r1 r2 : Int) (w : World) (h : sawtoothref04_partS.f a b c d = some (r1, r2)) :
  Calls Try.prog 40 #[.int .i64 a, .int .i64 b, .int .i64 c, .int .i64 d] w fun e w' => e = .returned (.tuple #[.int .i64 r1, .int .i64 r2]) ∧ Below w.heap.size w w' := by
 obtain ⟨⟨h1, h2, h3, h4⟩, h⟩ := Go.Proofs.Ytepmnfjcmppghaa.Sp.need_some h; exact sawtoothref04_part.calls a b c d r1 r2 w (by rw [sawtoothref04_part.main h1 h2 h3 h4]; exact h)

/-! ### sawtoothref04_Floor: function 32 -/
noncomputable def sawtoothref04_Floor.f (a0 : Int) (a1 : Int) (a2 : Int) : Option (Int × Int) := (sawtoothref04_partS.f a0 a1 a2 0).bind fun bt393 => (some (bt393.1, bt393.2))
set_option maxHeartbeats 8000000 in
set_option maxRecDepth 100000 in
theorem sawtoothref04_Floor.calls (a0 : Int) (a1 : Int) (a2 : Int) (r1 : Int) (r2 : Int) (w : World) (h : sawtoothref04_Floor.f a0 a1 a2 = some (r1, r2)) :
  Calls Try.prog 32 #[.int .i64 a0, .int .i64 a1, .int .i64 a2] w fun e w' => e = .returned (.tuple #[.int .i64 r1, .int .i64 r2]) ∧ Below w.heap.size w w' := by
 have HB := Aside0.mk (Below.refl w.heap.size w); have H : ((sawtoothref04_partS.f a0 a1 a2 0).bind fun bt393 => (some (bt393.1, bt393.2))) = some (r1, r2) := h; clear h; replace H := Option.bind_eq_some_iff.mp H; obtain ⟨⟨t393, t394⟩, A40, H⟩ := H; replace H : (some (t393, t394)) = some (r1, r2) := H; have A4 := Aside0.mk A40; clear A40; simp only [Option.some.injEq, Prod.mk.injEq] at H; obtain ⟨rfl, rfl⟩ := H
 go_enter Try.func32, Try.ntmps32
 go_wp2_with (first | ((with_reducible refine gate_callee (f := 40) rfl ?_); refine goesLA_ (some 11) rfl rfl Try.func40 rfl #[.int .i64 a0, .int .i64 a1, .int .i64 a2, .int .i64 0] rfl ?_; (with_reducible refine (sawtoothref04_partS.calls a0 a1 a2 0 t393 t394 _ A4.out).mono ?_); rintro e w5 ⟨rfl, hb⟩; refine ⟨_, rfl, ?_⟩; replace HB := stA hb; (try clear hb); (try clear hb2); (try clear hk); (try clear hi)))
 go_ret2
 exact ⟨by first | rfl | (simp [errW_none, errW_some] <;> rfl) | (simp [*, errW_none, errW_some] <;> rfl), by repeat (first | (with_reducible first | exact HB.out | apply below_alloc | apply pw_below_drewN | apply below_drew1) | exact HB.out)⟩

/-! ### sawtoothref04_FloorS: a part of a product, from below: pure, behind function 32 -/
noncomputable def sawtoothref04_FloorS.f (a b c : Int) : Option (Int × Int) := Go.Proofs.Ytepmnfjcmppghaa.Sp.need (Go.Proofs.Ytepmnfjcmppghaa.Sp.I a ∧ Go.Proofs.Ytepmnfjcmppghaa.Sp.I b ∧ Go.Proofs.Ytepmnfjcmppghaa.Sp.I c) (Go.Proofs.Ytepmnfjcmppghaa.Sp.floorQ a b c)
section
open Go.Proofs.Ytepmnfjcmppghaa.Sp
theorem sawtoothref04_FloorS.eq {a b c : Int} (h1 : I a) (h2 : I b) (h3 : I c) : sawtoothref04_FloorS.f a b c = floorQ a b c := need_pos ⟨h1, h2, h3⟩
theorem sawtoothref04_Floor.main {a b c : Int} (h1 : I a) (h2 : I b) (h3 : I c) : sawtoothref04_Floor.f a b c = floorQ a b c := by
 unfold sawtoothref04_Floor.f
 rw [sawtoothref04_partS.eq h1 h2 h3 (by omega)]
 rw [show ∀ x : Option (Int × Int), (x.bind fun bt => some (bt.1, bt.2)) = x from fun x => by cases x <;> rfl]
 unfold floorQ; rw [Int.add_zero]
end
theorem sawtoothref04_FloorS.calls (a b c r1 r2 : Int) (w : World) (h : sawtoothref04_FloorS.f a b c = some (r1, r2)) :
  Calls Try.prog 32 #[.int .i64 a, .int .i64 b, .int .i64 c] w fun e w' => e = .returned (.tuple #[.int .i64 r1, .int .i64 r2]) ∧ Below w.heap.size w w' := by
 obtain ⟨⟨h1, h2, h3⟩, h⟩ := Go.Proofs.Ytepmnfjcmppghaa.Sp.need_some h; exact sawtoothref04_Floor.calls a b c r1 r2 w (by rw [sawtoothref04_Floor.main h1 h2 h3]; exact h)

/-! ### sawtoothref01_Clamp: function 38 -/
noncomputable def sawtoothref01_Clamp.f (a0 : Int) (a1 : Int) (a2 : Int) : Option (Int) := if a0 < a1 then (some a1) else (if a0 > a2 then (some a2) else (some a0))
set_option maxHeartbeats 8000000 in
set_option maxRecDepth 100000 in
theorem sawtoothref01_Clamp.calls (a0 : Int) (a1 : Int) (a2 : Int) (r : Int) (w : World) (h : sawtoothref01_Clamp.f a0 a1 a2 = some r) :
  Calls Try.prog 38 #[.int .i64 a0, .int .i64 a1, .int .i64 a2] w fun e w' => e = .returned (.int .i64 r) ∧ Drawn0 w w' := by
 have H : (if a0 < a1 then (some a1) else (if a0 > a2 then (some a2) else (some a0))) = some r := h; clear h
 by_cases c4 : a0 < a1
 ·rw [if_pos c4] at H
  have c4b0 : decide (a0 < a1) = true := decide_eq_true c4; clear c4; obtain rfl := Option.some.inj H
  go_enter Try.func38, Try.ntmps38
  go_wp2
  go_ret
  exact ⟨by first | rfl | (simp; done) | (simp [*]; done), by repeat (first | exact Drawn0.refl _ | apply Drawn0.step)⟩
 ·rw [if_neg c4] at H
  have c4b0 : decide (a0 < a1) = false := decide_eq_false c4; clear c4
  by_cases c5 : a0 > a2
  ·rw [if_pos c5] at H
   have c5b0 : decide (a2 < a0) = true := decide_eq_true c5; clear c5; obtain rfl := Option.some.inj H
   go_enter Try.func38, Try.ntmps38
   go_wp2
   go_ret
   exact ⟨by first | rfl | (simp; done) | (simp [*]; done), by repeat (first | exact Drawn0.refl _ | apply Drawn0.step)⟩
  ·rw [if_neg c5] at H
   have c5b0 : decide (a2 < a0) = false := decide_eq_false c5; clear c5; obtain rfl := Option.some.inj H
   go_enter Try.func38, Try.ntmps38
   go_wp2
   go_ret
   exact ⟨by first | rfl | (simp; done) | (simp [*]; done), by repeat (first | exact Drawn0.refl _ | apply Drawn0.step)⟩

/-! ### sawtoothref13_Step: function 24 -/
noncomputable def sawtoothref13_Step.j0 : Nat → Int → Int → Int → Int → Int → Option (Int)
 | 0, _, _, _, _, _ => none
 | k + 1, x0, x2, x3, x9, x10 => (sawtoothref01_Clamp.f x2 65536 68719476736).bind fun t395 => ((sawtoothref01_Clamp.f x3 0 68719476736).bind fun t396 => ((sawtoothref04_FloorS.f (wrap64 (x9 * t396)) 65536 (wrap64 (x10 * t395))).bind fun bt397 => ((sawtoothref01_Clamp.f x0 0 68719476736).bind fun t399 => ((sawtoothref01_Clamp.f (wrap64 (t399 + bt397.1)) 0 68719476736).bind fun t400 => (some t400)))))
noncomputable def sawtoothref13_Step.f (k : Nat) (a0 : Int) (a1 : Int) (a2 : Int) (a3 : Int) : Option (Int) := if a0 < a1 then (sawtoothref13_Step.j0 k a0 a2 a3 9 17) else (sawtoothref13_Step.j0 k a0 a2 a3 1 1)
theorem sawtoothref13_Step.mono_l : ∀ k, (∀ y0 y1 y2 y3 y4, LeO (sawtoothref13_Step.j0 k y0 y1 y2 y3 y4) (sawtoothref13_Step.j0 (k + 1) y0 y1 y2 y3 y4))
 | 0 => fun _ _ _ _ _ r h => by simp [sawtoothref13_Step.j0] at h
 | k + 1 => by
  have ih0 := sawtoothref13_Step.mono_l k
  ·intro y0 y1 y2 y3 y4
   unfold sawtoothref13_Step.j0
   repeat' first
   | (with_reducible exact ih0 _ _ _ _ _)
   | (with_reducible exact LeO.refl _)
   | (with_reducible exact LeO.none _)
   | (with_reducible refine LeO.ite ?_ ?_)
   | (with_reducible refine LeO.bind ?_ (fun _ => ?_))
   | exact ih0 _ _ _ _ _
   | exact LeO.none _
   | refine LeO.ite ?_ ?_
   | refine LeO.bind ?_ (fun _ => ?_)
theorem sawtoothref13_Step.mono : ∀ a0 a1 a2 a3 k, LeO (sawtoothref13_Step.f k a0 a1 a2 a3) (sawtoothref13_Step.f (k + 1) a0 a1 a2 a3) := by
 intro a0 a1 a2 a3 k; have ih0 := sawtoothref13_Step.mono_l k
 unfold sawtoothref13_Step.f
 repeat' first
   | (with_reducible exact ih0 _ _ _ _ _)
   | (with_reducible exact LeO.refl _)
   | (with_reducible exact LeO.none _)
   | (with_reducible refine LeO.ite ?_ ?_)
   | (with_reducible refine LeO.bind ?_ (fun _ => ?_))
   | exact ih0 _ _ _ _ _
   | exact LeO.none _
   | refine LeO.ite ?_ ?_
   | refine LeO.bind ?_ (fun _ => ?_)
set_option maxHeartbeats 8000000 in
set_option maxRecDepth 100000 in
theorem sawtoothref13_Step.calls (k : Nat) (a0 : Int) (a1 : Int) (a2 : Int) (a3 : Int) (r : Int) (w : World) (h : sawtoothref13_Step.f k a0 a1 a2 a3 = some r) :
  Calls Try.prog 24 #[.int .i64 a0, .int .i64 a1, .int .i64 a2, .int .i64 a3] w fun e w' => e = .returned (.int .i64 r) ∧ Below w.heap.size w w' := by
 have HB := Aside0.mk (Below.refl w.heap.size w); have H : (if a0 < a1 then (sawtoothref13_Step.j0 k a0 a2 a3 9 17) else (sawtoothref13_Step.j0 k a0 a2 a3 1 1)) = some r := h; clear h; have HC5 := Aside0.mk H; clear H
 go_enter Try.func24, Try.ntmps24
 go_upto_if 17 with (fail)
 go_cut [9, 10] (fun v9 v10 wc => ∃ (kq : Nat) (x9_4 : Int) (x10_4 : Int), v9 = .int .i64 x9_4 ∧ v10 = .int .i64 x10_4 ∧ Aside0 (sawtoothref13_Step.j0 kq a0 a2 a3 x9_4 x10_4 = some r) ∧ Aside0 (kq ≤ k) ∧ Aside0 (Below w.heap.size w wc))
 case first =>
  have H := HC5.out; clear HC5
  by_cases c6 : a0 < a1
  ·rw [if_pos c6] at H
   have c6b0 : decide (a0 < a1) = true := decide_eq_true c6; clear c6
   (first | rw [c6b0] | (simp only [i64_w, i32_w]; rw [c6b0]) | skip)
   have H' := Aside0.mk H; clear H
   go_wp2
   go_meet
   case rel => exact ⟨_, (9), (17), (by first | rfl | (simp; done) | (simp [*]; done)), (by first | rfl | (simp; done) | (simp [*]; done)), H', ⟨by first | omega | exact Nat.le_refl _⟩, ⟨by repeat (first | (with_reducible first | exact HB.out | apply below_alloc | apply pw_below_drewN | apply below_drew1) | exact HB.out)⟩⟩
  ·rw [if_neg c6] at H
   have c6b0 : decide (a0 < a1) = false := decide_eq_false c6; clear c6
   (first | rw [c6b0] | (simp only [i64_w, i32_w]; rw [c6b0]) | skip)
   have H' := Aside0.mk H; clear H
   go_wp2
   go_meet
   case rel => exact ⟨_, (1), (1), (by first | rfl | (simp; done) | (simp [*]; done)), (by first | rfl | (simp; done) | (simp [*]; done)), H', ⟨by first | omega | exact Nat.le_refl _⟩, ⟨by repeat (first | (with_reducible first | exact HB.out | apply below_alloc | apply pw_below_drewN | apply below_drew1) | exact HB.out)⟩⟩
 case rest =>
  clear HC5
  try clear c2
  try clear p2
  try clear c6
  try clear c6b0
  obtain ⟨kq, x9_4, x10_4, rfl, rfl, HA, HJ4, HB⟩ := hcut
  cases kq with
  | zero => exact absurd HA.out (by simp [sawtoothref13_Step.j0])
  | succ kj4 =>
   have H := HA.out; clear HA; simp only [sawtoothref13_Step.j0] at H; replace H := Option.bind_eq_some_iff.mp H; obtain ⟨t395, A70, H⟩ := H; (try dsimp only at H); have A7 := Aside0.mk A70; clear A70; replace H := Option.bind_eq_some_iff.mp H; obtain ⟨t396, A80, H⟩ := H; (try dsimp only at H); have A8 := Aside0.mk A80; clear A80; replace H := Option.bind_eq_some_iff.mp H; obtain ⟨⟨t397, t398⟩, A90, H⟩ := H; replace H : ((sawtoothref01_Clamp.f a0 0 68719476736).bind fun t399 => ((sawtoothref01_Clamp.f (wrap64 (t399 + t397)) 0 68719476736).bind fun t400 => (some t400))) = some r := H; have A9 := Aside0.mk A90; clear A90; replace H := Option.bind_eq_some_iff.mp H; obtain ⟨t399, A100, H⟩ := H; replace H : ((sawtoothref01_Clamp.f (wrap64 (t399 + t397)) 0 68719476736).bind fun t400 => (some t400)) = some r := H; have A10 := Aside0.mk A100; clear A100; replace H := Option.bind_eq_some_iff.mp H; obtain ⟨t400, A110, H⟩ := H; replace H : (some t400) = some r := H; have A11 := Aside0.mk A110; clear A110; obtain rfl := Option.some.inj H
   go_wp2_with (first | ((with_reducible refine gate_callee (f := 38) rfl ?_); refine goesLA_ (some 19) rfl rfl Try.func38 rfl #[.int .i64 a2, .int .i64 65536, .int .i64 68719476736] rfl ?_; (with_reducible refine (sawtoothref01_Clamp.calls a2 65536 68719476736 t395 _ A7.out).mono ?_); rintro e w' ⟨rfl, ⟨nd, rfl⟩⟩; refine ⟨_, rfl, ?_⟩) | ((with_reducible refine gate_callee (f := 38) rfl ?_); refine goesLA_ (some 21) rfl rfl Try.func38 rfl #[.int .i64 a3, .int .i64 0, .int .i64 68719476736] rfl ?_; (with_reducible refine (sawtoothref01_Clamp.calls a3 0 68719476736 t396 _ A8.out).mono ?_); rintro e w' ⟨rfl, ⟨nd, rfl⟩⟩; refine ⟨_, rfl, ?_⟩) | ((with_reducible refine gate_callee (f := 32) rfl ?_); refine goesLA_ (some 29) rfl rfl Try.func32 rfl #[.int .i64 (wrap64 (x9_4 * t396)), .int .i64 65536, .int .i64 (wrap64 (x10_4 * t395))] rfl ?_; (with_reducible refine (sawtoothref04_FloorS.calls (wrap64 (x9_4 * t396)) 65536 (wrap64 (x10_4 * t395)) t397 t398 _ A9.out).mono ?_); rintro e w12 ⟨rfl, hb⟩; refine ⟨_, rfl, ?_⟩; replace HB := stA hb; (try clear hb); (try clear hb2); (try clear hk); (try clear hi)) | ((with_reducible refine gate_callee (f := 38) rfl ?_); refine goesLA_ (some 33) rfl rfl Try.func38 rfl #[.int .i64 a0, .int .i64 0, .int .i64 68719476736] rfl ?_; (with_reducible refine (sawtoothref01_Clamp.calls a0 0 68719476736 t399 _ A10.out).mono ?_); rintro e w' ⟨rfl, ⟨nd, rfl⟩⟩; refine ⟨_, rfl, ?_⟩) | ((with_reducible refine gate_callee (f := 38) rfl ?_); refine goesLA_ (some 36) rfl rfl Try.func38 rfl #[.int .i64 (wrap64 (t399 + t397)), .int .i64 0, .int .i64 68719476736] rfl ?_; (with_reducible refine (sawtoothref01_Clamp.calls (wrap64 (t399 + t397)) 0 68719476736 t400 _ A11.out).mono ?_); rintro e w' ⟨rfl, ⟨nd, rfl⟩⟩; refine ⟨_, rfl, ?_⟩))
   go_ret
   exact ⟨by first | rfl | (simp [errW_none, errW_some] <;> rfl) | (simp [*, errW_none, errW_some] <;> rfl), by repeat (first | (with_reducible first | exact HB.out | apply below_alloc | apply pw_below_drewN | apply below_drew1) | exact HB.out)⟩

/-! ### sawtoothref13_StepS: a window of the old law behind what was told: pure, behind function 24 -/
noncomputable def sawtoothref13_StepS.f (a b c d : Int) : Option Int := Go.Proofs.Ytepmnfjcmppghaa.Sp.need (Go.Proofs.Ytepmnfjcmppghaa.Sp.I a ∧ Go.Proofs.Ytepmnfjcmppghaa.Sp.I b ∧ Go.Proofs.Ytepmnfjcmppghaa.Sp.I c ∧ Go.Proofs.Ytepmnfjcmppghaa.Sp.I d) (some (Go.Proofs.Ytepmnfjcmppghaa.Sp.stepQ a b c d))
section
open Go.Proofs.Ytepmnfjcmppghaa.Sp
theorem sawtoothref13_StepS.eq {a b c d : Int} (h1 : I a) (h2 : I b) (h3 : I c) (h4 : I d) : sawtoothref13_StepS.f a b c d = some (stepQ a b c d) := need_pos ⟨h1, h2, h3, h4⟩
theorem sawtoothref13_Step.main {a b c d : Int} (h1 : I a) (h2 : I b) (h3 : I c) (h4 : I d) : sawtoothref13_Step.f 1 a b c d = some (stepQ a b c d) := by
 have ec : ∀ x l u : Int, sawtoothref01_Clamp.f x l u = some (clamp x l u) := by
  intro x l u; unfold sawtoothref01_Clamp.f clamp; split
  ·rfl
  ·split <;> rfl
 unfold sawtoothref13_Step.f stepQ
 simp only [sawtoothref13_Step.j0, ec, Option.bind_some]; have b1 := clamp_bd (a := a) (low := 0) (high := 68719476736) (by omega); have b2 := clamp_bd (a := c) (low := 65536) (high := 68719476736) (by omega); have b3 := clamp_bd (a := d) (low := 0) (high := 68719476736) (by omega)
 generalize clamp a 0 68719476736 = x at b1 ⊢
 generalize clamp c 65536 68719476736 = y at b2 ⊢
 generalize clamp d 0 68719476736 = z at b3 ⊢
 have fin : ∀ p q : Int, 1 ≤ p → p ≤ 9 → 1 ≤ q → q ≤ 17 → ((sawtoothref04_FloorS.f (wrap64 (p * z)) 65536 (wrap64 (q * y))).bind fun bt => some (clamp (wrap64 (x + bt.1)) 0 68719476736)) = some (clamp (x + z * p * 65536 / (y * q)) 0 68719476736) := by
  intro p q hp1 hp2 hq1 hq2; have m1 : 0 ≤ z * p := Int.mul_nonneg (by omega) (by omega); have m2 : z * p ≤ 68719476736 * 9 := Int.mul_le_mul (by omega) (by omega) (by omega) (by omega); have m3 : 65536 * 1 ≤ y * q := Int.mul_le_mul (by omega) (by omega) (by omega) (by omega); have m4 : y * q ≤ 68719476736 * 17 := Int.mul_le_mul (by omega) (by omega) (by omega) (by omega)
  rw [Int.mul_comm p z, Int.mul_comm q y]
  generalize z * p = u at *
  generalize y * q = v at *
  have d1 : 0 ≤ u * 65536 / v := Int.ediv_nonneg (by omega) (by omega)
  have d2 : u * 65536 / v ≤ u := by
   apply Int.ediv_le_of_le_mul (by omega)
   exact Int.mul_le_mul_of_nonneg_left (by omega) (by omega)
  rw [w64 (x := u) (by omega), w64 (x := v) (by omega), sawtoothref04_FloorS.eq (by omega) (by omega) (by omega), floorQ_in (by omega) (by omega)]
  simp only [Option.bind_some]
  rw [w64 (by omega)]
 by_cases cc : a < b
 ·simp only [if_pos cc]; exact fin 9 17 (by omega) (by omega) (by omega) (by omega)
 ·simp only [if_neg cc]; exact fin 1 1 (by omega) (by omega) (by omega) (by omega)
end
theorem sawtoothref13_StepS.calls (a b c d r1 : Int) (w : World) (h : sawtoothref13_StepS.f a b c d = some r1) :
  Calls Try.prog 24 #[.int .i64 a, .int .i64 b, .int .i64 c, .int .i64 d] w fun e w' => e = .returned (.int .i64 r1) ∧ Below w.heap.size w w' := by
 obtain ⟨⟨h1, h2, h3, h4⟩, h⟩ := Go.Proofs.Ytepmnfjcmppghaa.Sp.need_some h; exact sawtoothref13_Step.calls 1 a b c d r1 w (by rw [sawtoothref13_Step.main h1 h2 h3 h4]; exact h)

/-! ### sawtoothref13_Steps: function 26 -/
noncomputable def sawtoothref13_Steps.l0 : Nat → Int → Int → Int → List Int → Int → Option (Int)
 | 0, _, _, _, _, _ => none
 | k + 1, x0, x1, x2, x3, x9 => if x9 < (x3.length : Int) then (if 0 ≤ x9 then ((sawtoothref13_StepS.f x0 x1 x2 (rd x3 x9)).bind fun t402 => (sawtoothref13_Steps.l0 k t402 x1 x2 x3 (wrap64 (x9 + 1)))) else (none)) else (some x0)
noncomputable def sawtoothref13_Steps.f (k : Nat) (a0 : Int) (a1 : Int) (a2 : Int) (l3 : List Int) : Option (Int) := sawtoothref13_Steps.l0 k a0 a1 a2 l3 0
theorem sawtoothref13_Steps.mono_l : ∀ k, (∀ y0 y1 y2 y3 y4, LeO (sawtoothref13_Steps.l0 k y0 y1 y2 y3 y4) (sawtoothref13_Steps.l0 (k + 1) y0 y1 y2 y3 y4))
 | 0 => fun _ _ _ _ _ r h => by simp [sawtoothref13_Steps.l0] at h
 | k + 1 => by
  have ih0 := sawtoothref13_Steps.mono_l k
  ·intro y0 y1 y2 y3 y4
   unfold sawtoothref13_Steps.l0
   repeat' first
   | (with_reducible exact ih0 _ _ _ _ _)
   | (with_reducible exact LeO.refl _)
   | (with_reducible exact LeO.none _)
   | (with_reducible refine LeO.ite ?_ ?_)
   | (with_reducible refine LeO.bind ?_ (fun _ => ?_))
   | exact ih0 _ _ _ _ _
   | exact LeO.none _
   | refine LeO.ite ?_ ?_
   | refine LeO.bind ?_ (fun _ => ?_)
theorem sawtoothref13_Steps.mono : ∀ a0 a1 a2 a3 k, LeO (sawtoothref13_Steps.f k a0 a1 a2 a3) (sawtoothref13_Steps.f (k + 1) a0 a1 a2 a3) := by
 intro a0 a1 a2 a3 k; have ih0 := sawtoothref13_Steps.mono_l k
 unfold sawtoothref13_Steps.f
 repeat' first
   | (with_reducible exact ih0 _ _ _ _ _)
   | (with_reducible exact LeO.refl _)
   | (with_reducible exact LeO.none _)
   | (with_reducible refine LeO.ite ?_ ?_)
   | (with_reducible refine LeO.bind ?_ (fun _ => ?_))
   | exact ih0 _ _ _ _ _
   | exact LeO.none _
   | refine LeO.ite ?_ ?_
   | refine LeO.bind ?_ (fun _ => ?_)
set_option maxHeartbeats 8000000 in
set_option maxRecDepth 100000 in
theorem sawtoothref13_Steps.calls (k : Nat) (a0 : Int) (a1 : Int) (a2 : Int) (A3 : Option Addr) (c3 : Nat) (l3 : List Int) (r : Int) (w : World) (hr3 : Kd.C (Kd.int .i64) w A3 l3.length l3) (hc3 : l3.length ≤ c3) (h : sawtoothref13_Steps.f k a0 a1 a2 l3 = some r) :
  Calls Try.prog 26 #[.int .i64 a0, .int .i64 a1, .int .i64 a2, .slice A3 l3.length c3] w fun e w' => e = .returned (.int .i64 r) ∧ Below w.heap.size w w' := by
 have HR3 := Aside0.mk hr3; have HC3 := Aside0.mk hc3; clear hr3 hc3; have HB := Aside0.mk (Below.refl w.heap.size w); have H : (sawtoothref13_Steps.l0 k a0 a1 a2 l3 0) = some r := h; clear h; have H' := Aside0.mk H; clear H
 go_enter Try.func26, Try.ntmps26
 go_wp2
 go_loopg [0, 9] k (fun kq v0 v9 w' => ∃ (x0_1 : Int) (x9_1 : Int), v0 = .int .i64 x0_1 ∧ v9 = .int .i64 x9_1 ∧ Aside0 (sawtoothref13_Steps.l0 kq x0_1 a1 a2 l3 x9_1 = some r) ∧ Aside0 (kq ≤ k) ∧ Aside0 (Below w.heap.size w w'))
 case atStart => exact ⟨(a0), (0), (by first | rfl | (simp; done) | (simp [*]; done)), (by first | rfl | (simp; done) | (simp [*]; done)), H', ⟨Nat.le_refl _⟩, ⟨by repeat (first | (with_reducible first | exact HB.out | apply below_alloc | apply pw_below_drewN | apply below_drew1) | exact HB.out)⟩⟩
 case round =>
  clear H'
  try clear c2
  try clear p2
  try clear c3
  obtain ⟨x0_1, x9_1, rfl, rfl, HA, HK1, HB⟩ := hrel
  cases gk with
  | zero => exact absurd HA.out (by simp [sawtoothref13_Steps.l0])
  | succ k1 =>
   have H := HA.out; clear HA; simp only [sawtoothref13_Steps.l0] at H
   by_cases c5 : x9_1 < (l3.length : Int)
   ·rw [if_pos c5] at H
    have c5b0 : decide (x9_1 < (l3.length : Int)) = true := decide_eq_true c5; clear c5
    by_cases c6 : 0 ≤ x9_1
    ·rw [if_pos c6] at H
     have c6b0 : decide (0 ≤ x9_1) = true := decide_eq_true c6; clear c6; replace H := Option.bind_eq_some_iff.mp H; obtain ⟨t402, A70, H⟩ := H; replace H : (sawtoothref13_Steps.l0 k1 t402 a1 a2 l3 (wrap64 (x9_1 + 1))) = some r := H; have A7 := Aside0.mk A70; clear A70; have H' := Aside0.mk H; clear H; have p401 : 0 ≤ (x9_1 : Int) := of_decide_eq_true (by first | (with_reducible assumption) | assumption); have q401 : x9_1 < (l3.length : Int) := of_decide_eq_true (by first | (with_reducible assumption) | assumption); obtain ⟨ad401, e401, hx401_0⟩ := Kd.at_int HR3.out x9_1 p401 q401
     cases e401
     replace hx401_0 := (HB.out.cell (World.block_lt_of_cell? w _ hx401_0)).trans hx401_0; replace p401 := eq_true p401; replace q401 := eq_true q401
     go_wp2_with (first | ((with_reducible refine gate_callee (f := 24) rfl ?_); refine goesLA_ (some 23) rfl rfl Try.func24 rfl #[.int .i64 x0_1, .int .i64 a1, .int .i64 a2, .int .i64 (rd l3 x9_1)] rfl ?_; (with_reducible refine (sawtoothref13_StepS.calls x0_1 a1 a2 (rd l3 x9_1) t402 _ A7.out).mono ?_); rintro e w8 ⟨rfl, hb⟩; refine ⟨_, rfl, ?_⟩; replace HB := stA hb; (try clear hb); (try clear hb2); (try clear hk); (try clear hi)))
     go_roundg k1
     case measure => have := HK1.out; omega
     case rel => exact ⟨(t402), (wrap64 (x9_1 + 1)), (by first | rfl | (simp; done) | (simp [*]; done)), (by first | rfl | (simp; done) | (simp [*]; done)), H', ⟨by have := HK1.out; omega⟩, ⟨by repeat (first | (with_reducible first | exact HB.out | apply below_alloc | apply pw_below_drewN | apply below_drew1) | exact HB.out)⟩⟩
    ·rw [if_neg c6] at H
     exact absurd H (by simp)
   ·rw [if_neg c5] at H
    have c5b0 : decide (x9_1 < (l3.length : Int)) = false := decide_eq_false c5; clear c5; obtain rfl := Option.some.inj H
    go_wp2
    go_ret
    exact ⟨by first | rfl | (simp [errW_none, errW_some] <;> rfl) | (simp [*, errW_none, errW_some] <;> rfl), by repeat (first | (with_reducible first | exact HB.out | apply below_alloc | apply pw_below_drewN | apply below_drew1) | exact HB.out)⟩

/-! ### sawtoothref13_StepsS: pure, behind function 26 -/
noncomputable def sawtoothref13_StepsS.f (a b c : Int) (l : List Int) : Option Int := Go.Proofs.Ytepmnfjcmppghaa.Sp.need (Go.Proofs.Ytepmnfjcmppghaa.Sp.I a ∧ Go.Proofs.Ytepmnfjcmppghaa.Sp.I b ∧ Go.Proofs.Ytepmnfjcmppghaa.Sp.I c ∧ (∀ x ∈ l, Go.Proofs.Ytepmnfjcmppghaa.Sp.I x) ∧ l.length < 1000000000000000000) (some (Go.Proofs.Ytepmnfjcmppghaa.Sp.stepsQ a b c l))
theorem sawtoothref13_StepsS.eq {a b c : Int} {l : List Int} (h1 : Go.Proofs.Ytepmnfjcmppghaa.Sp.I a) (h2 : Go.Proofs.Ytepmnfjcmppghaa.Sp.I b) (h3 : Go.Proofs.Ytepmnfjcmppghaa.Sp.I c) (h4 : ∀ x ∈ l, Go.Proofs.Ytepmnfjcmppghaa.Sp.I x) (h5 : l.length < 1000000000000000000) : sawtoothref13_StepsS.f a b c l = some (Go.Proofs.Ytepmnfjcmppghaa.Sp.stepsQ a b c l) := Go.Proofs.Ytepmnfjcmppghaa.Sp.need_pos ⟨h1, h2, h3, h4, h5⟩
section Ref13Steps
open Go.Proofs.Ytepmnfjcmppghaa.Sp
theorem sawtoothref13_stepsQ_nil (e p w : Int) : stepsQ e p w [] = e := rfl
theorem sawtoothref13_stepsQ_cons (e p w x : Int) (l : List Int) : stepsQ e p w (x :: l) = stepsQ (stepQ e p w x) p w l := rfl
theorem sawtoothref13_Steps.stop {e b c : Int} {l : List Int} {i : Int} (k : Nat) (h : ¬ i < (l.length : Int)) : sawtoothref13_Steps.l0 (k + 1) e b c l i = some e := by
 rw [sawtoothref13_Steps.l0, if_neg h]
theorem sawtoothref13_Steps.step {e b c x : Int} {l : List Int} {i : Int} (k : Nat) (h0 : 0 ≤ i) (h1 : i < (l.length : Int)) (hx : rd l i = x) {y : Int} (hy : sawtoothref13_StepS.f e b c x = some y) : sawtoothref13_Steps.l0 (k + 1) e b c l i = sawtoothref13_Steps.l0 k y b c l (wrap64 (i + 1)) := by
 rw [sawtoothref13_Steps.l0, if_pos h1, if_pos h0, hx, hy, Option.bind_some]
theorem sawtoothref13_Steps.main {b c : Int} {l : List Int} (h2 : I b) (h3 : I c) (h4 : ∀ x ∈ l, I x) (h5 : l.length < 1000000000000000000) (k : Nat) :
  ∀ (i : Nat), i + k = l.length → ∀ e, I e → sawtoothref13_Steps.l0 (k + 1) e b c l (i : Int) = some (stepsQ e b c (l.drop i)) := by
 induction k with
 | zero =>
  intro i hi e he
  rw [sawtoothref13_Steps.stop 0 (by omega), List.drop_eq_nil_of_le (by omega), sawtoothref13_stepsQ_nil]
 | succ k ih =>
  intro i hi e he
  have hl : i < l.length := by omega
  have hx : rd l (i : Int) = l[i] := by simp [rd, hl]
  have hs := stepQ_bd e b c l[i]; have hr := ih (i + 1) (by omega) (stepQ e b c l[i]) (by omega)
  have hw : wrap64 ((i : Int) + 1) = ((i + 1 : Nat) : Int) := by rw [w64 (by omega)]; omega
  rw [sawtoothref13_Steps.step (k + 1) (by omega) (by omega) hx (sawtoothref13_StepS.eq he h2 h3 (h4 _ (List.getElem_mem hl))), hw, hr, List.drop_eq_getElem_cons hl, sawtoothref13_stepsQ_cons]
end Ref13Steps
theorem sawtoothref13_StepsS.calls (a0 : Int) (a1 : Int) (a2 : Int) (A3 : Option Addr) (c3 : Nat) (l3 : List Int) (r : Int) (w : World) (hr3 : Kd.C (Kd.int .i64) w A3 l3.length l3) (hc3 : l3.length ≤ c3) (h : sawtoothref13_StepsS.f a0 a1 a2 l3 = some r) :
 Calls Try.prog 26 #[.int .i64 a0, .int .i64 a1, .int .i64 a2, .slice A3 l3.length c3] w fun e w' => e = .returned (.int .i64 r) ∧ Below w.heap.size w w' := by
 obtain ⟨⟨h1, h2, h3, h4, h5⟩, h⟩ := Go.Proofs.Ytepmnfjcmppghaa.Sp.need_some h; refine sawtoothref13_Steps.calls (l3.length + 1) a0 a1 a2 A3 c3 l3 r w hr3 hc3 ?_; have := sawtoothref13_Steps.main h2 h3 h4 h5 l3.length 0 (by omega) a0 h1
 rw [List.drop_zero] at this
 unfold sawtoothref13_Steps.f
 exact this.trans h

end Go.Proofs.Ytepmnfjcmppghaa.Px
