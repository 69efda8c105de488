/- Printed by a program of this session (wip/tool/px.py), over the kit's print: for each Go function a Lean function, and the proof that the machine's call answers as that function says. Conditions: none beside what the theorems state. -/
import Derived.Test.YtlcobnngpcabpaaPx0
import Derived.Test.YtlcobnngpcabpaaPx27
import Derived.Test.YtlcobnngpcabpaaPx29
import Derived.Test.YtlcobnngpcabpaaPx30
import Derived.Test.YtlcobnngpcabpaaSpec
namespace Go.Proofs.Ytlcobnngpcabpaa.Px
open Go.RowKit Go.Proofs.YtlcobnngpcabpaaW.PrintWords Go.Proofs.YtlcobnngpcabpaaW.PrintLast Go.Proofs.YtlcobnngpcabpaaW.PrintMore
attribute [local go_sem] max2_int min2_int max_two min_two max_three min_three max_four min_four   -- for this text's walks alone
set_option linter.unusedVariables false
set_option linter.unusedSimpArgs false

/-! ### sawtoothref02_Neg: function 16 -/
noncomputable def sawtoothref02_Neg.f (a0_0 : Bool) (a0_1 : Int) (a0_2 : Int) : Option (Bool × Int × Int) := (sawtoothref02_digits.f a0_0 a0_1 a0_2).bind fun bt382 => ((sawtoothref02_wholeS.f bt382.1 bt382.2.1 bt382.2.2.1 bt382.2.2.2 (!a0_0)).bind fun bt386 => (some (bt386.1, bt386.2.1, bt386.2.2)))
set_option maxHeartbeats 8000000 in
set_option maxRecDepth 100000 in
theorem sawtoothref02_Neg.calls (a0_0 : Bool) (a0_1 : Int) (a0_2 : Int) (r1 : Bool) (r2 : Int) (r3 : Int) (w : World) (h : sawtoothref02_Neg.f a0_0 a0_1 a0_2 = some (r1, r2, r3)) :
  Calls Try.prog 16 #[.agg #[.bool a0_0, .int .u64 a0_1, .int .u64 a0_2]] w fun e w' => e = .returned (.agg #[.bool r1, .int .u64 r2, .int .u64 r3]) ∧ Below w.heap.size w w' := by
 have hu24 := Try.underlying24; have HB := Aside0.mk (Below.refl w.heap.size w); have H : ((sawtoothref02_digits.f a0_0 a0_1 a0_2).bind fun bt382 => ((sawtoothref02_wholeS.f bt382.1 bt382.2.1 bt382.2.2.1 bt382.2.2.2 (!a0_0)).bind fun bt386 => (some (bt386.1, bt386.2.1, bt386.2.2)))) = some (r1, r2, r3) := h; clear h; replace H := Option.bind_eq_some_iff.mp H; obtain ⟨⟨t382, t383, t384, t385⟩, A20, H⟩ := H; replace H : ((sawtoothref02_wholeS.f t382 t383 t384 t385 (!a0_0)).bind fun bt386 => (some (bt386.1, bt386.2.1, bt386.2.2))) = some (r1, r2, r3) := H; have A2 := Aside0.mk A20; clear A20; replace H := Option.bind_eq_some_iff.mp H; obtain ⟨⟨t386, t387, t388⟩, A30, H⟩ := H; replace H : (some (t386, t387, t388)) = some (r1, r2, r3) := H; have A3 := Aside0.mk A30; clear A30; simp only [Option.some.injEq, Prod.mk.injEq] at H; obtain ⟨rfl, rfl, rfl⟩ := H
 go_enter Try.func16, Try.ntmps16
 try go_wp2_with (first | ((with_reducible refine gate_dst (N := 1) rfl ?_); refine box_event ?hg (N := 1) ?hd (cs := #[.bool a0_0, .int .u64 a0_1, .int .u64 a0_2]) (t := 24) ?hr ?_; (case hd => rfl); (case hg => rfl); (case hr => first | (go_simp; done) | (go_simp; rfl)); intro gb380 hg w4 hbox hb; have BK380 := Aside0.mk (hbox); obtain ⟨GW380, nHB⟩ := geA hg hb; have GE380 := GW380; replace HB := nHB; clear nHB; clear hb hbox hg) | ((with_reducible refine gate_dst (N := 2) rfl ?_); refine box_event ?hg (N := 2) ?hd (cs := #[.bool false, .int .u64 0, .int .u64 0]) (t := 24) ?hr ?_; (case hd => rfl); (case hg => rfl); (case hr => first | (go_simp; done) | (go_simp; rfl)); intro gb381 hg w5 hbox hb; have BK381 := Aside0.mk (hbox); obtain ⟨GW381, nHB⟩ := geA hg hb; have GE381 := GW381; obtain ⟨NB380_381, NB381_380, nBK⟩ := nbA BK380 hg hb; replace BK380 := nBK; clear nBK; replace HB := nHB; clear nHB; clear hb hbox hg))
 replace BK380 := Aside0.mk (blk_drew BK380.out); replace BK381 := Aside0.mk (blk_drew BK381.out); replace HB := Aside0.mk (below_drew1 HB.out); refine start_ (n := 7) (S := fun w' => w'.cell? ⟨gb380, 0, none⟩ = some (.bool a0_0) ∧ w'.cell? ⟨gb380, 1, none⟩ = some (.int .u64 a0_1) ∧ w'.cell? ⟨gb380, 2, none⟩ = some (.int .u64 a0_2)) (ds := []) #[N,N,N,N,N,N,N] (by kernel_rfl) rfl rfl ⟨(blk_cell BK380.out 0).trans rfl, (blk_cell BK380.out 1).trans rfl, (blk_cell BK380.out 2).trans rfl⟩ (fun hHeld => ?_)
 generalize w5.drew = w6 at BK380 BK381 HB hHeld ⊢
 refine pureA_ (i := 2) (N := some 5) #[N,N,Y,N,N,N,N] rfl rfl (by kernel_rfl) ?_
 refine take_ (i := 0) (N := some 3) (v := ?_) (a' := ?_) #[Y,N,Y,N,N,N,N] rfl rfl (by kernel_rfl) (fun _ _ _ h => h) (Or.inl ⟨by rfl, ?_⟩) hHeld ?_ ?_; rotate_left
 ·rintro w' ⟨s0, s1, s2⟩; go_simp
  with_reducible rfl
 rotate_left
 ·simp only [Act.put, sA, sB, sC, i64_w, i32_w]
  rfl
 refine take_ (i := 3) (N := some 6) (v := ?_) (a' := ?_) #[Y,N,Y,Y,N,N,N] rfl rfl (by kernel_rfl) (fun _ _ _ h => h) (Or.inl ⟨by rfl, ?_⟩) hHeld ?_ ?_; rotate_left
 ·rintro w' ⟨s0, s1, s2⟩; go_simp
  with_reducible rfl
 rotate_left
 ·simp only [Act.put, sA, sB, sC, i64_w, i32_w]
  rfl
 refine pureA_ (i := 4) (N := some 7) #[Y,N,Y,Y,Y,N,N] rfl rfl (by kernel_rfl) ?_
 refine one_ (i := 1) (N := some 4) #[Y,Y,Y,Y,Y,N,N] rfl rfl (by kernel_rfl) (by decide) (fun K hK => ?_); refine goesA_ Try.func26 rfl #[.agg #[.bool a0_0, .int .u64 a0_1, .int .u64 a0_2]] (by rfl) rfl rfl ?_
 with_reducible refine (sawtoothref02_digits.calls a0_0 a0_1 a0_2 t382 t383 t384 t385 _ A2.out).mono ?_
 rintro e w7 ⟨rfl, hb⟩; refine ⟨_, rfl, ?_⟩; replace BK380 := bbZ BK380 hb; replace BK381 := bbZ BK381 hb; replace HB := Aside0.mk (below_step HB.out hb); clear hb; refine hK.out _ _ ⟨(blk_cell BK380.out 0).trans rfl, (blk_cell BK380.out 1).trans rfl, (blk_cell BK380.out 2).trans rfl⟩ (fun hHeld => ?_); clear hK K; refine normA_ (some 4) ?_
 refine one_ (i := 5) (N := some 8) #[Y,Y,Y,Y,Y,Y,N] rfl rfl (by kernel_rfl) (by decide) (fun K hK => ?_); refine goesA_ Try.func28 rfl #[.agg #[.int .u64 t382, .int .u64 t383, .int .u64 t384, .int .u64 t385], .bool (!a0_0)] (by rfl) rfl rfl ?_
 with_reducible refine (sawtoothref02_wholeS.calls t382 t383 t384 t385 (!a0_0) t386 t387 t388 _ A3.out).mono ?_
 rintro e w8 ⟨rfl, hb⟩; refine ⟨_, rfl, ?_⟩; replace BK380 := bbZ BK380 hb; replace BK381 := bbZ BK381 hb; replace HB := Aside0.mk (below_step HB.out hb); clear hb; refine hK.out _ _ ⟨(blk_cell BK380.out 0).trans rfl, (blk_cell BK380.out 1).trans rfl, (blk_cell BK380.out 2).trans rfl⟩ (fun hHeld => ?_); clear hK K; refine normA_ (some 8) ?_
 refine one_ (i := 6) (N := none) #[Y,Y,Y,Y,Y,Y,Y] rfl rfl (by kernel_rfl) (by decide) (fun K hK => ?_); have hs9 := czZ BK381 0 (.bool false); have hfs9 := blk_frozen BK381.out 0; have hns9_0 := NB380_381.out; have hms9_0 := NB381_380.out; have hs10 := czZ BK381 1 (.int .u64 0); have hfs10 := blk_frozen BK381.out 1; have hns10_0 := NB380_381.out; have hms10_0 := NB381_380.out; have hs11 := czZ BK381 2 (.int .u64 0); have hfs11 := blk_frozen BK381.out 2; have hns11_0 := NB380_381.out; have hms11_0 := NB381_380.out; refine skip_ (w1 := ?_) (by rfl) rfl ?_ ?_; rotate_left
 ·go_simp
  rfl
 refine hK.out _ _ ⟨((cell_far (p := ⟨gb381, _, none⟩) NB380_381.out _).trans (((cell_far (p := ⟨gb381, _, none⟩) NB380_381.out _).trans (((cell_far (p := ⟨gb381, _, none⟩) NB380_381.out _).trans (hHeld.1)))))), ((cell_far (p := ⟨gb381, _, none⟩) NB380_381.out _).trans (((cell_far (p := ⟨gb381, _, none⟩) NB380_381.out _).trans (((cell_far (p := ⟨gb381, _, none⟩) NB380_381.out _).trans (hHeld.2.1)))))), ((cell_far (p := ⟨gb381, _, none⟩) NB380_381.out _).trans (((cell_far (p := ⟨gb381, _, none⟩) NB380_381.out _).trans (((cell_far (p := ⟨gb381, _, none⟩) NB380_381.out _).trans (hHeld.2.2))))))⟩ (fun hHeld => ?_); clear hK K; refine done_ (by kernel_rfl) ?_
 try go_wp2
 refine bodyPost_ret (results_cell_row rfl _ _ gb381 24 #[.bool t386, .int .u64 t387, .int .u64 t388] (0, 0) _ rfl (by (with_reducible repeat first | apply blk_drewN | apply blk_drew | apply blk_alloc); refine blk_put (cs := #[.bool t386, .int .u64 t387, .int .u64 0]) ?_ 2 _ rfl; (with_reducible repeat first | apply blk_drewN | apply blk_drew | apply blk_alloc); refine blk_put (cs := #[.bool t386, .int .u64 0, .int .u64 0]) ?_ 1 _ rfl; (with_reducible repeat first | apply blk_drewN | apply blk_drew | apply blk_alloc); refine blk_put (cs := #[.bool false, .int .u64 0, .int .u64 0]) ?_ 0 _ rfl; (with_reducible repeat first | apply blk_drewN | apply blk_drew | apply blk_alloc); exact BK381.out) Try.underlying24 rfl (by kernel_rfl)) rfl ?_; exact ⟨by first | rfl | (simp [errW_none, errW_some] <;> rfl) | (simp [*, errW_none, errW_some] <;> rfl), by repeat (first | (with_reducible first | exact HB.out | apply below_alloc | apply pw_below_drewN | apply below_drew1 | refine below_set ?_ (Aside0.out (by assumption))) | exact HB.out)⟩

/-! ### sawtoothref02_NegS: that of the other sign: pure, behind function 16 -/
noncomputable def sawtoothref02_NegS.f (n : Bool) (h l : Int) : Option (Bool × Int × Int) := Go.Proofs.Ytlcobnngpcabpaa.Sp.negF n h l
section Ref02Neg
open Go.Proofs.Ytlcobnngpcabpaa.Sp
theorem sawtoothref02_Neg.main {n : Bool} {h l : Int} (h1 : U h) (h2 : U l) : sawtoothref02_Neg.f n h l = some (encN (-val n h l), encH (-val n h l), encL (-val n h l)) := by
 unfold sawtoothref02_Neg.f
 rw [sawtoothref02_digits.eq h1 h2]
 simp only [Option.bind_some]
 rw [sawtoothref02_wholeS.eq (by omega) (by omega) (by omega) (by omega)]
 simp only [Option.bind_some]
 have e1 : h / 4294967296 * 4294967296 + h % 4294967296 = h := by omega
 have e2 : l / 4294967296 * 4294967296 + l % 4294967296 = l := by omega
 have e : val (!n) h l = -val n h l := by unfold val; cases n <;> simp
 rw [e1, e2, e]
end Ref02Neg
theorem sawtoothref02_NegS.calls (a0_0 : Bool) (a0_1 a0_2 : Int) (r1 : Bool) (r2 r3 : Int) (w : World) (h : sawtoothref02_NegS.f a0_0 a0_1 a0_2 = some (r1, r2, r3)) :
  Calls Try.prog 16 #[.agg #[.bool a0_0, .int .u64 a0_1, .int .u64 a0_2]] w fun e w' => e = .returned (.agg #[.bool r1, .int .u64 r2, .int .u64 r3]) ∧ Below w.heap.size w w' := by
 obtain ⟨hc, h⟩ := Go.Proofs.Ytlcobnngpcabpaa.Sp.need_some h; exact sawtoothref02_Neg.calls a0_0 a0_1 a0_2 r1 r2 r3 w (by rw [sawtoothref02_Neg.main hc.1 hc.2]; exact h)

/-! ### sawtoothref02_Mul: function 14 -/
noncomputable def sawtoothref02_Mul.f (a0 : Int) (a1 : Int) : Option (Bool × Int × Int) := (sawtoothref02_OfS.f a0).bind fun bt390 => ((sawtoothref02_size.f a1).bind fun t393 => ((sawtoothref02_Scale.f bt390.1 bt390.2.1 bt390.2.2 t393).bind fun bt394 => (if a1 < 0 then ((sawtoothref02_NegS.f bt394.1 bt394.2.1 bt394.2.2.1).bind fun bt399 => (some (bt399.1, bt399.2.1, bt399.2.2))) else (some (bt394.1, bt394.2.1, bt394.2.2.1)))))
set_option maxHeartbeats 8000000 in
set_option maxRecDepth 100000 in
theorem sawtoothref02_Mul.calls (a0 : Int) (a1 : Int) (r1 : Bool) (r2 : Int) (r3 : Int) (w : World) (h : sawtoothref02_Mul.f a0 a1 = some (r1, r2, r3)) :
  Calls Try.prog 14 #[.int .i64 a0, .int .i64 a1] w fun e w' => e = .returned (.agg #[.bool r1, .int .u64 r2, .int .u64 r3]) ∧ Below w.heap.size w w' := by
 have hu24 := Try.underlying24; have HB := Aside0.mk (Below.refl w.heap.size w); have H : ((sawtoothref02_OfS.f a0).bind fun bt390 => ((sawtoothref02_size.f a1).bind fun t393 => ((sawtoothref02_Scale.f bt390.1 bt390.2.1 bt390.2.2 t393).bind fun bt394 => (if a1 < 0 then ((sawtoothref02_NegS.f bt394.1 bt394.2.1 bt394.2.2.1).bind fun bt399 => (some (bt399.1, bt399.2.1, bt399.2.2))) else (some (bt394.1, bt394.2.1, bt394.2.2.1)))))) = some (r1, r2, r3) := h; clear h; replace H := Option.bind_eq_some_iff.mp H; obtain ⟨⟨t390, t391, t392⟩, A30, H⟩ := H; (try dsimp only at H); have A3 := Aside0.mk A30; clear A30; replace H := Option.bind_eq_some_iff.mp H; obtain ⟨t393, A40, H⟩ := H; (try dsimp only at H); have A4 := Aside0.mk A40; clear A40; replace H := Option.bind_eq_some_iff.mp H; obtain ⟨⟨t394, t395, t396, t397⟩, A50, H⟩ := H; replace H : (if a1 < 0 then ((sawtoothref02_NegS.f t394 t395 t396).bind fun bt399 => (some (bt399.1, bt399.2.1, bt399.2.2))) else (some (t394, t395, t396))) = some (r1, r2, r3) := H; have A5 := Aside0.mk A50; clear A50
 by_cases c6 : a1 < 0
 ·rw [if_pos c6] at H
  have c6b0 : decide (a1 < 0) = true := decide_eq_true c6; clear c6; replace H := Option.bind_eq_some_iff.mp H; obtain ⟨⟨t399, t400, t401⟩, A70, H⟩ := H; replace H : (some (t399, t400, t401)) = some (r1, r2, r3) := H; have A7 := Aside0.mk A70; clear A70; simp only [Option.some.injEq, Prod.mk.injEq] at H; obtain ⟨rfl, rfl, rfl⟩ := H
  go_enter Try.func14, Try.ntmps14
  go_wp2_with (first | ((with_reducible refine gate_dst (N := 4) rfl ?_); refine box_event ?hg (N := 4) ?hd (cs := #[.bool false, .int .u64 0, .int .u64 0]) (t := 24) ?hr ?_; (case hd => rfl); (case hg => rfl); (case hr => first | (go_simp; done) | (go_simp; rfl)); intro gb389 hg w8 hbox hb; have BK389 := Aside0.mk (hbox); obtain ⟨GW389, nHB⟩ := geA hg hb; have GE389 := GW389; replace HB := nHB; clear nHB; clear hb hbox hg) | ((with_reducible refine gate_callee (f := 12) rfl ?_); refine goesLA_ (some 9) rfl rfl Try.func12 rfl #[.int .i64 a0] rfl ?_; (with_reducible refine (sawtoothref02_OfS.calls a0 t390 t391 t392 _ A3.out).mono ?_); rintro e w9 ⟨rfl, hb⟩; refine ⟨_, rfl, ?_⟩; replace BK389 := bdZ BK389 hb; replace HB := stA hb; clear hb) | ((with_reducible refine gate_callee (f := 34) rfl ?_); refine goesLA_ (some 11) rfl rfl Try.func34 rfl #[.int .i64 a1] rfl ?_; (with_reducible refine (sawtoothref02_size.calls a1 t393 _ A4.out).mono ?_); rintro e w' ⟨rfl, ⟨nd, rfl⟩⟩; refine ⟨_, rfl, ?_⟩; (try (rw [drewN_self w9]; generalize hq_ : World.drewN w9 _ = w9; have n0_ : Aside0 (w9.heap[gb389]? = some (.cells #[.bool false, .int .u64 0, .int .u64 0] 24 (0, 0))) := ⟨by rw [← hq_]; exact (by (with_reducible repeat first | apply blk_drewN | apply blk_drew | apply blk_alloc); exact BK389.out)⟩; have n1_ : Aside0 (Below w.heap.size w w9) := ⟨by rw [← hq_]; exact (by repeat (first | (with_reducible first | exact HB.out | apply below_alloc | apply pw_below_drewN | apply below_drew1 | refine below_set ?_ GE389.out) | exact HB.out))⟩; clear BK389 HB hq_; have BK389 := n0_; have HB := n1_; clear n0_ n1_))) | ((with_reducible refine gate_callee (f := 8) rfl ?_); refine goesLA_ (some 12) rfl rfl Try.func8 rfl #[.agg #[.bool t390, .int .u64 t391, .int .u64 t392], .int .u64 t393] rfl ?_; (with_reducible refine (sawtoothref02_Scale.calls t390 t391 t392 t393 t394 t395 t396 t397 _ A5.out).mono ?_); rintro e w10 ⟨rfl, hb⟩; refine ⟨_, rfl, ?_⟩; replace BK389 := bdZ BK389 hb; replace HB := stA hb; clear hb) | ((with_reducible refine gate_dst (N := 5) rfl ?_); refine box_event ?hg (N := 5) ?hd (cs := #[.bool false, .int .u64 0, .int .u64 0]) (t := 24) ?hr ?_; (case hd => rfl); (case hg => rfl); (case hr => first | (go_simp; done) | (go_simp; rfl)); intro gb398 hg w11 hbox hb; have BK398 := Aside0.mk (hbox); obtain ⟨GW398, nHB⟩ := geA hg hb; have GE398 := GW398; obtain ⟨NB389_398, NB398_389, nBK⟩ := nbA BK389 hg hb; replace BK389 := nBK; clear nBK; replace HB := nHB; clear nHB; clear hb hbox hg; have hnb12 := NB398_389.out; have hnc12 := NB389_398.out; have hcz13_0 := czZ BK398 0 (.bool false); have hcz13_1 := czZ BK398 1 (.int .u64 0); have hcz13_2 := czZ BK398 2 (.int .u64 0); have hfz13_0 := blk_frozen BK398.out 0; have hfz13_1 := blk_frozen BK398.out 1; have hfz13_2 := blk_frozen BK398.out 2) | ((with_reducible refine gate_callee (f := 16) rfl ?_); refine goesLA_ (some 18) rfl rfl Try.func16 rfl #[.agg #[.bool t394, .int .u64 t395, .int .u64 t396]] rfl ?_; (with_reducible refine (sawtoothref02_NegS.calls t394 t395 t396 t399 t400 t401 _ A7.out).mono ?_); rintro e w14 ⟨rfl, hb⟩; refine ⟨_, rfl, ?_⟩; replace BK389 := bfZ BK389 (fun h_ => by (with_reducible repeat first | apply blk_drewN | apply blk_drew | apply blk_alloc | refine farZ ?_ NB389_398 _); exact h_) hb; replace BK398 := Aside0.mk (blk_below (g := gb398) (o := .cells #[.bool t394, .int .u64 t395, .int .u64 t396] 24 (0, 0)) (by (with_reducible repeat first | apply blk_drewN | apply blk_drew | apply blk_alloc); refine blk_put (cs := #[.bool t394, .int .u64 t395, .int .u64 0]) ?_ 2 _ rfl; (with_reducible repeat first | apply blk_drewN | apply blk_drew | apply blk_alloc); refine blk_put (cs := #[.bool t394, .int .u64 0, .int .u64 0]) ?_ 1 _ rfl; (with_reducible repeat first | apply blk_drewN | apply blk_drew | apply blk_alloc); refine blk_put (cs := #[.bool false, .int .u64 0, .int .u64 0]) ?_ 0 _ rfl; (with_reducible repeat first | apply blk_drewN | apply blk_drew | apply blk_alloc); exact BK398.out) hb); replace HB := stA hb; clear hb; have hcz15_0 := czZ BK389 0 (.bool false); have hcz15_1 := czZ BK389 1 (.int .u64 0); have hcz15_2 := czZ BK389 2 (.int .u64 0); have hfz15_0 := blk_frozen BK389.out 0; have hfz15_1 := blk_frozen BK389.out 1; have hfz15_2 := blk_frozen BK389.out 2))
  refine bodyPost_ret (results_cell_row rfl _ _ gb389 24 #[.bool t399, .int .u64 t400, .int .u64 t401] (0, 0) _ rfl (by (with_reducible repeat first | apply blk_drewN | apply blk_drew | apply blk_alloc); refine blk_put (cs := #[.bool t399, .int .u64 t400, .int .u64 0]) ?_ 2 _ rfl; (with_reducible repeat first | apply blk_drewN | apply blk_drew | apply blk_alloc); refine blk_put (cs := #[.bool t399, .int .u64 0, .int .u64 0]) ?_ 1 _ rfl; (with_reducible repeat first | apply blk_drewN | apply blk_drew | apply blk_alloc); refine blk_put (cs := #[.bool false, .int .u64 0, .int .u64 0]) ?_ 0 _ rfl; (with_reducible repeat first | apply blk_drewN | apply blk_drew | apply blk_alloc); exact BK389.out) Try.underlying24 rfl (by kernel_rfl)) rfl ?_; exact ⟨by first | rfl | (simp [errW_none, errW_some] <;> rfl) | (simp [*, errW_none, errW_some] <;> rfl), by repeat (first | (with_reducible first | exact HB.out | apply below_alloc | apply pw_below_drewN | apply below_drew1 | refine below_set ?_ (Aside0.out (by assumption))) | exact HB.out)⟩
 ·rw [if_neg c6] at H
  have c6b0 : decide (a1 < 0) = false := decide_eq_false c6; clear c6; simp only [Option.some.injEq, Prod.mk.injEq] at H; obtain ⟨rfl, rfl, rfl⟩ := H
  go_enter Try.func14, Try.ntmps14
  go_wp2_with (first | ((with_reducible refine gate_dst (N := 4) rfl ?_); refine box_event ?hg (N := 4) ?hd (cs := #[.bool false, .int .u64 0, .int .u64 0]) (t := 24) ?hr ?_; (case hd => rfl); (case hg => rfl); (case hr => first | (go_simp; done) | (go_simp; rfl)); intro gb389 hg w16 hbox hb; have BK389 := Aside0.mk (hbox); obtain ⟨GW389, nHB⟩ := geA hg hb; have GE389 := GW389; replace HB := nHB; clear nHB; clear hb hbox hg) | ((with_reducible refine gate_callee (f := 12) rfl ?_); refine goesLA_ (some 9) rfl rfl Try.func12 rfl #[.int .i64 a0] rfl ?_; (with_reducible refine (sawtoothref02_OfS.calls a0 t390 t391 t392 _ A3.out).mono ?_); rintro e w17 ⟨rfl, hb⟩; refine ⟨_, rfl, ?_⟩; replace BK389 := bdZ BK389 hb; replace HB := stA hb; clear hb) | ((with_reducible refine gate_callee (f := 34) rfl ?_); refine goesLA_ (some 11) rfl rfl Try.func34 rfl #[.int .i64 a1] rfl ?_; (with_reducible refine (sawtoothref02_size.calls a1 t393 _ A4.out).mono ?_); rintro e w' ⟨rfl, ⟨nd, rfl⟩⟩; refine ⟨_, rfl, ?_⟩; (try (rw [drewN_self w17]; generalize hq_ : World.drewN w17 _ = w17; have n0_ : Aside0 (w17.heap[gb389]? = some (.cells #[.bool false, .int .u64 0, .int .u64 0] 24 (0, 0))) := ⟨by rw [← hq_]; exact (by (with_reducible repeat first | apply blk_drewN | apply blk_drew | apply blk_alloc); exact BK389.out)⟩; have n1_ : Aside0 (Below w.heap.size w w17) := ⟨by rw [← hq_]; exact (by repeat (first | (with_reducible first | exact HB.out | apply below_alloc | apply pw_below_drewN | apply below_drew1 | refine below_set ?_ GE389.out) | exact HB.out))⟩; clear BK389 HB hq_; have BK389 := n0_; have HB := n1_; clear n0_ n1_))) | ((with_reducible refine gate_callee (f := 8) rfl ?_); refine goesLA_ (some 12) rfl rfl Try.func8 rfl #[.agg #[.bool t390, .int .u64 t391, .int .u64 t392], .int .u64 t393] rfl ?_; (with_reducible refine (sawtoothref02_Scale.calls t390 t391 t392 t393 t394 t395 t396 t397 _ A5.out).mono ?_); rintro e w18 ⟨rfl, hb⟩; refine ⟨_, rfl, ?_⟩; replace BK389 := bdZ BK389 hb; replace HB := stA hb; clear hb) | ((with_reducible refine gate_dst (N := 5) rfl ?_); refine box_event ?hg (N := 5) ?hd (cs := #[.bool false, .int .u64 0, .int .u64 0]) (t := 24) ?hr ?_; (case hd => rfl); (case hg => rfl); (case hr => first | (go_simp; done) | (go_simp; rfl)); intro gb398 hg w19 hbox hb; have BK398 := Aside0.mk (hbox); obtain ⟨GW398, nHB⟩ := geA hg hb; have GE398 := GW398; obtain ⟨NB389_398, NB398_389, nBK⟩ := nbA BK389 hg hb; replace BK389 := nBK; clear nBK; replace HB := nHB; clear nHB; clear hb hbox hg; have hnb20 := NB398_389.out; have hnc20 := NB389_398.out; have hcz21_0 := czZ BK398 0 (.bool false); have hcz21_1 := czZ BK398 1 (.int .u64 0); have hcz21_2 := czZ BK398 2 (.int .u64 0); have hfz21_0 := blk_frozen BK398.out 0; have hfz21_1 := blk_frozen BK398.out 1; have hfz21_2 := blk_frozen BK398.out 2; have hcz22_0 := czZ BK389 0 (.bool false); have hcz22_1 := czZ BK389 1 (.int .u64 0); have hcz22_2 := czZ BK389 2 (.int .u64 0); have hfz22_0 := blk_frozen BK389.out 0; have hfz22_1 := blk_frozen BK389.out 1; have hfz22_2 := blk_frozen BK389.out 2))
  refine bodyPost_ret (results_cell_row rfl _ _ gb389 24 #[.bool t394, .int .u64 t395, .int .u64 t396] (0, 0) _ rfl (by (with_reducible repeat first | apply blk_drewN | apply blk_drew | apply blk_alloc); refine blk_put (cs := #[.bool t394, .int .u64 t395, .int .u64 0]) ?_ 2 _ rfl; (with_reducible repeat first | apply blk_drewN | apply blk_drew | apply blk_alloc); refine blk_put (cs := #[.bool t394, .int .u64 0, .int .u64 0]) ?_ 1 _ rfl; (with_reducible repeat first | apply blk_drewN | apply blk_drew | apply blk_alloc); refine blk_put (cs := #[.bool false, .int .u64 0, .int .u64 0]) ?_ 0 _ rfl; (with_reducible repeat first | apply blk_drewN | apply blk_drew | apply blk_alloc); refine blk_far ?_ NB389_398.out _; (with_reducible repeat first | apply blk_drewN | apply blk_drew | apply blk_alloc); refine blk_far ?_ NB389_398.out _; (with_reducible repeat first | apply blk_drewN | apply blk_drew | apply blk_alloc); refine blk_far ?_ NB389_398.out _; (with_reducible repeat first | apply blk_drewN | apply blk_drew | apply blk_alloc); exact BK389.out) Try.underlying24 rfl (by kernel_rfl)) rfl ?_; exact ⟨by first | rfl | (simp [errW_none, errW_some] <;> rfl) | (simp [*, errW_none, errW_some] <;> rfl), by repeat (first | (with_reducible first | exact HB.out | apply below_alloc | apply pw_below_drewN | apply below_drew1 | refine below_set ?_ (Aside0.out (by assumption))) | exact HB.out)⟩

/-! ### sawtoothref02_MulS: a product: pure, behind function 14 -/
noncomputable def sawtoothref02_MulS.f (a b : Int) : Option (Bool × Int × Int) := Go.Proofs.Ytlcobnngpcabpaa.Sp.mulF a b
section Ref02Mul
open Go.Proofs.Ytlcobnngpcabpaa.Sp
theorem sawtoothref02_Mul.main {a b : Int} (h1 : I a) (h2 : I b) : sawtoothref02_Mul.f a b = some (encN (a * b), encH (a * b), encL (a * b)) := by
 unfold sawtoothref02_Mul.f sawtoothref02_OfS.f sawtoothref02_Scale.f sawtoothref02_NegS.f
 have m := mulI h1 h2; have m2 := mulI h1 (b := (b.natAbs : Int) - 1) (by omega)
 rw [ofF_eq h1, sawtoothref02_size.eq h2]
 simp only [Option.bind_some]
 have hm : ((a * (b.natAbs : Int)).natAbs : Int) = ((a * b).natAbs : Int) := by rw [Int.natAbs_mul, Int.natAbs_mul]; simp
 have hb : B (a * (b.natAbs : Int)) := by omega
 rw [scaleF_enc (by omega) (by omega), held_in hb]
 simp only [Option.bind_some]
 rw [negF_enc hb]
 simp only [Option.bind_some]
 by_cases c : b < 0
 ·have e : -(a * (b.natAbs : Int)) = a * b := by rw [show (b.natAbs : Int) = -b by omega, Int.mul_neg, Int.neg_neg]
  rw [if_pos c, e]
 ·have e : (b.natAbs : Int) = b := by omega
  rw [if_neg c, e]
end Ref02Mul
theorem sawtoothref02_MulS.calls (a0 a1 : Int) (r1 : Bool) (r2 r3 : Int) (w : World) (h : sawtoothref02_MulS.f a0 a1 = some (r1, r2, r3)) :
  Calls Try.prog 14 #[.int .i64 a0, .int .i64 a1] w fun e w' => e = .returned (.agg #[.bool r1, .int .u64 r2, .int .u64 r3]) ∧ Below w.heap.size w w' := by
 obtain ⟨hc, h⟩ := Go.Proofs.Ytlcobnngpcabpaa.Sp.need_some h; exact sawtoothref02_Mul.calls a0 a1 r1 r2 r3 w (by rw [sawtoothref02_Mul.main hc.1 hc.2]; exact h)

/-! ### sawtoothref02_below: function 35 -/
noncomputable def sawtoothref02_below.f (a0_0 : Bool) (a0_1 : Int) (a0_2 : Int) : Option (Bool) := if a0_0 = true then (if a0_1 > 0 then (some true) else (some (decide (a0_2 > 0)))) else (some false)
set_option maxHeartbeats 8000000 in
set_option maxRecDepth 100000 in
theorem sawtoothref02_below.calls (a0_0 : Bool) (a0_1 : Int) (a0_2 : Int) (r : Bool) (w : World) (h : sawtoothref02_below.f a0_0 a0_1 a0_2 = some r) :
  Calls Try.prog 35 #[.agg #[.bool a0_0, .int .u64 a0_1, .int .u64 a0_2]] w fun e w' => e = .returned (.bool r) ∧ Below w.heap.size w w' := by
 have hu24 := Try.underlying24; have HB := Aside0.mk (Below.refl w.heap.size w); have H : (if a0_0 = true then (if a0_1 > 0 then (some true) else (some (decide (a0_2 > 0)))) else (some false)) = some r := h; clear h
 by_cases c2 : a0_0 = true
 ·subst c2
  have H1 : (if a0_1 > 0 then (some true) else (some (decide (a0_2 > 0)))) = some r := by rw [if_pos rfl] at H; exact H
  clear H; have H := H1; clear H1
  by_cases c3 : a0_1 > 0
  ·rw [if_pos c3] at H
   have c3b0 : decide (0 < a0_1) = true := decide_eq_true c3; clear c3; obtain rfl := Option.some.inj H
   go_enter Try.func35, Try.ntmps35
   go_wp2_with (first | ((with_reducible refine gate_dst (N := 1) rfl ?_); refine box_event ?hg (N := 1) ?hd (cs := #[.bool true, .int .u64 a0_1, .int .u64 a0_2]) (t := 24) ?hr ?_; (case hd => rfl); (case hg => rfl); (case hr => first | (go_simp; done) | (go_simp; rfl)); intro gb402 hg w4 hbox hb; have BK402 := Aside0.mk (hbox); obtain ⟨GW402, nHB⟩ := geA hg hb; have GE402 := GW402; replace HB := nHB; clear nHB; clear hb hbox hg; have hcz5_0 := czZ BK402 0 (.bool true); have hcz5_1 := czZ BK402 1 (.int .u64 a0_1); have hcz5_2 := czZ BK402 2 (.int .u64 a0_2); have hfz5_0 := blk_frozen BK402.out 0; have hfz5_1 := blk_frozen BK402.out 1; have hfz5_2 := blk_frozen BK402.out 2))
   go_ret
   exact ⟨by first | rfl | (simp [errW_none, errW_some] <;> rfl) | (simp [*, errW_none, errW_some] <;> rfl), by repeat (first | (with_reducible first | exact HB.out | apply below_alloc | apply pw_below_drewN | apply below_drew1 | refine below_set ?_ GE402.out) | exact HB.out)⟩
  ·rw [if_neg c3] at H
   have c3b0 : decide (0 < a0_1) = false := decide_eq_false c3; clear c3; obtain rfl := Option.some.inj H
   go_enter Try.func35, Try.ntmps35
   go_wp2_with (first | ((with_reducible refine gate_dst (N := 1) rfl ?_); refine box_event ?hg (N := 1) ?hd (cs := #[.bool true, .int .u64 a0_1, .int .u64 a0_2]) (t := 24) ?hr ?_; (case hd => rfl); (case hg => rfl); (case hr => first | (go_simp; done) | (go_simp; rfl)); intro gb402 hg w6 hbox hb; have BK402 := Aside0.mk (hbox); obtain ⟨GW402, nHB⟩ := geA hg hb; have GE402 := GW402; replace HB := nHB; clear nHB; clear hb hbox hg; have hcz7_0 := czZ BK402 0 (.bool true); have hcz7_1 := czZ BK402 1 (.int .u64 a0_1); have hcz7_2 := czZ BK402 2 (.int .u64 a0_2); have hfz7_0 := blk_frozen BK402.out 0; have hfz7_1 := blk_frozen BK402.out 1; have hfz7_2 := blk_frozen BK402.out 2))
   go_ret
   exact ⟨by first | rfl | (simp [errW_none, errW_some] <;> rfl) | (simp [*, errW_none, errW_some] <;> rfl), by repeat (first | (with_reducible first | exact HB.out | apply below_alloc | apply pw_below_drewN | apply below_drew1 | refine below_set ?_ GE402.out) | exact HB.out)⟩
 ·replace c2 := Bool.eq_false_iff.mpr c2
  subst c2
  have H1 : (some false) = some r := by rw [if_neg (show ¬ (false = true) by decide)] at H; exact H
  clear H; have H := H1; clear H1; obtain rfl := Option.some.inj H
  go_enter Try.func35, Try.ntmps35
  go_wp2_with (first | ((with_reducible refine gate_dst (N := 1) rfl ?_); refine box_event ?hg (N := 1) ?hd (cs := #[.bool false, .int .u64 a0_1, .int .u64 a0_2]) (t := 24) ?hr ?_; (case hd => rfl); (case hg => rfl); (case hr => first | (go_simp; done) | (go_simp; rfl)); intro gb402 hg w8 hbox hb; have BK402 := Aside0.mk (hbox); obtain ⟨GW402, nHB⟩ := geA hg hb; have GE402 := GW402; replace HB := nHB; clear nHB; clear hb hbox hg; have hcz9_0 := czZ BK402 0 (.bool false); have hcz9_1 := czZ BK402 1 (.int .u64 a0_1); have hcz9_2 := czZ BK402 2 (.int .u64 a0_2); have hfz9_0 := blk_frozen BK402.out 0; have hfz9_1 := blk_frozen BK402.out 1; have hfz9_2 := blk_frozen BK402.out 2))
  go_ret
  exact ⟨by first | rfl | (simp [errW_none, errW_some] <;> rfl) | (simp [*, errW_none, errW_some] <;> rfl), by repeat (first | (with_reducible first | exact HB.out | apply below_alloc | apply pw_below_drewN | apply below_drew1 | refine below_set ?_ GE402.out) | exact HB.out)⟩

/-! ### sawtoothref02_belowS: is it below 0: pure, behind function 35 -/
noncomputable def sawtoothref02_belowS.f (n : Bool) (h l : Int) : Option Bool := Go.Proofs.Ytlcobnngpcabpaa.Sp.need (Go.Proofs.Ytlcobnngpcabpaa.Sp.U h ∧ Go.Proofs.Ytlcobnngpcabpaa.Sp.U l) (some (decide (Go.Proofs.Ytlcobnngpcabpaa.Sp.val n h l < 0)))
section Ref02Below
open Go.Proofs.Ytlcobnngpcabpaa.Sp
theorem sawtoothref02_belowS.eq {n : Bool} {h l : Int} (h1 : U h) (h2 : U l) : sawtoothref02_belowS.f n h l = some (decide (val n h l < 0)) := need_pos ⟨h1, h2⟩
theorem sawtoothref02_below.main {n : Bool} {h l : Int} (h1 : U h) (h2 : U l) : sawtoothref02_below.f n h l = some (decide (val n h l < 0)) := by
 unfold sawtoothref02_below.f val
 cases n
 ·simp only [Bool.false_eq_true, if_false]; rw [decide_eq_false]; omega
 ·simp only [if_true]
  by_cases hh : h > 0
  ·rw [if_pos hh, decide_eq_true]; omega
  ·rw [if_neg hh]; congr 1; rw [decide_eq_decide]; omega
end Ref02Below
theorem sawtoothref02_belowS.calls (a0_0 : Bool) (a0_1 a0_2 : Int) (r : Bool) (w : World) (h : sawtoothref02_belowS.f a0_0 a0_1 a0_2 = some r) :
  Calls Try.prog 35 #[.agg #[.bool a0_0, .int .u64 a0_1, .int .u64 a0_2]] w fun e w' => e = .returned (.bool r) ∧ Below w.heap.size w w' := by
 obtain ⟨hc, h⟩ := Go.Proofs.Ytlcobnngpcabpaa.Sp.need_some h; exact sawtoothref02_below.calls a0_0 a0_1 a0_2 r w (by rw [sawtoothref02_below.main hc.1 hc.2]; exact h)

end Go.Proofs.Ytlcobnngpcabpaa.Px
