/- Printed by a program of this session (wip/tool/px.py), over the kit's print: for each Go function a Lean function, and the proof that the machine's call answers as that function says. Conditions: none beside what the theorems state. -/
import Derived.Test.YtghpecgpdhaibaaPx0
import Derived.Test.YtghpecgpdhaibaaPx25
import Derived.Test.YtghpecgpdhaibaaPx26
import Derived.Test.YtghpecgpdhaibaaSpec
namespace Go.Proofs.Ytghpecgpdhaibaa.Px
open Go.RowKit Go.Proofs.YtghpecgpdhaibaaW.PrintWords Go.Proofs.YtghpecgpdhaibaaW.PrintLast Go.Proofs.YtghpecgpdhaibaaW.PrintMore
attribute [local go_sem] max2_int min2_int max_two min_two max_three min_three max_four min_four   -- for this text's walks alone
set_option linter.unusedVariables false
set_option linter.unusedSimpArgs false

/-! ### sawtoothref02_size: function 46 -/
noncomputable def sawtoothref02_size.f (a0 : Int) : Option (Int) := if a0 < 0 then (some (IntKind.u64.wrap ((IntKind.u64.wrap (wrap64 (-(wrap64 (a0 + 1))))) + 1))) else (some (IntKind.u64.wrap (a0)))
set_option maxHeartbeats 8000000 in
set_option maxRecDepth 100000 in
theorem sawtoothref02_size.calls (a0 : Int) (r : Int) (w : World) (h : sawtoothref02_size.f a0 = some r) :
  Calls Try.prog 46 #[.int .i64 a0] w fun e w' => e = .returned (.int .u64 r) ∧ Drawn0 w w' := by
 have H : (if a0 < 0 then (some (IntKind.u64.wrap ((IntKind.u64.wrap (wrap64 (-(wrap64 (a0 + 1))))) + 1))) else (some (IntKind.u64.wrap (a0)))) = some r := h; clear h
 by_cases c2 : a0 < 0
 ·rw [if_pos c2] at H
  have c2b0 : decide (a0 < 0) = true := decide_eq_true c2; clear c2; obtain rfl := Option.some.inj H
  go_enter Try.func46, Try.ntmps46
  go_wp2
  go_ret
  exact ⟨by first | rfl | (simp; done) | (simp [*]; done), by repeat (first | exact Drawn0.refl _ | apply Drawn0.step)⟩
 ·rw [if_neg c2] at H
  have c2b0 : decide (a0 < 0) = false := decide_eq_false c2; clear c2; obtain rfl := Option.some.inj H
  go_enter Try.func46, Try.ntmps46
  go_wp2
  go_ret
  exact ⟨by first | rfl | (simp; done) | (simp [*]; done), by repeat (first | exact Drawn0.refl _ | apply Drawn0.step)⟩

/-! ### sawtoothref02_Of: function 45 -/
noncomputable def sawtoothref02_Of.f (a0 : Int) : Option (Bool × Int × Int) := (sawtoothref02_size.f a0).bind fun t279 => (some (decide (a0 < 0), 0, t279))
set_option maxHeartbeats 8000000 in
set_option maxRecDepth 100000 in
theorem sawtoothref02_Of.calls (a0 : Int) (r1 : Bool) (r2 : Int) (r3 : Int) (w : World) (h : sawtoothref02_Of.f a0 = some (r1, r2, r3)) :
  Calls Try.prog 45 #[.int .i64 a0] w fun e w' => e = .returned (.agg #[.bool r1, .int .u64 r2, .int .u64 r3]) ∧ Below w.heap.size w w' := by
 have hu35 := Try.underlying35; have HB := Aside0.mk (Below.refl w.heap.size w); have H : ((sawtoothref02_size.f a0).bind fun t279 => (some (decide (a0 < 0), 0, t279))) = some (r1, r2, r3) := h; clear h; replace H := Option.bind_eq_some_iff.mp H; obtain ⟨t279, A20, H⟩ := H; replace H : (some (decide (a0 < 0), 0, t279)) = some (r1, r2, r3) := H; have A2 := Aside0.mk A20; clear A20; simp only [Option.some.injEq, Prod.mk.injEq] at H; obtain ⟨rfl, rfl, rfl⟩ := H
 go_enter Try.func45, Try.ntmps45
 go_wp2_with (first | ((with_reducible refine gate_dst (N := 2) rfl ?_); refine box_event ?hg (N := 2) ?hd (cs := #[.bool false, .int .u64 0, .int .u64 0]) (t := 35) ?hr ?_; (case hd => rfl); (case hg => rfl); (case hr => first | (go_simp; done) | (go_simp; rfl)); intro gb278 hg w3 hbox hb; have BK278 := Aside0.mk (hbox); obtain ⟨GW278, nHB⟩ := geA hg hb; have GE278 := GW278; replace HB := nHB; clear nHB; clear hb hbox hg) | ((with_reducible refine gate_callee (f := 46) rfl ?_); refine goesLA_ (some 6) rfl rfl Try.func46 rfl #[.int .i64 a0] rfl ?_; (with_reducible refine (sawtoothref02_size.calls a0 t279 _ A2.out).mono ?_); rintro e w' ⟨rfl, ⟨nd, rfl⟩⟩; refine ⟨_, rfl, ?_⟩; (try (rw [drewN_self w3]; generalize hq_ : World.drewN w3 _ = w3; have n0_ : Aside0 (w3.heap[gb278]? = some (.cells #[.bool false, .int .u64 0, .int .u64 0] 35 (0, 0))) := ⟨by rw [← hq_]; exact (by (with_reducible repeat first | apply blk_drewN | apply blk_drew | apply blk_alloc); exact BK278.out)⟩; have n1_ : Aside0 (Below w.heap.size w w3) := ⟨by rw [← hq_]; exact (by repeat (first | (with_reducible first | exact HB.out | apply below_alloc | apply pw_below_drewN | apply below_drew1 | refine below_set ?_ GE278.out) | exact HB.out))⟩; clear BK278 HB hq_; have BK278 := n0_; have HB := n1_; clear n0_ n1_)); have hcz4_0 := czZ BK278 0 (.bool false); have hcz4_1 := czZ BK278 1 (.int .u64 0); have hcz4_2 := czZ BK278 2 (.int .u64 0); have hfz4_0 := blk_frozen BK278.out 0; have hfz4_1 := blk_frozen BK278.out 1; have hfz4_2 := blk_frozen BK278.out 2))
 refine bodyPost_ret (results_cell_row rfl _ _ gb278 35 #[.bool (decide (a0 < 0)), .int .u64 0, .int .u64 t279] (0, 0) _ rfl (by (with_reducible repeat first | apply blk_drewN | apply blk_drew | apply blk_alloc); refine blk_put (cs := #[.bool (decide (a0 < 0)), .int .u64 0, .int .u64 0]) ?_ 2 _ rfl; (with_reducible repeat first | apply blk_drewN | apply blk_drew | apply blk_alloc); refine blk_put (cs := #[.bool (decide (a0 < 0)), .int .u64 0, .int .u64 0]) ?_ 1 _ rfl; (with_reducible repeat first | apply blk_drewN | apply blk_drew | apply blk_alloc); refine blk_put (cs := #[.bool false, .int .u64 0, .int .u64 0]) ?_ 0 _ rfl; (with_reducible repeat first | apply blk_drewN | apply blk_drew | apply blk_alloc); exact BK278.out) Try.underlying35 rfl (by kernel_rfl)) rfl ?_; exact ⟨by first | rfl | (simp [errW_none, errW_some] <;> rfl) | (simp [*, errW_none, errW_some] <;> rfl), by repeat (first | (with_reducible first | exact HB.out | apply below_alloc | apply pw_below_drewN | apply below_drew1 | refine below_set ?_ GE278.out) | exact HB.out)⟩

/-! ### sawtoothref02_OfS: a number: pure, behind function 45 -/
noncomputable def sawtoothref02_OfS.f (a : Int) : Option (Bool × Int × Int) := Go.Proofs.Ytghpecgpdhaibaa.Sp.ofF a
section Ref02Of
open Go.Proofs.Ytghpecgpdhaibaa.Sp
theorem sawtoothref02_size.eq {a : Int} (h : I a) : sawtoothref02_size.f a = some (a.natAbs : Int) := by
 unfold sawtoothref02_size.f
 have e1 : wrap64 (a + 1) = wrap64 (a + 1) := rfl
 by_cases ha : a < 0
 ·rw [if_pos ha, w64 (x := a + 1) (by omega), w64 (x := -(a + 1)) (by omega), u64w, u64w]; congr 1; omega
 ·rw [if_neg ha, u64w]; congr 1; omega
theorem sawtoothref02_Of.main {a : Int} (h : I a) : sawtoothref02_Of.f a = some (encN a, encH a, encL a) := by
 unfold sawtoothref02_Of.f
 rw [sawtoothref02_size.eq h]
 simp only [Option.bind_some]
 have e2 : encH a = 0 := by unfold encH; omega
 have e3 : encL a = (a.natAbs : Int) := by unfold encL; omega
 rw [e2, e3]; rfl
end Ref02Of
theorem sawtoothref02_OfS.calls (a0 : Int) (r1 : Bool) (r2 r3 : Int) (w : World) (h : sawtoothref02_OfS.f a0 = some (r1, r2, r3)) :
  Calls Try.prog 45 #[.int .i64 a0] w fun e w' => e = .returned (.agg #[.bool r1, .int .u64 r2, .int .u64 r3]) ∧ Below w.heap.size w w' := by
 obtain ⟨hc, h⟩ := Go.Proofs.Ytghpecgpdhaibaa.Sp.need_some h; exact sawtoothref02_Of.calls a0 r1 r2 r3 w (by rw [sawtoothref02_Of.main hc]; exact h)

/-! ### sawtoothref02_Neg: function 47 -/
noncomputable def sawtoothref02_Neg.f (a0_0 : Bool) (a0_1 : Int) (a0_2 : Int) : Option (Bool × Int × Int) := (sawtoothref02_digits.f a0_0 a0_1 a0_2).bind fun bt282 => ((sawtoothref02_wholeS.f bt282.1 bt282.2.1 bt282.2.2.1 bt282.2.2.2 (!a0_0)).bind fun bt286 => (some (bt286.1, bt286.2.1, bt286.2.2)))
set_option maxHeartbeats 8000000 in
set_option maxRecDepth 100000 in
theorem sawtoothref02_Neg.calls (a0_0 : Bool) (a0_1 : Int) (a0_2 : Int) (r1 : Bool) (r2 : Int) (r3 : Int) (w : World) (h : sawtoothref02_Neg.f a0_0 a0_1 a0_2 = some (r1, r2, r3)) :
  Calls Try.prog 47 #[.agg #[.bool a0_0, .int .u64 a0_1, .int .u64 a0_2]] w fun e w' => e = .returned (.agg #[.bool r1, .int .u64 r2, .int .u64 r3]) ∧ Below w.heap.size w w' := by
 have hu35 := Try.underlying35; have HB := Aside0.mk (Below.refl w.heap.size w); have H : ((sawtoothref02_digits.f a0_0 a0_1 a0_2).bind fun bt282 => ((sawtoothref02_wholeS.f bt282.1 bt282.2.1 bt282.2.2.1 bt282.2.2.2 (!a0_0)).bind fun bt286 => (some (bt286.1, bt286.2.1, bt286.2.2)))) = some (r1, r2, r3) := h; clear h; replace H := Option.bind_eq_some_iff.mp H; obtain ⟨⟨t282, t283, t284, t285⟩, A20, H⟩ := H; replace H : ((sawtoothref02_wholeS.f t282 t283 t284 t285 (!a0_0)).bind fun bt286 => (some (bt286.1, bt286.2.1, bt286.2.2))) = some (r1, r2, r3) := H; have A2 := Aside0.mk A20; clear A20; replace H := Option.bind_eq_some_iff.mp H; obtain ⟨⟨t286, t287, t288⟩, A30, H⟩ := H; replace H : (some (t286, t287, t288)) = some (r1, r2, r3) := H; have A3 := Aside0.mk A30; clear A30; simp only [Option.some.injEq, Prod.mk.injEq] at H; obtain ⟨rfl, rfl, rfl⟩ := H
 go_enter Try.func47, Try.ntmps47
 try go_wp2_with (first | ((with_reducible refine gate_dst (N := 1) rfl ?_); refine box_event ?hg (N := 1) ?hd (cs := #[.bool a0_0, .int .u64 a0_1, .int .u64 a0_2]) (t := 35) ?hr ?_; (case hd => rfl); (case hg => rfl); (case hr => first | (go_simp; done) | (go_simp; rfl)); intro gb280 hg w4 hbox hb; have BK280 := Aside0.mk (hbox); obtain ⟨GW280, nHB⟩ := geA hg hb; have GE280 := GW280; replace HB := nHB; clear nHB; clear hb hbox hg) | ((with_reducible refine gate_dst (N := 2) rfl ?_); refine box_event ?hg (N := 2) ?hd (cs := #[.bool false, .int .u64 0, .int .u64 0]) (t := 35) ?hr ?_; (case hd => rfl); (case hg => rfl); (case hr => first | (go_simp; done) | (go_simp; rfl)); intro gb281 hg w5 hbox hb; have BK281 := Aside0.mk (hbox); obtain ⟨GW281, nHB⟩ := geA hg hb; have GE281 := GW281; obtain ⟨NB280_281, NB281_280, nBK⟩ := nbA BK280 hg hb; replace BK280 := nBK; clear nBK; replace HB := nHB; clear nHB; clear hb hbox hg))
 replace BK280 := Aside0.mk (blk_drew BK280.out); replace BK281 := Aside0.mk (blk_drew BK281.out); replace HB := Aside0.mk (below_drew1 HB.out); refine start_ (n := 7) (S := fun w' => w'.cell? ⟨gb280, 0, none⟩ = some (.bool a0_0) ∧ w'.cell? ⟨gb280, 1, none⟩ = some (.int .u64 a0_1) ∧ w'.cell? ⟨gb280, 2, none⟩ = some (.int .u64 a0_2)) (ds := []) #[N,N,N,N,N,N,N] (by kernel_rfl) rfl rfl ⟨(blk_cell BK280.out 0).trans rfl, (blk_cell BK280.out 1).trans rfl, (blk_cell BK280.out 2).trans rfl⟩ (fun hHeld => ?_)
 generalize w5.drew = w6 at BK280 BK281 HB hHeld ⊢
 refine pureA_ (i := 2) (N := some 5) #[N,N,Y,N,N,N,N] rfl rfl (by kernel_rfl) ?_
 refine take_ (i := 0) (N := some 3) (v := ?_) (a' := ?_) #[Y,N,Y,N,N,N,N] rfl rfl (by kernel_rfl) (fun _ _ _ h => h) (Or.inl ⟨by rfl, ?_⟩) hHeld ?_ ?_; rotate_left
 ·rintro w' ⟨s0, s1, s2⟩; go_simp
  with_reducible rfl
 rotate_left
 ·simp only [Act.put, sA, sB, sC, i64_w, i32_w]
  rfl
 refine take_ (i := 3) (N := some 6) (v := ?_) (a' := ?_) #[Y,N,Y,Y,N,N,N] rfl rfl (by kernel_rfl) (fun _ _ _ h => h) (Or.inl ⟨by rfl, ?_⟩) hHeld ?_ ?_; rotate_left
 ·rintro w' ⟨s0, s1, s2⟩; go_simp
  with_reducible rfl
 rotate_left
 ·simp only [Act.put, sA, sB, sC, i64_w, i32_w]
  rfl
 refine pureA_ (i := 4) (N := some 7) #[Y,N,Y,Y,Y,N,N] rfl rfl (by kernel_rfl) ?_
 refine one_ (i := 1) (N := some 4) #[Y,Y,Y,Y,Y,N,N] rfl rfl (by kernel_rfl) (by decide) (fun K hK => ?_); refine goesA_ Try.func48 rfl #[.agg #[.bool a0_0, .int .u64 a0_1, .int .u64 a0_2]] (by rfl) rfl rfl ?_
 with_reducible refine (sawtoothref02_digits.calls a0_0 a0_1 a0_2 t282 t283 t284 t285 _ A2.out).mono ?_
 rintro e w7 ⟨rfl, hb⟩; refine ⟨_, rfl, ?_⟩; replace BK280 := bbZ BK280 hb; replace BK281 := bbZ BK281 hb; replace HB := Aside0.mk (below_step HB.out hb); clear hb; refine hK.out _ _ ⟨(blk_cell BK280.out 0).trans rfl, (blk_cell BK280.out 1).trans rfl, (blk_cell BK280.out 2).trans rfl⟩ (fun hHeld => ?_); clear hK K; refine normA_ (some 4) ?_
 refine one_ (i := 5) (N := some 8) #[Y,Y,Y,Y,Y,Y,N] rfl rfl (by kernel_rfl) (by decide) (fun K hK => ?_); refine goesA_ Try.func64 rfl #[.agg #[.int .u64 t282, .int .u64 t283, .int .u64 t284, .int .u64 t285], .bool (!a0_0)] (by rfl) rfl rfl ?_
 with_reducible refine (sawtoothref02_wholeS.calls t282 t283 t284 t285 (!a0_0) t286 t287 t288 _ A3.out).mono ?_
 rintro e w8 ⟨rfl, hb⟩; refine ⟨_, rfl, ?_⟩; replace BK280 := bbZ BK280 hb; replace BK281 := bbZ BK281 hb; replace HB := Aside0.mk (below_step HB.out hb); clear hb; refine hK.out _ _ ⟨(blk_cell BK280.out 0).trans rfl, (blk_cell BK280.out 1).trans rfl, (blk_cell BK280.out 2).trans rfl⟩ (fun hHeld => ?_); clear hK K; refine normA_ (some 8) ?_
 refine one_ (i := 6) (N := none) #[Y,Y,Y,Y,Y,Y,Y] rfl rfl (by kernel_rfl) (by decide) (fun K hK => ?_); have hs9 := czZ BK281 0 (.bool false); have hfs9 := blk_frozen BK281.out 0; have hns9_0 := NB280_281.out; have hms9_0 := NB281_280.out; have hs10 := czZ BK281 1 (.int .u64 0); have hfs10 := blk_frozen BK281.out 1; have hns10_0 := NB280_281.out; have hms10_0 := NB281_280.out; have hs11 := czZ BK281 2 (.int .u64 0); have hfs11 := blk_frozen BK281.out 2; have hns11_0 := NB280_281.out; have hms11_0 := NB281_280.out; refine skip_ (w1 := ?_) (by rfl) rfl ?_ ?_; rotate_left
 ·go_simp
  rfl
 refine hK.out _ _ ⟨((cell_far (p := ⟨gb281, _, none⟩) NB280_281.out _).trans (((cell_far (p := ⟨gb281, _, none⟩) NB280_281.out _).trans (((cell_far (p := ⟨gb281, _, none⟩) NB280_281.out _).trans (hHeld.1)))))), ((cell_far (p := ⟨gb281, _, none⟩) NB280_281.out _).trans (((cell_far (p := ⟨gb281, _, none⟩) NB280_281.out _).trans (((cell_far (p := ⟨gb281, _, none⟩) NB280_281.out _).trans (hHeld.2.1)))))), ((cell_far (p := ⟨gb281, _, none⟩) NB280_281.out _).trans (((cell_far (p := ⟨gb281, _, none⟩) NB280_281.out _).trans (((cell_far (p := ⟨gb281, _, none⟩) NB280_281.out _).trans (hHeld.2.2))))))⟩ (fun hHeld => ?_); clear hK K; refine done_ (by kernel_rfl) ?_
 try go_wp2
 refine bodyPost_ret (results_cell_row rfl _ _ gb281 35 #[.bool t286, .int .u64 t287, .int .u64 t288] (0, 0) _ rfl (by (with_reducible repeat first | apply blk_drewN | apply blk_drew | apply blk_alloc); refine blk_put (cs := #[.bool t286, .int .u64 t287, .int .u64 0]) ?_ 2 _ rfl; (with_reducible repeat first | apply blk_drewN | apply blk_drew | apply blk_alloc); refine blk_put (cs := #[.bool t286, .int .u64 0, .int .u64 0]) ?_ 1 _ rfl; (with_reducible repeat first | apply blk_drewN | apply blk_drew | apply blk_alloc); refine blk_put (cs := #[.bool false, .int .u64 0, .int .u64 0]) ?_ 0 _ rfl; (with_reducible repeat first | apply blk_drewN | apply blk_drew | apply blk_alloc); exact BK281.out) Try.underlying35 rfl (by kernel_rfl)) rfl ?_; exact ⟨by first | rfl | (simp [errW_none, errW_some] <;> rfl) | (simp [*, errW_none, errW_some] <;> rfl), by repeat (first | (with_reducible first | exact HB.out | apply below_alloc | apply pw_below_drewN | apply below_drew1 | refine below_set ?_ (Aside0.out (by assumption))) | exact HB.out)⟩

/-! ### sawtoothref02_NegS: that of the other sign: pure, behind function 47 -/
noncomputable def sawtoothref02_NegS.f (n : Bool) (h l : Int) : Option (Bool × Int × Int) := Go.Proofs.Ytghpecgpdhaibaa.Sp.negF n h l
section Ref02Neg
open Go.Proofs.Ytghpecgpdhaibaa.Sp
theorem sawtoothref02_Neg.main {n : Bool} {h l : Int} (h1 : U h) (h2 : U l) : sawtoothref02_Neg.f n h l = some (encN (-val n h l), encH (-val n h l), encL (-val n h l)) := by
 unfold sawtoothref02_Neg.f
 rw [sawtoothref02_digits.eq h1 h2]
 simp only [Option.bind_some]
 rw [sawtoothref02_wholeS.eq (by omega) (by omega) (by omega) (by omega)]
 simp only [Option.bind_some]
 have e1 : h / 4294967296 * 4294967296 + h % 4294967296 = h := by omega
 have e2 : l / 4294967296 * 4294967296 + l % 4294967296 = l := by omega
 have e : val (!n) h l = -val n h l := by unfold val; cases n <;> simp
 rw [e1, e2, e]
end Ref02Neg
theorem sawtoothref02_NegS.calls (a0_0 : Bool) (a0_1 a0_2 : Int) (r1 : Bool) (r2 r3 : Int) (w : World) (h : sawtoothref02_NegS.f a0_0 a0_1 a0_2 = some (r1, r2, r3)) :
  Calls Try.prog 47 #[.agg #[.bool a0_0, .int .u64 a0_1, .int .u64 a0_2]] w fun e w' => e = .returned (.agg #[.bool r1, .int .u64 r2, .int .u64 r3]) ∧ Below w.heap.size w w' := by
 obtain ⟨hc, h⟩ := Go.Proofs.Ytghpecgpdhaibaa.Sp.need_some h; exact sawtoothref02_Neg.calls a0_0 a0_1 a0_2 r1 r2 r3 w (by rw [sawtoothref02_Neg.main hc.1 hc.2]; exact h)

/-! ### sawtoothref02_Mul: function 22 -/
noncomputable def sawtoothref02_Mul.f (a0 : Int) (a1 : Int) : Option (Bool × Int × Int) := (sawtoothref02_OfS.f a0).bind fun bt290 => ((sawtoothref02_size.f a1).bind fun t293 => ((sawtoothref02_Scale.f bt290.1 bt290.2.1 bt290.2.2 t293).bind fun bt294 => (if a1 < 0 then ((sawtoothref02_NegS.f bt294.1 bt294.2.1 bt294.2.2.1).bind fun bt299 => (some (bt299.1, bt299.2.1, bt299.2.2))) else (some (bt294.1, bt294.2.1, bt294.2.2.1)))))
set_option maxHeartbeats 8000000 in
set_option maxRecDepth 100000 in
theorem sawtoothref02_Mul.calls (a0 : Int) (a1 : Int) (r1 : Bool) (r2 : Int) (r3 : Int) (w : World) (h : sawtoothref02_Mul.f a0 a1 = some (r1, r2, r3)) :
  Calls Try.prog 22 #[.int .i64 a0, .int .i64 a1] w fun e w' => e = .returned (.agg #[.bool r1, .int .u64 r2, .int .u64 r3]) ∧ Below w.heap.size w w' := by
 have hu35 := Try.underlying35; have HB := Aside0.mk (Below.refl w.heap.size w); have H : ((sawtoothref02_OfS.f a0).bind fun bt290 => ((sawtoothref02_size.f a1).bind fun t293 => ((sawtoothref02_Scale.f bt290.1 bt290.2.1 bt290.2.2 t293).bind fun bt294 => (if a1 < 0 then ((sawtoothref02_NegS.f bt294.1 bt294.2.1 bt294.2.2.1).bind fun bt299 => (some (bt299.1, bt299.2.1, bt299.2.2))) else (some (bt294.1, bt294.2.1, bt294.2.2.1)))))) = some (r1, r2, r3) := h; clear h; replace H := Option.bind_eq_some_iff.mp H; obtain ⟨⟨t290, t291, t292⟩, A30, H⟩ := H; (try dsimp only at H); have A3 := Aside0.mk A30; clear A30; replace H := Option.bind_eq_some_iff.mp H; obtain ⟨t293, A40, H⟩ := H; (try dsimp only at H); have A4 := Aside0.mk A40; clear A40; replace H := Option.bind_eq_some_iff.mp H; obtain ⟨⟨t294, t295, t296, t297⟩, A50, H⟩ := H; replace H : (if a1 < 0 then ((sawtoothref02_NegS.f t294 t295 t296).bind fun bt299 => (some (bt299.1, bt299.2.1, bt299.2.2))) else (some (t294, t295, t296))) = some (r1, r2, r3) := H; have A5 := Aside0.mk A50; clear A50
 by_cases c6 : a1 < 0
 ·rw [if_pos c6] at H
  have c6b0 : decide (a1 < 0) = true := decide_eq_true c6; clear c6; replace H := Option.bind_eq_some_iff.mp H; obtain ⟨⟨t299, t300, t301⟩, A70, H⟩ := H; replace H : (some (t299, t300, t301)) = some (r1, r2, r3) := H; have A7 := Aside0.mk A70; clear A70; simp only [Option.some.injEq, Prod.mk.injEq] at H; obtain ⟨rfl, rfl, rfl⟩ := H
  go_enter Try.func22, Try.ntmps22
  go_wp2_with (first | ((with_reducible refine gate_dst (N := 4) rfl ?_); refine box_event ?hg (N := 4) ?hd (cs := #[.bool false, .int .u64 0, .int .u64 0]) (t := 35) ?hr ?_; (case hd => rfl); (case hg => rfl); (case hr => first | (go_simp; done) | (go_simp; rfl)); intro gb289 hg w8 hbox hb; have BK289 := Aside0.mk (hbox); obtain ⟨GW289, nHB⟩ := geA hg hb; have GE289 := GW289; replace HB := nHB; clear nHB; clear hb hbox hg) | ((with_reducible refine gate_callee (f := 45) rfl ?_); refine goesLA_ (some 9) rfl rfl Try.func45 rfl #[.int .i64 a0] rfl ?_; (with_reducible refine (sawtoothref02_OfS.calls a0 t290 t291 t292 _ A3.out).mono ?_); rintro e w9 ⟨rfl, hb⟩; refine ⟨_, rfl, ?_⟩; replace BK289 := bdZ BK289 hb; replace HB := stA hb; clear hb) | ((with_reducible refine gate_callee (f := 46) rfl ?_); refine goesLA_ (some 11) rfl rfl Try.func46 rfl #[.int .i64 a1] rfl ?_; (with_reducible refine (sawtoothref02_size.calls a1 t293 _ A4.out).mono ?_); rintro e w' ⟨rfl, ⟨nd, rfl⟩⟩; refine ⟨_, rfl, ?_⟩; (try (rw [drewN_self w9]; generalize hq_ : World.drewN w9 _ = w9; have n0_ : Aside0 (w9.heap[gb289]? = some (.cells #[.bool false, .int .u64 0, .int .u64 0] 35 (0, 0))) := ⟨by rw [← hq_]; exact (by (with_reducible repeat first | apply blk_drewN | apply blk_drew | apply blk_alloc); exact BK289.out)⟩; have n1_ : Aside0 (Below w.heap.size w w9) := ⟨by rw [← hq_]; exact (by repeat (first | (with_reducible first | exact HB.out | apply below_alloc | apply pw_below_drewN | apply below_drew1 | refine below_set ?_ GE289.out) | exact HB.out))⟩; clear BK289 HB hq_; have BK289 := n0_; have HB := n1_; clear n0_ n1_))) | ((with_reducible refine gate_callee (f := 44) rfl ?_); refine goesLA_ (some 12) rfl rfl Try.func44 rfl #[.agg #[.bool t290, .int .u64 t291, .int .u64 t292], .int .u64 t293] rfl ?_; (with_reducible refine (sawtoothref02_Scale.calls t290 t291 t292 t293 t294 t295 t296 t297 _ A5.out).mono ?_); rintro e w10 ⟨rfl, hb⟩; refine ⟨_, rfl, ?_⟩; replace BK289 := bdZ BK289 hb; replace HB := stA hb; clear hb) | ((with_reducible refine gate_dst (N := 5) rfl ?_); refine box_event ?hg (N := 5) ?hd (cs := #[.bool false, .int .u64 0, .int .u64 0]) (t := 35) ?hr ?_; (case hd => rfl); (case hg => rfl); (case hr => first | (go_simp; done) | (go_simp; rfl)); intro gb298 hg w11 hbox hb; have BK298 := Aside0.mk (hbox); obtain ⟨GW298, nHB⟩ := geA hg hb; have GE298 := GW298; obtain ⟨NB289_298, NB298_289, nBK⟩ := nbA BK289 hg hb; replace BK289 := nBK; clear nBK; replace HB := nHB; clear nHB; clear hb hbox hg; have hnb12 := NB298_289.out; have hnc12 := NB289_298.out; have hcz13_0 := czZ BK298 0 (.bool false); have hcz13_1 := czZ BK298 1 (.int .u64 0); have hcz13_2 := czZ BK298 2 (.int .u64 0); have hfz13_0 := blk_frozen BK298.out 0; have hfz13_1 := blk_frozen BK298.out 1; have hfz13_2 := blk_frozen BK298.out 2) | ((with_reducible refine gate_callee (f := 47) rfl ?_); refine goesLA_ (some 18) rfl rfl Try.func47 rfl #[.agg #[.bool t294, .int .u64 t295, .int .u64 t296]] rfl ?_; (with_reducible refine (sawtoothref02_NegS.calls t294 t295 t296 t299 t300 t301 _ A7.out).mono ?_); rintro e w14 ⟨rfl, hb⟩; refine ⟨_, rfl, ?_⟩; replace BK289 := bfZ BK289 (fun h_ => by (with_reducible repeat first | apply blk_drewN | apply blk_drew | apply blk_alloc | refine farZ ?_ NB289_298 _); exact h_) hb; replace BK298 := Aside0.mk (blk_below (g := gb298) (o := .cells #[.bool t294, .int .u64 t295, .int .u64 t296] 35 (0, 0)) (by (with_reducible repeat first | apply blk_drewN | apply blk_drew | apply blk_alloc); refine blk_put (cs := #[.bool t294, .int .u64 t295, .int .u64 0]) ?_ 2 _ rfl; (with_reducible repeat first | apply blk_drewN | apply blk_drew | apply blk_alloc); refine blk_put (cs := #[.bool t294, .int .u64 0, .int .u64 0]) ?_ 1 _ rfl; (with_reducible repeat first | apply blk_drewN | apply blk_drew | apply blk_alloc); refine blk_put (cs := #[.bool false, .int .u64 0, .int .u64 0]) ?_ 0 _ rfl; (with_reducible repeat first | apply blk_drewN | apply blk_drew | apply blk_alloc); exact BK298.out) hb); replace HB := stA hb; clear hb; have hcz15_0 := czZ BK289 0 (.bool false); have hcz15_1 := czZ BK289 1 (.int .u64 0); have hcz15_2 := czZ BK289 2 (.int .u64 0); have hfz15_0 := blk_frozen BK289.out 0; have hfz15_1 := blk_frozen BK289.out 1; have hfz15_2 := blk_frozen BK289.out 2))
  refine bodyPost_ret (results_cell_row rfl _ _ gb289 35 #[.bool t299, .int .u64 t300, .int .u64 t301] (0, 0) _ rfl (by (with_reducible repeat first | apply blk_drewN | apply blk_drew | apply blk_alloc); refine blk_put (cs := #[.bool t299, .int .u64 t300, .int .u64 0]) ?_ 2 _ rfl; (with_reducible repeat first | apply blk_drewN | apply blk_drew | apply blk_alloc); refine blk_put (cs := #[.bool t299, .int .u64 0, .int .u64 0]) ?_ 1 _ rfl; (with_reducible repeat first | apply blk_drewN | apply blk_drew | apply blk_alloc); refine blk_put (cs := #[.bool false, .int .u64 0, .int .u64 0]) ?_ 0 _ rfl; (with_reducible repeat first | apply blk_drewN | apply blk_drew | apply blk_alloc); exact BK289.out) Try.underlying35 rfl (by kernel_rfl)) rfl ?_; exact ⟨by first | rfl | (simp [errW_none, errW_some] <;> rfl) | (simp [*, errW_none, errW_some] <;> rfl), by repeat (first | (with_reducible first | exact HB.out | apply below_alloc | apply pw_below_drewN | apply below_drew1 | refine below_set ?_ (Aside0.out (by assumption))) | exact HB.out)⟩
 ·rw [if_neg c6] at H
  have c6b0 : decide (a1 < 0) = false := decide_eq_false c6; clear c6; simp only [Option.some.injEq, Prod.mk.injEq] at H; obtain ⟨rfl, rfl, rfl⟩ := H
  go_enter Try.func22, Try.ntmps22
  go_wp2_with (first | ((with_reducible refine gate_dst (N := 4) rfl ?_); refine box_event ?hg (N := 4) ?hd (cs := #[.bool false, .int .u64 0, .int .u64 0]) (t := 35) ?hr ?_; (case hd => rfl); (case hg => rfl); (case hr => first | (go_simp; done) | (go_simp; rfl)); intro gb289 hg w16 hbox hb; have BK289 := Aside0.mk (hbox); obtain ⟨GW289, nHB⟩ := geA hg hb; have GE289 := GW289; replace HB := nHB; clear nHB; clear hb hbox hg) | ((with_reducible refine gate_callee (f := 45) rfl ?_); refine goesLA_ (some 9) rfl rfl Try.func45 rfl #[.int .i64 a0] rfl ?_; (with_reducible refine (sawtoothref02_OfS.calls a0 t290 t291 t292 _ A3.out).mono ?_); rintro e w17 ⟨rfl, hb⟩; refine ⟨_, rfl, ?_⟩; replace BK289 := bdZ BK289 hb; replace HB := stA hb; clear hb) | ((with_reducible refine gate_callee (f := 46) rfl ?_); refine goesLA_ (some 11) rfl rfl Try.func46 rfl #[.int .i64 a1] rfl ?_; (with_reducible refine (sawtoothref02_size.calls a1 t293 _ A4.out).mono ?_); rintro e w' ⟨rfl, ⟨nd, rfl⟩⟩; refine ⟨_, rfl, ?_⟩; (try (rw [drewN_self w17]; generalize hq_ : World.drewN w17 _ = w17; have n0_ : Aside0 (w17.heap[gb289]? = some (.cells #[.bool false, .int .u64 0, .int .u64 0] 35 (0, 0))) := ⟨by rw [← hq_]; exact (by (with_reducible repeat first | apply blk_drewN | apply blk_drew | apply blk_alloc); exact BK289.out)⟩; have n1_ : Aside0 (Below w.heap.size w w17) := ⟨by rw [← hq_]; exact (by repeat (first | (with_reducible first | exact HB.out | apply below_alloc | apply pw_below_drewN | apply below_drew1 | refine below_set ?_ GE289.out) | exact HB.out))⟩; clear BK289 HB hq_; have BK289 := n0_; have HB := n1_; clear n0_ n1_))) | ((with_reducible refine gate_callee (f := 44) rfl ?_); refine goesLA_ (some 12) rfl rfl Try.func44 rfl #[.agg #[.bool t290, .int .u64 t291, .int .u64 t292], .int .u64 t293] rfl ?_; (with_reducible refine (sawtoothref02_Scale.calls t290 t291 t292 t293 t294 t295 t296 t297 _ A5.out).mono ?_); rintro e w18 ⟨rfl, hb⟩; refine ⟨_, rfl, ?_⟩; replace BK289 := bdZ BK289 hb; replace HB := stA hb; clear hb) | ((with_reducible refine gate_dst (N := 5) rfl ?_); refine box_event ?hg (N := 5) ?hd (cs := #[.bool false, .int .u64 0, .int .u64 0]) (t := 35) ?hr ?_; (case hd => rfl); (case hg => rfl); (case hr => first | (go_simp; done) | (go_simp; rfl)); intro gb298 hg w19 hbox hb; have BK298 := Aside0.mk (hbox); obtain ⟨GW298, nHB⟩ := geA hg hb; have GE298 := GW298; obtain ⟨NB289_298, NB298_289, nBK⟩ := nbA BK289 hg hb; replace BK289 := nBK; clear nBK; replace HB := nHB; clear nHB; clear hb hbox hg; have hnb20 := NB298_289.out; have hnc20 := NB289_298.out; have hcz21_0 := czZ BK298 0 (.bool false); have hcz21_1 := czZ BK298 1 (.int .u64 0); have hcz21_2 := czZ BK298 2 (.int .u64 0); have hfz21_0 := blk_frozen BK298.out 0; have hfz21_1 := blk_frozen BK298.out 1; have hfz21_2 := blk_frozen BK298.out 2; have hcz22_0 := czZ BK289 0 (.bool false); have hcz22_1 := czZ BK289 1 (.int .u64 0); have hcz22_2 := czZ BK289 2 (.int .u64 0); have hfz22_0 := blk_frozen BK289.out 0; have hfz22_1 := blk_frozen BK289.out 1; have hfz22_2 := blk_frozen BK289.out 2))
  refine bodyPost_ret (results_cell_row rfl _ _ gb289 35 #[.bool t294, .int .u64 t295, .int .u64 t296] (0, 0) _ rfl (by (with_reducible repeat first | apply blk_drewN | apply blk_drew | apply blk_alloc); refine blk_put (cs := #[.bool t294, .int .u64 t295, .int .u64 0]) ?_ 2 _ rfl; (with_reducible repeat first | apply blk_drewN | apply blk_drew | apply blk_alloc); refine blk_put (cs := #[.bool t294, .int .u64 0, .int .u64 0]) ?_ 1 _ rfl; (with_reducible repeat first | apply blk_drewN | apply blk_drew | apply blk_alloc); refine blk_put (cs := #[.bool false, .int .u64 0, .int .u64 0]) ?_ 0 _ rfl; (with_reducible repeat first | apply blk_drewN | apply blk_drew | apply blk_alloc); refine blk_far ?_ NB289_298.out _; (with_reducible repeat first | apply blk_drewN | apply blk_drew | apply blk_alloc); refine blk_far ?_ NB289_298.out _; (with_reducible repeat first | apply blk_drewN | apply blk_drew | apply blk_alloc); refine blk_far ?_ NB289_298.out _; (with_reducible repeat first | apply blk_drewN | apply blk_drew | apply blk_alloc); exact BK289.out) Try.underlying35 rfl (by kernel_rfl)) rfl ?_; exact ⟨by first | rfl | (simp [errW_none, errW_some] <;> rfl) | (simp [*, errW_none, errW_some] <;> rfl), by repeat (first | (with_reducible first | exact HB.out | apply below_alloc | apply pw_below_drewN | apply below_drew1 | refine below_set ?_ (Aside0.out (by assumption))) | exact HB.out)⟩

/-! ### sawtoothref02_MulS: a product: pure, behind function 22 -/
noncomputable def sawtoothref02_MulS.f (a b : Int) : Option (Bool × Int × Int) := Go.Proofs.Ytghpecgpdhaibaa.Sp.mulF a b
section Ref02Mul
open Go.Proofs.Ytghpecgpdhaibaa.Sp
theorem sawtoothref02_Mul.main {a b : Int} (h1 : I a) (h2 : I b) : sawtoothref02_Mul.f a b = some (encN (a * b), encH (a * b), encL (a * b)) := by
 unfold sawtoothref02_Mul.f sawtoothref02_OfS.f sawtoothref02_Scale.f sawtoothref02_NegS.f
 have m := mulI h1 h2; have m2 := mulI h1 (b := (b.natAbs : Int) - 1) (by omega)
 rw [ofF_eq h1, sawtoothref02_size.eq h2]
 simp only [Option.bind_some]
 have hm : ((a * (b.natAbs : Int)).natAbs : Int) = ((a * b).natAbs : Int) := by rw [Int.natAbs_mul, Int.natAbs_mul]; simp
 have hb : B (a * (b.natAbs : Int)) := by omega
 rw [scaleF_enc (by omega) (by omega), held_in hb]
 simp only [Option.bind_some]
 rw [negF_enc hb]
 simp only [Option.bind_some]
 by_cases c : b < 0
 ·have e : -(a * (b.natAbs : Int)) = a * b := by rw [show (b.natAbs : Int) = -b by omega, Int.mul_neg, Int.neg_neg]
  rw [if_pos c, e]
 ·have e : (b.natAbs : Int) = b := by omega
  rw [if_neg c, e]
end Ref02Mul
theorem sawtoothref02_MulS.calls (a0 a1 : Int) (r1 : Bool) (r2 r3 : Int) (w : World) (h : sawtoothref02_MulS.f a0 a1 = some (r1, r2, r3)) :
  Calls Try.prog 22 #[.int .i64 a0, .int .i64 a1] w fun e w' => e = .returned (.agg #[.bool r1, .int .u64 r2, .int .u64 r3]) ∧ Below w.heap.size w w' := by
 obtain ⟨hc, h⟩ := Go.Proofs.Ytghpecgpdhaibaa.Sp.need_some h; exact sawtoothref02_Mul.calls a0 a1 r1 r2 r3 w (by rw [sawtoothref02_Mul.main hc.1 hc.2]; exact h)

/-! ### sawtoothref02_less: function 50 -/
noncomputable def sawtoothref02_less.f (a0 a1 a2 a3 b0 b1 b2 b3 : Int) : Option Bool :=
 if a3 = b3 then (if a2 = b2 then (if a1 = b1 then (if a0 = b0 then some false else some (decide (a0 < b0))) else some (decide (a1 < b1))) else some (decide (a2 < b2))) else some (decide (a3 < b3))
set_option maxHeartbeats 4000000 in
set_option maxRecDepth 100000 in
theorem sawtoothref02_less.calls (a0 a1 a2 a3 b0 b1 b2 b3 : Int) (r : Bool) (w : World) (h : sawtoothref02_less.f a0 a1 a2 a3 b0 b1 b2 b3 = some r) :
  Calls Try.prog 50 #[.agg #[.int .u64 a0, .int .u64 a1, .int .u64 a2, .int .u64 a3], .agg #[.int .u64 b0, .int .u64 b1, .int .u64 b2, .int .u64 b3]] w fun e w' => e = .returned (.bool r) ∧ Below w.heap.size w w' := by
 have hu69 := Try.underlying67; have HB := Aside0.mk (Below.refl w.heap.size w)
 unfold sawtoothref02_less.f at h
 by_cases c3 : a3 = b3
 rotate_left
 ·rw [if_neg c3] at h
  obtain rfl := Option.some.inj h; clear h
  have d3 : (a3 != b3) = true := by simp [c3]
  clear c3
  go_enter Try.func50, Try.ntmps50
  go_wp2_with (fail)
  refine wp_loop_rounds 1 ?_
  rw [rounds_succ]
  go_wp2_with (fail)
  go_quiet (fail)
  go_wp2_with (fail)
  go_quiet (fail)
  go_wp2_with (fail)
  go_ret
  exact ⟨rfl, by repeat (first | exact HB.out | apply below_alloc | apply pw_below_drewN)⟩
 rw [if_pos c3] at h
 subst c3
 by_cases c2 : a2 = b2
 rotate_left
 ·rw [if_neg c2] at h
  obtain rfl := Option.some.inj h; clear h
  have d2 : (a2 != b2) = true := by simp [c2]
  clear c2
  go_enter Try.func50, Try.ntmps50
  go_wp2_with (fail)
  refine wp_loop_rounds 2 ?_
  rw [rounds_succ]
  go_wp2_with (fail)
  go_quiet (fail)
  go_wp2_with (fail)
  rw [rounds_succ]
  go_wp2_with (fail)
  go_quiet (fail)
  go_wp2_with (fail)
  go_quiet (fail)
  go_wp2_with (fail)
  go_ret
  exact ⟨rfl, by repeat (first | exact HB.out | apply below_alloc | apply pw_below_drewN)⟩
 rw [if_pos c2] at h
 subst c2
 by_cases c1 : a1 = b1
 rotate_left
 ·rw [if_neg c1] at h
  obtain rfl := Option.some.inj h; clear h
  have d1 : (a1 != b1) = true := by simp [c1]
  clear c1
  go_enter Try.func50, Try.ntmps50
  go_wp2_with (fail)
  refine wp_loop_rounds 3 ?_
  rw [rounds_succ]
  go_wp2_with (fail)
  go_quiet (fail)
  go_wp2_with (fail)
  rw [rounds_succ]
  go_wp2_with (fail)
  go_quiet (fail)
  go_wp2_with (fail)
  rw [rounds_succ]
  go_wp2_with (fail)
  go_quiet (fail)
  go_wp2_with (fail)
  go_quiet (fail)
  go_wp2_with (fail)
  go_ret
  exact ⟨rfl, by repeat (first | exact HB.out | apply below_alloc | apply pw_below_drewN)⟩
 rw [if_pos c1] at h
 subst c1
 by_cases c0 : a0 = b0
 rotate_left
 ·rw [if_neg c0] at h
  obtain rfl := Option.some.inj h; clear h
  have d0 : (a0 != b0) = true := by simp [c0]
  clear c0
  go_enter Try.func50, Try.ntmps50
  go_wp2_with (fail)
  refine wp_loop_rounds 4 ?_
  rw [rounds_succ]
  go_wp2_with (fail)
  go_quiet (fail)
  go_wp2_with (fail)
  rw [rounds_succ]
  go_wp2_with (fail)
  go_quiet (fail)
  go_wp2_with (fail)
  rw [rounds_succ]
  go_wp2_with (fail)
  go_quiet (fail)
  go_wp2_with (fail)
  rw [rounds_succ]
  go_wp2_with (fail)
  go_quiet (fail)
  go_wp2_with (fail)
  go_quiet (fail)
  go_wp2_with (fail)
  go_ret
  exact ⟨rfl, by repeat (first | exact HB.out | apply below_alloc | apply pw_below_drewN)⟩
 rw [if_pos c0] at h
 subst c0
 obtain rfl := Option.some.inj h; clear h
 go_enter Try.func50, Try.ntmps50
 go_wp2_with (fail)
 refine wp_loop_rounds 5 ?_
 rw [rounds_succ]
 go_wp2_with (fail)
 go_quiet (fail)
 go_wp2_with (fail)
 rw [rounds_succ]
 go_wp2_with (fail)
 go_quiet (fail)
 go_wp2_with (fail)
 rw [rounds_succ]
 go_wp2_with (fail)
 go_quiet (fail)
 go_wp2_with (fail)
 rw [rounds_succ]
 go_wp2_with (fail)
 go_quiet (fail)
 go_wp2_with (fail)
 rw [rounds_succ]
 go_wp2_with (fail)
 go_ret
 exact ⟨rfl, by repeat (first | exact HB.out | apply below_alloc | apply pw_below_drewN)⟩
section Ref02Less
open Go.Proofs.Ytghpecgpdhaibaa.Sp
theorem sawtoothref02_less.eq {h l i k : Int} (h1 : U h) (h2 : U l) (h3 : U i) (h4 : U k) : sawtoothref02_less.f (l % 4294967296) (l / 4294967296) (h % 4294967296) (h / 4294967296) (k % 4294967296) (k / 4294967296) (i % 4294967296) (i / 4294967296) = some (decide (h * 18446744073709551616 + l < i * 18446744073709551616 + k)) := by
 unfold sawtoothref02_less.f
 split
 ·split
  ·split
   ·split
    ·rw [decide_eq_false]; omega
    ·congr 1; rw [decide_eq_decide]; omega
   ·congr 1; rw [decide_eq_decide]; omega
  ·congr 1; rw [decide_eq_decide]; omega
 ·congr 1; rw [decide_eq_decide]; omega
end Ref02Less

/-! ### sawtoothref02_plus: function 76 -/
noncomputable def sawtoothref02_plus.f (a0 a1 a2 a3 b0 b1 b2 b3 : Int) : Option (Int × Int × Int × Int × Int) := Go.Proofs.Ytghpecgpdhaibaa.Sp.need (Go.Proofs.Ytghpecgpdhaibaa.Sp.Dg a0 ∧ Go.Proofs.Ytghpecgpdhaibaa.Sp.Dg a1 ∧ Go.Proofs.Ytghpecgpdhaibaa.Sp.Dg a2 ∧ Go.Proofs.Ytghpecgpdhaibaa.Sp.Dg a3 ∧ Go.Proofs.Ytghpecgpdhaibaa.Sp.Dg b0 ∧ Go.Proofs.Ytghpecgpdhaibaa.Sp.Dg b1 ∧ Go.Proofs.Ytghpecgpdhaibaa.Sp.Dg b2 ∧ Go.Proofs.Ytghpecgpdhaibaa.Sp.Dg b3) (some ((a0 + b0) % 4294967296, (a1 + b1 + (a0 + b0) / 4294967296) % 4294967296, (a2 + b2 + (a1 + b1 + (a0 + b0) / 4294967296) / 4294967296) % 4294967296, (a3 + b3 + (a2 + b2 + (a1 + b1 + (a0 + b0) / 4294967296) / 4294967296) / 4294967296) % 4294967296, (a3 + b3 + (a2 + b2 + (a1 + b1 + (a0 + b0) / 4294967296) / 4294967296) / 4294967296) / 4294967296))
set_option maxHeartbeats 4000000 in
set_option maxRecDepth 100000 in
theorem sawtoothref02_plus.walk (a0 a1 a2 a3 b0 b1 b2 b3 s0 o0 c0 t1 s1 o1 c1 t2 s2 o2 c2 t3 s3 o3 c3 : Int) (E0 : IntKind.u64.wrap (a0 + b0) = s0) (F0 : IntKind.u64.wrap s0 = s0) (R0 : Int.tmod s0 4294967296 = o0) (Q0 : IntKind.u64.wrap (Int.tdiv s0 4294967296) = c0) (E1 : IntKind.u64.wrap (a1 + b1) = t1) (F1 : IntKind.u64.wrap (t1 + c0) = s1) (R1 : Int.tmod s1 4294967296 = o1) (Q1 : IntKind.u64.wrap (Int.tdiv s1 4294967296) = c1) (E2 : IntKind.u64.wrap (a2 + b2) = t2) (F2 : IntKind.u64.wrap (t2 + c1) = s2) (R2 : Int.tmod s2 4294967296 = o2) (Q2 : IntKind.u64.wrap (Int.tdiv s2 4294967296) = c2) (E3 : IntKind.u64.wrap (a3 + b3) = t3) (F3 : IntKind.u64.wrap (t3 + c2) = s3) (R3 : Int.tmod s3 4294967296 = o3) (Q3 : IntKind.u64.wrap (Int.tdiv s3 4294967296) = c3) (w : World) :
  Calls Try.prog 76 #[.agg #[.int .u64 a0, .int .u64 a1, .int .u64 a2, .int .u64 a3], .agg #[.int .u64 b0, .int .u64 b1, .int .u64 b2, .int .u64 b3]] w fun e w' => e = .returned (.tuple #[.agg #[.int .u64 o0, .int .u64 o1, .int .u64 o2, .int .u64 o3], .int .u64 c3]) ∧ Below w.heap.size w w' := by
 have hu69 := Try.underlying67; have HB := Aside0.mk (Below.refl w.heap.size w)
 go_enter Try.func76, Try.ntmps76
 go_wp2_with (fail)
 refine wp_loop_rounds 5 ?_
 rw [rounds_succ]
 go_wp2_with (fail)
 go_quiet (fail)
 go_wp2_with (fail)
 rw [rounds_succ]
 go_wp2_with (fail)
 go_quiet (fail)
 go_wp2_with (fail)
 rw [rounds_succ]
 go_wp2_with (fail)
 go_quiet (fail)
 go_wp2_with (fail)
 rw [rounds_succ]
 go_wp2_with (fail)
 go_quiet (fail)
 go_wp2_with (fail)
 rw [rounds_succ]
 go_wp2_with (fail)
 have eB : w.heap.size + 1 + 1 = ((w.alloc (.cells #[.int .u64 a0, .int .u64 a1, .int .u64 a2, .int .u64 a3] 67)).alloc (.cells #[.int .u64 b0, .int .u64 b1, .int .u64 b2, .int .u64 b3] 67)).heap.size := by simp
 refine bodyPost_ret (Go.Proofs.Ytghpecgpdhaibaa.Sp.results_row_tmp rfl _ _ (w.heap.size + 1 + 1) 67 #[.int .u64 o0, .int .u64 o1, .int .u64 o2, .int .u64 o3] (0, 0) _ rfl (by
  refine blk_put (cs := #[.int .u64 o0, .int .u64 o1, .int .u64 o2, .int .u64 0]) ?_ 3 _ rfl; refine blk_put (cs := #[.int .u64 o0, .int .u64 o1, .int .u64 0, .int .u64 0]) ?_ 2 _ rfl; refine blk_put (cs := #[.int .u64 o0, .int .u64 0, .int .u64 0, .int .u64 0]) ?_ 1 _ rfl; refine blk_put (cs := #[.int .u64 0, .int .u64 0, .int .u64 0, .int .u64 0]) ?_ 0 _ rfl; (with_reducible repeat (first | refine blk_far ?_ (by simp) _ | refine blk_drewN ?_ _)); refine blk_alloc ?_ _
  rw [eB]; exact blk_new _ _) hu69 rfl (by first | rfl | kernel_rfl)) rfl ?_
 exact ⟨rfl, by repeat (with_reducible first | exact HB.out | refine below_set ?_ (by omega) | apply below_alloc | apply pw_below_drewN)⟩
theorem sawtoothref02_plus.calls (a0 a1 a2 a3 b0 b1 b2 b3 r0 r1 r2 r3 r4 : Int) (w : World) (h : sawtoothref02_plus.f a0 a1 a2 a3 b0 b1 b2 b3 = some (r0, r1, r2, r3, r4)) :
  Calls Try.prog 76 #[.agg #[.int .u64 a0, .int .u64 a1, .int .u64 a2, .int .u64 a3], .agg #[.int .u64 b0, .int .u64 b1, .int .u64 b2, .int .u64 b3]] w fun e w' => e = .returned (.tuple #[.agg #[.int .u64 r0, .int .u64 r1, .int .u64 r2, .int .u64 r3], .int .u64 r4]) ∧ Below w.heap.size w w' := by
 obtain ⟨⟨A0, A1, A2, A3, B0, B1, B2, B3⟩, h⟩ := Go.Proofs.Ytghpecgpdhaibaa.Sp.need_some h; simp only [Option.some.injEq, Prod.mk.injEq] at h; obtain ⟨rfl, rfl, rfl, rfl, rfl⟩ := h
 have sm : ∀ {x : Int}, 0 ≤ x → x < 18446744073709551616 → IntKind.u64.wrap x = x := fun h1 h2 => Go.Proofs.Ytghpecgpdhaibaa.Sp.u64w_in ⟨h1, h2⟩
 have tm : ∀ {x : Int}, 0 ≤ x → Int.tmod x 4294967296 = x % 4294967296 := fun h => Int.tmod_eq_emod_of_nonneg h
 have td : ∀ {x : Int}, 0 ≤ x → x < 18446744073709551616 → IntKind.u64.wrap (Int.tdiv x 4294967296) = x / 4294967296 := fun h1 h2 => by rw [Int.tdiv_eq_ediv_of_nonneg h1]; exact sm (by omega) (by omega)
 exact sawtoothref02_plus.walk (E0 := sm (by omega) (by omega)) (F0 := sm (by omega) (by omega)) (R0 := tm (by omega)) (Q0 := td (by omega) (by omega)) (E1 := sm (by omega) (by omega)) (F1 := sm (by omega) (by omega)) (R1 := tm (by omega)) (Q1 := td (by omega) (by omega)) (E2 := sm (by omega) (by omega)) (F2 := sm (by omega) (by omega)) (R2 := tm (by omega)) (Q2 := td (by omega) (by omega)) (E3 := sm (by omega) (by omega)) (F3 := sm (by omega) (by omega)) (R3 := tm (by omega)) (Q3 := td (by omega) (by omega)) (w := w)

/-! ### sawtoothref02_minus: function 77 -/
noncomputable def sawtoothref02_minus.f (a0 a1 a2 a3 b0 b1 b2 b3 : Int) : Option (Int × Int × Int × Int) := Go.Proofs.Ytghpecgpdhaibaa.Sp.need (Go.Proofs.Ytghpecgpdhaibaa.Sp.Dg a0 ∧ Go.Proofs.Ytghpecgpdhaibaa.Sp.Dg a1 ∧ Go.Proofs.Ytghpecgpdhaibaa.Sp.Dg a2 ∧ Go.Proofs.Ytghpecgpdhaibaa.Sp.Dg a3 ∧ Go.Proofs.Ytghpecgpdhaibaa.Sp.Dg b0 ∧ Go.Proofs.Ytghpecgpdhaibaa.Sp.Dg b1 ∧ Go.Proofs.Ytghpecgpdhaibaa.Sp.Dg b2 ∧ Go.Proofs.Ytghpecgpdhaibaa.Sp.Dg b3) (some ((4294967296 + a0 - b0) % 4294967296, (4294967296 + a1 - b1 - (1 - (4294967296 + a0 - b0) / 4294967296)) % 4294967296, (4294967296 + a2 - b2 - (1 - (4294967296 + a1 - b1 - (1 - (4294967296 + a0 - b0) / 4294967296)) / 4294967296)) % 4294967296, (4294967296 + a3 - b3 - (1 - (4294967296 + a2 - b2 - (1 - (4294967296 + a1 - b1 - (1 - (4294967296 + a0 - b0) / 4294967296)) / 4294967296)) / 4294967296)) % 4294967296))
set_option maxHeartbeats 4000000 in
set_option maxRecDepth 100000 in
theorem sawtoothref02_minus.walk (a0 a1 a2 a3 b0 b1 b2 b3 t0 u0 s0 o0 q0 c0 t1 u1 s1 o1 q1 c1 t2 u2 s2 o2 q2 c2 t3 u3 s3 o3 q3 c3 : Int) (E0 : IntKind.u64.wrap (4294967296 + a0) = t0) (G0 : IntKind.u64.wrap (t0 - b0) = u0) (F0 : IntKind.u64.wrap (u0) = s0) (R0 : Int.tmod s0 4294967296 = o0) (Q0 : IntKind.u64.wrap (Int.tdiv s0 4294967296) = q0) (Z0 : IntKind.u64.wrap (1 - q0) = c0) (E1 : IntKind.u64.wrap (4294967296 + a1) = t1) (G1 : IntKind.u64.wrap (t1 - b1) = u1) (F1 : IntKind.u64.wrap (u1 - c0) = s1) (R1 : Int.tmod s1 4294967296 = o1) (Q1 : IntKind.u64.wrap (Int.tdiv s1 4294967296) = q1) (Z1 : IntKind.u64.wrap (1 - q1) = c1) (E2 : IntKind.u64.wrap (4294967296 + a2) = t2) (G2 : IntKind.u64.wrap (t2 - b2) = u2) (F2 : IntKind.u64.wrap (u2 - c1) = s2) (R2 : Int.tmod s2 4294967296 = o2) (Q2 : IntKind.u64.wrap (Int.tdiv s2 4294967296) = q2) (Z2 : IntKind.u64.wrap (1 - q2) = c2) (E3 : IntKind.u64.wrap (4294967296 + a3) = t3) (G3 : IntKind.u64.wrap (t3 - b3) = u3) (F3 : IntKind.u64.wrap (u3 - c2) = s3) (R3 : Int.tmod s3 4294967296 = o3) (Q3 : IntKind.u64.wrap (Int.tdiv s3 4294967296) = q3) (Z3 : IntKind.u64.wrap (1 - q3) = c3) (w : World) :
  Calls Try.prog 77 #[.agg #[.int .u64 a0, .int .u64 a1, .int .u64 a2, .int .u64 a3], .agg #[.int .u64 b0, .int .u64 b1, .int .u64 b2, .int .u64 b3]] w fun e w' => e = .returned (.agg #[.int .u64 o0, .int .u64 o1, .int .u64 o2, .int .u64 o3]) ∧ Below w.heap.size w w' := by
 have hu69 := Try.underlying67; have HB := Aside0.mk (Below.refl w.heap.size w)
 go_enter Try.func77, Try.ntmps77
 go_wp2_with (fail)
 refine wp_loop_rounds 5 ?_
 rw [rounds_succ]
 go_wp2_with (fail)
 go_quiet (fail)
 go_wp2_with (fail)
 rw [rounds_succ]
 go_wp2_with (fail)
 go_quiet (fail)
 go_wp2_with (fail)
 rw [rounds_succ]
 go_wp2_with (fail)
 go_quiet (fail)
 go_wp2_with (fail)
 rw [rounds_succ]
 go_wp2_with (fail)
 go_quiet (fail)
 go_wp2_with (fail)
 rw [rounds_succ]
 go_wp2_with (fail)
 have eB : w.heap.size + 1 + 1 = ((w.alloc (.cells #[.int .u64 a0, .int .u64 a1, .int .u64 a2, .int .u64 a3] 67)).alloc (.cells #[.int .u64 b0, .int .u64 b1, .int .u64 b2, .int .u64 b3] 67)).heap.size := by simp
 refine bodyPost_ret (results_cell_row rfl _ _ (w.heap.size + 1 + 1) 67 #[.int .u64 o0, .int .u64 o1, .int .u64 o2, .int .u64 o3] (0, 0) _ rfl (by
  refine blk_put (cs := #[.int .u64 o0, .int .u64 o1, .int .u64 o2, .int .u64 0]) ?_ 3 _ rfl; refine blk_put (cs := #[.int .u64 o0, .int .u64 o1, .int .u64 0, .int .u64 0]) ?_ 2 _ rfl; refine blk_put (cs := #[.int .u64 o0, .int .u64 0, .int .u64 0, .int .u64 0]) ?_ 1 _ rfl; refine blk_put (cs := #[.int .u64 0, .int .u64 0, .int .u64 0, .int .u64 0]) ?_ 0 _ rfl; (with_reducible repeat (first | refine blk_far ?_ (by simp) _ | refine blk_drewN ?_ _)); refine blk_alloc ?_ _
  rw [eB]; exact blk_new _ _) hu69 rfl (by kernel_rfl)) rfl ?_
 exact ⟨rfl, by repeat (with_reducible first | exact HB.out | refine below_set ?_ (by omega) | apply below_alloc | apply pw_below_drewN)⟩
theorem sawtoothref02_minus.calls (a0 a1 a2 a3 b0 b1 b2 b3 r0 r1 r2 r3 : Int) (w : World) (h : sawtoothref02_minus.f a0 a1 a2 a3 b0 b1 b2 b3 = some (r0, r1, r2, r3)) :
  Calls Try.prog 77 #[.agg #[.int .u64 a0, .int .u64 a1, .int .u64 a2, .int .u64 a3], .agg #[.int .u64 b0, .int .u64 b1, .int .u64 b2, .int .u64 b3]] w fun e w' => e = .returned (.agg #[.int .u64 r0, .int .u64 r1, .int .u64 r2, .int .u64 r3]) ∧ Below w.heap.size w w' := by
 obtain ⟨⟨A0, A1, A2, A3, B0, B1, B2, B3⟩, h⟩ := Go.Proofs.Ytghpecgpdhaibaa.Sp.need_some h; simp only [Option.some.injEq, Prod.mk.injEq] at h; obtain ⟨rfl, rfl, rfl, rfl⟩ := h
 have sm : ∀ {x : Int}, 0 ≤ x → x < 18446744073709551616 → IntKind.u64.wrap x = x := fun h1 h2 => Go.Proofs.Ytghpecgpdhaibaa.Sp.u64w_in ⟨h1, h2⟩
 have tm : ∀ {x : Int}, 0 ≤ x → Int.tmod x 4294967296 = x % 4294967296 := fun h => Int.tmod_eq_emod_of_nonneg h
 have td : ∀ {x : Int}, 0 ≤ x → x < 18446744073709551616 → IntKind.u64.wrap (Int.tdiv x 4294967296) = x / 4294967296 := fun h1 h2 => by rw [Int.tdiv_eq_ediv_of_nonneg h1]; exact sm (by omega) (by omega)
 exact sawtoothref02_minus.walk (E0 := sm (by omega) (by omega)) (G0 := sm (by omega) (by omega)) (F0 := sm (by omega) (by omega)) (R0 := tm (by omega)) (Q0 := td (by omega) (by omega)) (Z0 := sm (by omega) (by omega)) (E1 := sm (by omega) (by omega)) (G1 := sm (by omega) (by omega)) (F1 := sm (by omega) (by omega)) (R1 := tm (by omega)) (Q1 := td (by omega) (by omega)) (Z1 := sm (by omega) (by omega)) (E2 := sm (by omega) (by omega)) (G2 := sm (by omega) (by omega)) (F2 := sm (by omega) (by omega)) (R2 := tm (by omega)) (Q2 := td (by omega) (by omega)) (Z2 := sm (by omega) (by omega)) (E3 := sm (by omega) (by omega)) (G3 := sm (by omega) (by omega)) (F3 := sm (by omega) (by omega)) (R3 := tm (by omega)) (Q3 := td (by omega) (by omega)) (Z3 := sm (by omega) (by omega)) (w := w)

end Go.Proofs.Ytghpecgpdhaibaa.Px
