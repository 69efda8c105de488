/- Printed by px.py, over the kit's print. Conditions: none beside the theorems' own. -/
import Derived.Test.YtgakpcfmgcpeaaaDoorPx0
import Derived.Test.YtgakpcfmgcpeaaaDoorPx28
import Derived.Test.YtgakpcfmgcpeaaaDoorPx29
import Derived.Test.YtgakpcfmgcpeaaaDoorSpec
namespace Go.Proofs.YtgakpcfmgcpeaaaDoor.Px
open Go.RowKit Go.Proofs.YtgakpcfmgcpeaaaDoorW.PrintWords Go.Proofs.YtgakpcfmgcpeaaaDoorW.PrintLast Go.Proofs.YtgakpcfmgcpeaaaDoorW.PrintMore
attribute [local go_sem] max2_int min2_int max_two min_two max_three min_three max_four min_four
set_option linter.unusedVariables false
set_option linter.unusedSimpArgs false

/-! ### sawtoothref02_size: function 47 -/
noncomputable def sawtoothref02_size.f (a0 : Int) : Option (Int) := if a0 < 0 then (some (IntKind.u64.wrap ((IntKind.u64.wrap (wrap64 (-(wrap64 (a0 + 1))))) + 1))) else (some (IntKind.u64.wrap (a0)))
set_option maxHeartbeats 8000000 in
set_option maxRecDepth 100000 in
theorem sawtoothref02_size.calls (a0 : Int) (r : Int) (w : World) (h : sawtoothref02_size.f a0 = some r) :
  Calls Tryd.prog 47 #[.int .i64 a0] w fun e w' => e = .returned (.int .u64 r) ∧ Drawn0 w w' := by
 have H : (if a0 < 0 then (some (IntKind.u64.wrap ((IntKind.u64.wrap (wrap64 (-(wrap64 (a0 + 1))))) + 1))) else (some (IntKind.u64.wrap (a0)))) = some r := h; clear h
 by_cases c2 : a0 < 0
 ·rw [if_pos c2] at H
  have c2b0 : decide (a0 < 0) = true := decide_eq_true c2; clear c2; obtain rfl := Option.some.inj H
  go_enter Tryd.func47, Tryd.ntmps47
  go_wp2
  go_ret
  exact ⟨by first | rfl | (simp; done) | (simp [*]; done), by repeat (first | exact Drawn0.refl _ | apply Drawn0.step)⟩
 ·rw [if_neg c2] at H
  have c2b0 : decide (a0 < 0) = false := decide_eq_false c2; clear c2; obtain rfl := Option.some.inj H
  go_enter Tryd.func47, Tryd.ntmps47
  go_wp2
  go_ret
  exact ⟨by first | rfl | (simp; done) | (simp [*]; done), by repeat (first | exact Drawn0.refl _ | apply Drawn0.step)⟩

/-! ### sawtoothref02_Of: function 21 -/
noncomputable def sawtoothref02_Of.f (a0 : Int) : Option (Bool × Int × Int) := (sawtoothref02_size.f a0).bind fun t326 => (some (decide (a0 < 0), 0, t326))
set_option maxHeartbeats 8000000 in
set_option maxRecDepth 100000 in
theorem sawtoothref02_Of.calls (a0 : Int) (r1 : Bool) (r2 : Int) (r3 : Int) (w : World) (h : sawtoothref02_Of.f a0 = some (r1, r2, r3)) :
  Calls Tryd.prog 21 #[.int .i64 a0] w fun e w' => e = .returned (.agg #[.bool r1, .int .u64 r2, .int .u64 r3]) ∧ Below w.heap.size w w' := by
 have hu33 := Tryd.underlying33; have HB := Aside0.mk (Below.refl w.heap.size w); have H : ((sawtoothref02_size.f a0).bind fun t326 => (some (decide (a0 < 0), 0, t326))) = some (r1, r2, r3) := h; clear h; replace H := Option.bind_eq_some_iff.mp H; obtain ⟨t326, A20, H⟩ := H; replace H : (some (decide (a0 < 0), 0, t326)) = some (r1, r2, r3) := H; have A2 := Aside0.mk A20; clear A20; simp only [Option.some.injEq, Prod.mk.injEq] at H; obtain ⟨rfl, rfl, rfl⟩ := H
 go_enter Tryd.func21, Tryd.ntmps21
 go_wp2_with (first | ((with_reducible refine gate_dst (N := 2) rfl ?_); refine box_event ?hg (N := 2) ?hd (cs := #[.bool false, .int .u64 0, .int .u64 0]) (t := 33) ?hr ?_; (case hd => rfl); (case hg => rfl); (case hr => first | (go_simp; done) | (go_simp; rfl)); intro gb325 hg w3 hbox hb; have BK325 := Aside0.mk (hbox); obtain ⟨GW325, nHB⟩ := geA hg hb; have GE325 := GW325; replace HB := nHB; clear nHB; clear hb hbox hg) | ((with_reducible refine gate_callee (f := 47) rfl ?_); refine goesLA_ (some 6) rfl rfl Tryd.func47 rfl #[.int .i64 a0] rfl ?_; (with_reducible refine (sawtoothref02_size.calls a0 t326 _ A2.out).mono ?_); rintro e w' ⟨rfl, ⟨nd, rfl⟩⟩; refine ⟨_, rfl, ?_⟩; (try (rw [drewN_self w3]; generalize hq_ : World.drewN w3 _ = w3; have n0_ : Aside0 (w3.heap[gb325]? = some (.cells #[.bool false, .int .u64 0, .int .u64 0] 33 (0, 0))) := ⟨by rw [← hq_]; exact (by (with_reducible repeat first | apply blk_drewN | apply blk_drew | apply blk_alloc); exact BK325.out)⟩; have n1_ : Aside0 (Below w.heap.size w w3) := ⟨by rw [← hq_]; exact (by repeat (first | (with_reducible first | exact HB.out | apply below_alloc | apply pw_below_drewN | apply below_drew1 | refine below_set ?_ GE325.out) | exact HB.out))⟩; clear BK325 HB hq_; have BK325 := n0_; have HB := n1_; clear n0_ n1_)); have hcz4_0 := czZ BK325 0 (.bool false); have hcz4_1 := czZ BK325 1 (.int .u64 0); have hcz4_2 := czZ BK325 2 (.int .u64 0); have hfz4_0 := blk_frozen BK325.out 0; have hfz4_1 := blk_frozen BK325.out 1; have hfz4_2 := blk_frozen BK325.out 2))
 refine bodyPost_ret (results_cell_row rfl _ _ gb325 33 #[.bool (decide (a0 < 0)), .int .u64 0, .int .u64 t326] (0, 0) _ rfl (by (with_reducible repeat first | apply blk_drewN | apply blk_drew | apply blk_alloc); refine blk_put (cs := #[.bool (decide (a0 < 0)), .int .u64 0, .int .u64 0]) ?_ 2 _ rfl; (with_reducible repeat first | apply blk_drewN | apply blk_drew | apply blk_alloc); refine blk_put (cs := #[.bool (decide (a0 < 0)), .int .u64 0, .int .u64 0]) ?_ 1 _ rfl; (with_reducible repeat first | apply blk_drewN | apply blk_drew | apply blk_alloc); refine blk_put (cs := #[.bool false, .int .u64 0, .int .u64 0]) ?_ 0 _ rfl; (with_reducible repeat first | apply blk_drewN | apply blk_drew | apply blk_alloc); exact BK325.out) Tryd.underlying33 rfl (by kernel_rfl)) rfl ?_; exact ⟨by first | rfl | (simp [errW_none, errW_some] <;> rfl) | (simp [*, errW_none, errW_some] <;> rfl), by repeat (first | (with_reducible first | exact HB.out | apply below_alloc | apply pw_below_drewN | apply below_drew1 | refine below_set ?_ GE325.out) | exact HB.out)⟩

/-! ### sawtoothref02_OfS: a number: pure, behind function 21 -/
noncomputable def sawtoothref02_OfS.f (a : Int) : Option (Bool × Int × Int) := Sp.ofF a
section Ref02Of
open Go.Proofs.YtgakpcfmgcpeaaaDoor.Sp
theorem sawtoothref02_size.eq {a : Int} (h : I a) : sawtoothref02_size.f a = some (a.natAbs : Int) := by
 unfold sawtoothref02_size.f
 have e1 : wrap64 (a + 1) = wrap64 (a + 1) := rfl
 by_cases ha : a < 0
 ·rw [if_pos ha, w64 (x := a + 1) (by omega), w64 (x := -(a + 1)) (by omega), u64w, u64w]; congr 1; omega
 ·rw [if_neg ha, u64w]; congr 1; omega
theorem sawtoothref02_Of.main {a : Int} (h : I a) : sawtoothref02_Of.f a = some (encN a, encH a, encL a) := by
 unfold sawtoothref02_Of.f
 rw [sawtoothref02_size.eq h]
 simp only [Option.bind_some]
 have e2 : encH a = 0 := by unfold encH; omega
 have e3 : encL a = (a.natAbs : Int) := by unfold encL; omega
 rw [e2, e3]; rfl
end Ref02Of
theorem sawtoothref02_OfS.calls (a0 : Int) (r1 : Bool) (r2 r3 : Int) (w : World) (h : sawtoothref02_OfS.f a0 = some (r1, r2, r3)) :
  Calls Tryd.prog 21 #[.int .i64 a0] w fun e w' => e = .returned (.agg #[.bool r1, .int .u64 r2, .int .u64 r3]) ∧ Below w.heap.size w w' := by
 obtain ⟨hc, h⟩ := Sp.need_some h; exact sawtoothref02_Of.calls a0 r1 r2 r3 w (by rw [sawtoothref02_Of.main hc]; exact h)

/-! ### sawtoothref02_Neg: function 44 -/
noncomputable def sawtoothref02_Neg.f (a0_0 : Bool) (a0_1 : Int) (a0_2 : Int) : Option (Bool × Int × Int) := (sawtoothref02_digits.f a0_0 a0_1 a0_2).bind fun bt329 => ((sawtoothref02_wholeS.f bt329.1 bt329.2.1 bt329.2.2.1 bt329.2.2.2 (!a0_0)).bind fun bt333 => (some (bt333.1, bt333.2.1, bt333.2.2)))
set_option maxHeartbeats 8000000 in
set_option maxRecDepth 100000 in
theorem sawtoothref02_Neg.calls (a0_0 : Bool) (a0_1 : Int) (a0_2 : Int) (r1 : Bool) (r2 : Int) (r3 : Int) (w : World) (h : sawtoothref02_Neg.f a0_0 a0_1 a0_2 = some (r1, r2, r3)) :
  Calls Tryd.prog 44 #[.agg #[.bool a0_0, .int .u64 a0_1, .int .u64 a0_2]] w fun e w' => e = .returned (.agg #[.bool r1, .int .u64 r2, .int .u64 r3]) ∧ Below w.heap.size w w' := by
 have hu33 := Tryd.underlying33; have HB := Aside0.mk (Below.refl w.heap.size w); have H : ((sawtoothref02_digits.f a0_0 a0_1 a0_2).bind fun bt329 => ((sawtoothref02_wholeS.f bt329.1 bt329.2.1 bt329.2.2.1 bt329.2.2.2 (!a0_0)).bind fun bt333 => (some (bt333.1, bt333.2.1, bt333.2.2)))) = some (r1, r2, r3) := h; clear h; replace H := Option.bind_eq_some_iff.mp H; obtain ⟨⟨t329, t330, t331, t332⟩, A20, H⟩ := H; replace H : ((sawtoothref02_wholeS.f t329 t330 t331 t332 (!a0_0)).bind fun bt333 => (some (bt333.1, bt333.2.1, bt333.2.2))) = some (r1, r2, r3) := H; have A2 := Aside0.mk A20; clear A20; replace H := Option.bind_eq_some_iff.mp H; obtain ⟨⟨t333, t334, t335⟩, A30, H⟩ := H; replace H : (some (t333, t334, t335)) = some (r1, r2, r3) := H; have A3 := Aside0.mk A30; clear A30; simp only [Option.some.injEq, Prod.mk.injEq] at H; obtain ⟨rfl, rfl, rfl⟩ := H
 go_enter Tryd.func44, Tryd.ntmps44
 try go_wp2_with (first | ((with_reducible refine gate_dst (N := 1) rfl ?_); refine box_event ?hg (N := 1) ?hd (cs := #[.bool a0_0, .int .u64 a0_1, .int .u64 a0_2]) (t := 33) ?hr ?_; (case hd => rfl); (case hg => rfl); (case hr => first | (go_simp; done) | (go_simp; rfl)); intro gb327 hg w4 hbox hb; have BK327 := Aside0.mk (hbox); obtain ⟨GW327, nHB⟩ := geA hg hb; have GE327 := GW327; replace HB := nHB; clear nHB; clear hb hbox hg) | ((with_reducible refine gate_dst (N := 2) rfl ?_); refine box_event ?hg (N := 2) ?hd (cs := #[.bool false, .int .u64 0, .int .u64 0]) (t := 33) ?hr ?_; (case hd => rfl); (case hg => rfl); (case hr => first | (go_simp; done) | (go_simp; rfl)); intro gb328 hg w5 hbox hb; have BK328 := Aside0.mk (hbox); obtain ⟨GW328, nHB⟩ := geA hg hb; have GE328 := GW328; obtain ⟨NB327_328, NB328_327, nBK⟩ := nbA BK327 hg hb; replace BK327 := nBK; clear nBK; replace HB := nHB; clear nHB; clear hb hbox hg))
 replace BK327 := Aside0.mk (blk_drew BK327.out); replace BK328 := Aside0.mk (blk_drew BK328.out); replace HB := Aside0.mk (below_drew1 HB.out); refine start_ (n := 7) (S := fun w' => w'.cell? ⟨gb327, 0, none⟩ = some (.bool a0_0) ∧ w'.cell? ⟨gb327, 1, none⟩ = some (.int .u64 a0_1) ∧ w'.cell? ⟨gb327, 2, none⟩ = some (.int .u64 a0_2)) (ds := []) #[N,N,N,N,N,N,N] (by kernel_rfl) rfl rfl ⟨(blk_cell BK327.out 0).trans rfl, (blk_cell BK327.out 1).trans rfl, (blk_cell BK327.out 2).trans rfl⟩ (fun hHeld => ?_)
 generalize w5.drew = w6 at BK327 BK328 HB hHeld ⊢
 refine pureA_ (i := 2) (N := some 5) #[N,N,Y,N,N,N,N] rfl rfl (by kernel_rfl) ?_
 refine take_ (i := 0) (N := some 3) (v := ?_) (a' := ?_) #[Y,N,Y,N,N,N,N] rfl rfl (by kernel_rfl) (fun _ _ _ h => h) (Or.inl ⟨by rfl, ?_⟩) hHeld ?_ ?_; rotate_left
 ·rintro w' ⟨s0, s1, s2⟩; go_simp
  with_reducible rfl
 rotate_left
 ·simp only [Act.put, sA, sB, sC, i64_w, i32_w]
  rfl
 refine take_ (i := 3) (N := some 6) (v := ?_) (a' := ?_) #[Y,N,Y,Y,N,N,N] rfl rfl (by kernel_rfl) (fun _ _ _ h => h) (Or.inl ⟨by rfl, ?_⟩) hHeld ?_ ?_; rotate_left
 ·rintro w' ⟨s0, s1, s2⟩; go_simp
  with_reducible rfl
 rotate_left
 ·simp only [Act.put, sA, sB, sC, i64_w, i32_w]
  rfl
 refine pureA_ (i := 4) (N := some 7) #[Y,N,Y,Y,Y,N,N] rfl rfl (by kernel_rfl) ?_
 refine one_ (i := 1) (N := some 4) #[Y,Y,Y,Y,Y,N,N] rfl rfl (by kernel_rfl) (by decide) (fun K hK => ?_); refine goesA_ Tryd.func45 rfl #[.agg #[.bool a0_0, .int .u64 a0_1, .int .u64 a0_2]] (by rfl) rfl rfl ?_
 with_reducible refine (sawtoothref02_digits.calls a0_0 a0_1 a0_2 t329 t330 t331 t332 _ A2.out).mono ?_
 rintro e w7 ⟨rfl, hb⟩; refine ⟨_, rfl, ?_⟩; replace BK327 := bbZ BK327 hb; replace BK328 := bbZ BK328 hb; replace HB := Aside0.mk (below_step HB.out hb); clear hb; refine hK.out _ _ ⟨(blk_cell BK327.out 0).trans rfl, (blk_cell BK327.out 1).trans rfl, (blk_cell BK327.out 2).trans rfl⟩ (fun hHeld => ?_); clear hK K; refine normA_ (some 4) ?_
 refine one_ (i := 5) (N := some 8) #[Y,Y,Y,Y,Y,Y,N] rfl rfl (by kernel_rfl) (by decide) (fun K hK => ?_); refine goesA_ Tryd.func46 rfl #[.agg #[.int .u64 t329, .int .u64 t330, .int .u64 t331, .int .u64 t332], .bool (!a0_0)] (by rfl) rfl rfl ?_
 with_reducible refine (sawtoothref02_wholeS.calls t329 t330 t331 t332 (!a0_0) t333 t334 t335 _ A3.out).mono ?_
 rintro e w8 ⟨rfl, hb⟩; refine ⟨_, rfl, ?_⟩; replace BK327 := bbZ BK327 hb; replace BK328 := bbZ BK328 hb; replace HB := Aside0.mk (below_step HB.out hb); clear hb; refine hK.out _ _ ⟨(blk_cell BK327.out 0).trans rfl, (blk_cell BK327.out 1).trans rfl, (blk_cell BK327.out 2).trans rfl⟩ (fun hHeld => ?_); clear hK K; refine normA_ (some 8) ?_
 refine one_ (i := 6) (N := none) #[Y,Y,Y,Y,Y,Y,Y] rfl rfl (by kernel_rfl) (by decide) (fun K hK => ?_); have hs9 := czZ BK328 0 (.bool false); have hfs9 := blk_frozen BK328.out 0; have hns9_0 := NB327_328.out; have hms9_0 := NB328_327.out; have hs10 := czZ BK328 1 (.int .u64 0); have hfs10 := blk_frozen BK328.out 1; have hns10_0 := NB327_328.out; have hms10_0 := NB328_327.out; have hs11 := czZ BK328 2 (.int .u64 0); have hfs11 := blk_frozen BK328.out 2; have hns11_0 := NB327_328.out; have hms11_0 := NB328_327.out; refine skip_ (w1 := ?_) (by rfl) rfl ?_ ?_; rotate_left
 ·go_simp
  rfl
 refine hK.out _ _ ⟨((cell_far (p := ⟨gb328, _, none⟩) NB327_328.out _).trans (((cell_far (p := ⟨gb328, _, none⟩) NB327_328.out _).trans (((cell_far (p := ⟨gb328, _, none⟩) NB327_328.out _).trans (hHeld.1)))))), ((cell_far (p := ⟨gb328, _, none⟩) NB327_328.out _).trans (((cell_far (p := ⟨gb328, _, none⟩) NB327_328.out _).trans (((cell_far (p := ⟨gb328, _, none⟩) NB327_328.out _).trans (hHeld.2.1)))))), ((cell_far (p := ⟨gb328, _, none⟩) NB327_328.out _).trans (((cell_far (p := ⟨gb328, _, none⟩) NB327_328.out _).trans (((cell_far (p := ⟨gb328, _, none⟩) NB327_328.out _).trans (hHeld.2.2))))))⟩ (fun hHeld => ?_); clear hK K; refine done_ (by kernel_rfl) ?_
 try go_wp2
 refine bodyPost_ret (results_cell_row rfl _ _ gb328 33 #[.bool t333, .int .u64 t334, .int .u64 t335] (0, 0) _ rfl (by (with_reducible repeat first | apply blk_drewN | apply blk_drew | apply blk_alloc); refine blk_put (cs := #[.bool t333, .int .u64 t334, .int .u64 0]) ?_ 2 _ rfl; (with_reducible repeat first | apply blk_drewN | apply blk_drew | apply blk_alloc); refine blk_put (cs := #[.bool t333, .int .u64 0, .int .u64 0]) ?_ 1 _ rfl; (with_reducible repeat first | apply blk_drewN | apply blk_drew | apply blk_alloc); refine blk_put (cs := #[.bool false, .int .u64 0, .int .u64 0]) ?_ 0 _ rfl; (with_reducible repeat first | apply blk_drewN | apply blk_drew | apply blk_alloc); exact BK328.out) Tryd.underlying33 rfl (by kernel_rfl)) rfl ?_; exact ⟨by first | rfl | (simp [errW_none, errW_some] <;> rfl) | (simp [*, errW_none, errW_some] <;> rfl), by repeat (first | (with_reducible first | exact HB.out | apply below_alloc | apply pw_below_drewN | apply below_drew1 | refine below_set ?_ (Aside0.out (by assumption))) | exact HB.out)⟩

/-! ### sawtoothref02_NegS: that of the other sign: pure, behind function 44 -/
noncomputable def sawtoothref02_NegS.f (n : Bool) (h l : Int) : Option (Bool × Int × Int) := Sp.negF n h l
section Ref02Neg
open Go.Proofs.YtgakpcfmgcpeaaaDoor.Sp
theorem sawtoothref02_Neg.main {n : Bool} {h l : Int} (h1 : U h) (h2 : U l) : sawtoothref02_Neg.f n h l = some (encN (-val n h l), encH (-val n h l), encL (-val n h l)) := by
 unfold sawtoothref02_Neg.f
 rw [sawtoothref02_digits.eq h1 h2]
 simp only [Option.bind_some]
 rw [sawtoothref02_wholeS.eq (by omega) (by omega) (by omega) (by omega)]
 simp only [Option.bind_some]
 have e1 : h / 4294967296 * 4294967296 + h % 4294967296 = h := by omega
 have e2 : l / 4294967296 * 4294967296 + l % 4294967296 = l := by omega
 have e : val (!n) h l = -val n h l := by unfold val; cases n <;> simp
 rw [e1, e2, e]
end Ref02Neg
theorem sawtoothref02_NegS.calls (a0_0 : Bool) (a0_1 a0_2 : Int) (r1 : Bool) (r2 r3 : Int) (w : World) (h : sawtoothref02_NegS.f a0_0 a0_1 a0_2 = some (r1, r2, r3)) :
  Calls Tryd.prog 44 #[.agg #[.bool a0_0, .int .u64 a0_1, .int .u64 a0_2]] w fun e w' => e = .returned (.agg #[.bool r1, .int .u64 r2, .int .u64 r3]) ∧ Below w.heap.size w w' := by
 obtain ⟨hc, h⟩ := Sp.need_some h; exact sawtoothref02_Neg.calls a0_0 a0_1 a0_2 r1 r2 r3 w (by rw [sawtoothref02_Neg.main hc.1 hc.2]; exact h)

/-! ### sawtoothref02_Mul: function 43 -/
noncomputable def sawtoothref02_Mul.f (a0 : Int) (a1 : Int) : Option (Bool × Int × Int) := (sawtoothref02_OfS.f a0).bind fun bt337 => ((sawtoothref02_size.f a1).bind fun t340 => ((sawtoothref02_Scale.f bt337.1 bt337.2.1 bt337.2.2 t340).bind fun bt341 => (if a1 < 0 then ((sawtoothref02_NegS.f bt341.1 bt341.2.1 bt341.2.2.1).bind fun bt346 => (some (bt346.1, bt346.2.1, bt346.2.2))) else (some (bt341.1, bt341.2.1, bt341.2.2.1)))))
set_option maxHeartbeats 8000000 in
set_option maxRecDepth 100000 in
theorem sawtoothref02_Mul.calls (a0 : Int) (a1 : Int) (r1 : Bool) (r2 : Int) (r3 : Int) (w : World) (h : sawtoothref02_Mul.f a0 a1 = some (r1, r2, r3)) :
  Calls Tryd.prog 43 #[.int .i64 a0, .int .i64 a1] w fun e w' => e = .returned (.agg #[.bool r1, .int .u64 r2, .int .u64 r3]) ∧ Below w.heap.size w w' := by
 have hu33 := Tryd.underlying33; have HB := Aside0.mk (Below.refl w.heap.size w); have H : ((sawtoothref02_OfS.f a0).bind fun bt337 => ((sawtoothref02_size.f a1).bind fun t340 => ((sawtoothref02_Scale.f bt337.1 bt337.2.1 bt337.2.2 t340).bind fun bt341 => (if a1 < 0 then ((sawtoothref02_NegS.f bt341.1 bt341.2.1 bt341.2.2.1).bind fun bt346 => (some (bt346.1, bt346.2.1, bt346.2.2))) else (some (bt341.1, bt341.2.1, bt341.2.2.1)))))) = some (r1, r2, r3) := h; clear h; replace H := Option.bind_eq_some_iff.mp H; obtain ⟨⟨t337, t338, t339⟩, A30, H⟩ := H; (try dsimp only at H); have A3 := Aside0.mk A30; clear A30; replace H := Option.bind_eq_some_iff.mp H; obtain ⟨t340, A40, H⟩ := H; (try dsimp only at H); have A4 := Aside0.mk A40; clear A40; replace H := Option.bind_eq_some_iff.mp H; obtain ⟨⟨t341, t342, t343, t344⟩, A50, H⟩ := H; replace H : (if a1 < 0 then ((sawtoothref02_NegS.f t341 t342 t343).bind fun bt346 => (some (bt346.1, bt346.2.1, bt346.2.2))) else (some (t341, t342, t343))) = some (r1, r2, r3) := H; have A5 := Aside0.mk A50; clear A50
 by_cases c6 : a1 < 0
 ·rw [if_pos c6] at H
  have c6b0 : decide (a1 < 0) = true := decide_eq_true c6; clear c6; replace H := Option.bind_eq_some_iff.mp H; obtain ⟨⟨t346, t347, t348⟩, A70, H⟩ := H; replace H : (some (t346, t347, t348)) = some (r1, r2, r3) := H; have A7 := Aside0.mk A70; clear A70; simp only [Option.some.injEq, Prod.mk.injEq] at H; obtain ⟨rfl, rfl, rfl⟩ := H
  go_enter Tryd.func43, Tryd.ntmps43
  go_wp2_with (first | ((with_reducible refine gate_dst (N := 4) rfl ?_); refine box_event ?hg (N := 4) ?hd (cs := #[.bool false, .int .u64 0, .int .u64 0]) (t := 33) ?hr ?_; (case hd => rfl); (case hg => rfl); (case hr => first | (go_simp; done) | (go_simp; rfl)); intro gb336 hg w8 hbox hb; have BK336 := Aside0.mk (hbox); obtain ⟨GW336, nHB⟩ := geA hg hb; have GE336 := GW336; replace HB := nHB; clear nHB; clear hb hbox hg) | ((with_reducible refine gate_callee (f := 21) rfl ?_); refine goesLA_ (some 9) rfl rfl Tryd.func21 rfl #[.int .i64 a0] rfl ?_; (with_reducible refine (sawtoothref02_OfS.calls a0 t337 t338 t339 _ A3.out).mono ?_); rintro e w9 ⟨rfl, hb⟩; refine ⟨_, rfl, ?_⟩; replace BK336 := bdZ BK336 hb; replace HB := stA hb; clear hb) | ((with_reducible refine gate_callee (f := 47) rfl ?_); refine goesLA_ (some 11) rfl rfl Tryd.func47 rfl #[.int .i64 a1] rfl ?_; (with_reducible refine (sawtoothref02_size.calls a1 t340 _ A4.out).mono ?_); rintro e w' ⟨rfl, ⟨nd, rfl⟩⟩; refine ⟨_, rfl, ?_⟩; (try (rw [drewN_self w9]; generalize hq_ : World.drewN w9 _ = w9; have n0_ : Aside0 (w9.heap[gb336]? = some (.cells #[.bool false, .int .u64 0, .int .u64 0] 33 (0, 0))) := ⟨by rw [← hq_]; exact (by (with_reducible repeat first | apply blk_drewN | apply blk_drew | apply blk_alloc); exact BK336.out)⟩; have n1_ : Aside0 (Below w.heap.size w w9) := ⟨by rw [← hq_]; exact (by repeat (first | (with_reducible first | exact HB.out | apply below_alloc | apply pw_below_drewN | apply below_drew1 | refine below_set ?_ GE336.out) | exact HB.out))⟩; clear BK336 HB hq_; have BK336 := n0_; have HB := n1_; clear n0_ n1_))) | ((with_reducible refine gate_callee (f := 20) rfl ?_); refine goesLA_ (some 12) rfl rfl Tryd.func20 rfl #[.agg #[.bool t337, .int .u64 t338, .int .u64 t339], .int .u64 t340] rfl ?_; (with_reducible refine (sawtoothref02_Scale.calls t337 t338 t339 t340 t341 t342 t343 t344 _ A5.out).mono ?_); rintro e w10 ⟨rfl, hb⟩; refine ⟨_, rfl, ?_⟩; replace BK336 := bdZ BK336 hb; replace HB := stA hb; clear hb) | ((with_reducible refine gate_dst (N := 5) rfl ?_); refine box_event ?hg (N := 5) ?hd (cs := #[.bool false, .int .u64 0, .int .u64 0]) (t := 33) ?hr ?_; (case hd => rfl); (case hg => rfl); (case hr => first | (go_simp; done) | (go_simp; rfl)); intro gb345 hg w11 hbox hb; have BK345 := Aside0.mk (hbox); obtain ⟨GW345, nHB⟩ := geA hg hb; have GE345 := GW345; obtain ⟨NB336_345, NB345_336, nBK⟩ := nbA BK336 hg hb; replace BK336 := nBK; clear nBK; replace HB := nHB; clear nHB; clear hb hbox hg; have hnb12 := NB345_336.out; have hnc12 := NB336_345.out; have hcz13_0 := czZ BK345 0 (.bool false); have hcz13_1 := czZ BK345 1 (.int .u64 0); have hcz13_2 := czZ BK345 2 (.int .u64 0); have hfz13_0 := blk_frozen BK345.out 0; have hfz13_1 := blk_frozen BK345.out 1; have hfz13_2 := blk_frozen BK345.out 2) | ((with_reducible refine gate_callee (f := 44) rfl ?_); refine goesLA_ (some 18) rfl rfl Tryd.func44 rfl #[.agg #[.bool t341, .int .u64 t342, .int .u64 t343]] rfl ?_; (with_reducible refine (sawtoothref02_NegS.calls t341 t342 t343 t346 t347 t348 _ A7.out).mono ?_); rintro e w14 ⟨rfl, hb⟩; refine ⟨_, rfl, ?_⟩; replace BK336 := bfZ BK336 (fun h_ => by (with_reducible repeat first | apply blk_drewN | apply blk_drew | apply blk_alloc | refine farZ ?_ NB336_345 _); exact h_) hb; replace BK345 := Aside0.mk (blk_below (g := gb345) (o := .cells #[.bool t341, .int .u64 t342, .int .u64 t343] 33 (0, 0)) (by (with_reducible repeat first | apply blk_drewN | apply blk_drew | apply blk_alloc); refine blk_put (cs := #[.bool t341, .int .u64 t342, .int .u64 0]) ?_ 2 _ rfl; (with_reducible repeat first | apply blk_drewN | apply blk_drew | apply blk_alloc); refine blk_put (cs := #[.bool t341, .int .u64 0, .int .u64 0]) ?_ 1 _ rfl; (with_reducible repeat first | apply blk_drewN | apply blk_drew | apply blk_alloc); refine blk_put (cs := #[.bool false, .int .u64 0, .int .u64 0]) ?_ 0 _ rfl; (with_reducible repeat first | apply blk_drewN | apply blk_drew | apply blk_alloc); exact BK345.out) hb); replace HB := stA hb; clear hb; have hcz15_0 := czZ BK336 0 (.bool false); have hcz15_1 := czZ BK336 1 (.int .u64 0); have hcz15_2 := czZ BK336 2 (.int .u64 0); have hfz15_0 := blk_frozen BK336.out 0; have hfz15_1 := blk_frozen BK336.out 1; have hfz15_2 := blk_frozen BK336.out 2))
  refine bodyPost_ret (results_cell_row rfl _ _ gb336 33 #[.bool t346, .int .u64 t347, .int .u64 t348] (0, 0) _ rfl (by (with_reducible repeat first | apply blk_drewN | apply blk_drew | apply blk_alloc); refine blk_put (cs := #[.bool t346, .int .u64 t347, .int .u64 0]) ?_ 2 _ rfl; (with_reducible repeat first | apply blk_drewN | apply blk_drew | apply blk_alloc); refine blk_put (cs := #[.bool t346, .int .u64 0, .int .u64 0]) ?_ 1 _ rfl; (with_reducible repeat first | apply blk_drewN | apply blk_drew | apply blk_alloc); refine blk_put (cs := #[.bool false, .int .u64 0, .int .u64 0]) ?_ 0 _ rfl; (with_reducible repeat first | apply blk_drewN | apply blk_drew | apply blk_alloc); exact BK336.out) Tryd.underlying33 rfl (by kernel_rfl)) rfl ?_; exact ⟨by first | rfl | (simp [errW_none, errW_some] <;> rfl) | (simp [*, errW_none, errW_some] <;> rfl), by repeat (first | (with_reducible first | exact HB.out | apply below_alloc | apply pw_below_drewN | apply below_drew1 | refine below_set ?_ (Aside0.out (by assumption))) | exact HB.out)⟩
 ·rw [if_neg c6] at H
  have c6b0 : decide (a1 < 0) = false := decide_eq_false c6; clear c6; simp only [Option.some.injEq, Prod.mk.injEq] at H; obtain ⟨rfl, rfl, rfl⟩ := H
  go_enter Tryd.func43, Tryd.ntmps43
  go_wp2_with (first | ((with_reducible refine gate_dst (N := 4) rfl ?_); refine box_event ?hg (N := 4) ?hd (cs := #[.bool false, .int .u64 0, .int .u64 0]) (t := 33) ?hr ?_; (case hd => rfl); (case hg => rfl); (case hr => first | (go_simp; done) | (go_simp; rfl)); intro gb336 hg w16 hbox hb; have BK336 := Aside0.mk (hbox); obtain ⟨GW336, nHB⟩ := geA hg hb; have GE336 := GW336; replace HB := nHB; clear nHB; clear hb hbox hg) | ((with_reducible refine gate_callee (f := 21) rfl ?_); refine goesLA_ (some 9) rfl rfl Tryd.func21 rfl #[.int .i64 a0] rfl ?_; (with_reducible refine (sawtoothref02_OfS.calls a0 t337 t338 t339 _ A3.out).mono ?_); rintro e w17 ⟨rfl, hb⟩; refine ⟨_, rfl, ?_⟩; replace BK336 := bdZ BK336 hb; replace HB := stA hb; clear hb) | ((with_reducible refine gate_callee (f := 47) rfl ?_); refine goesLA_ (some 11) rfl rfl Tryd.func47 rfl #[.int .i64 a1] rfl ?_; (with_reducible refine (sawtoothref02_size.calls a1 t340 _ A4.out).mono ?_); rintro e w' ⟨rfl, ⟨nd, rfl⟩⟩; refine ⟨_, rfl, ?_⟩; (try (rw [drewN_self w17]; generalize hq_ : World.drewN w17 _ = w17; have n0_ : Aside0 (w17.heap[gb336]? = some (.cells #[.bool false, .int .u64 0, .int .u64 0] 33 (0, 0))) := ⟨by rw [← hq_]; exact (by (with_reducible repeat first | apply blk_drewN | apply blk_drew | apply blk_alloc); exact BK336.out)⟩; have n1_ : Aside0 (Below w.heap.size w w17) := ⟨by rw [← hq_]; exact (by repeat (first | (with_reducible first | exact HB.out | apply below_alloc | apply pw_below_drewN | apply below_drew1 | refine below_set ?_ GE336.out) | exact HB.out))⟩; clear BK336 HB hq_; have BK336 := n0_; have HB := n1_; clear n0_ n1_))) | ((with_reducible refine gate_callee (f := 20) rfl ?_); refine goesLA_ (some 12) rfl rfl Tryd.func20 rfl #[.agg #[.bool t337, .int .u64 t338, .int .u64 t339], .int .u64 t340] rfl ?_; (with_reducible refine (sawtoothref02_Scale.calls t337 t338 t339 t340 t341 t342 t343 t344 _ A5.out).mono ?_); rintro e w18 ⟨rfl, hb⟩; refine ⟨_, rfl, ?_⟩; replace BK336 := bdZ BK336 hb; replace HB := stA hb; clear hb) | ((with_reducible refine gate_dst (N := 5) rfl ?_); refine box_event ?hg (N := 5) ?hd (cs := #[.bool false, .int .u64 0, .int .u64 0]) (t := 33) ?hr ?_; (case hd => rfl); (case hg => rfl); (case hr => first | (go_simp; done) | (go_simp; rfl)); intro gb345 hg w19 hbox hb; have BK345 := Aside0.mk (hbox); obtain ⟨GW345, nHB⟩ := geA hg hb; have GE345 := GW345; obtain ⟨NB336_345, NB345_336, nBK⟩ := nbA BK336 hg hb; replace BK336 := nBK; clear nBK; replace HB := nHB; clear nHB; clear hb hbox hg; have hnb20 := NB345_336.out; have hnc20 := NB336_345.out; have hcz21_0 := czZ BK345 0 (.bool false); have hcz21_1 := czZ BK345 1 (.int .u64 0); have hcz21_2 := czZ BK345 2 (.int .u64 0); have hfz21_0 := blk_frozen BK345.out 0; have hfz21_1 := blk_frozen BK345.out 1; have hfz21_2 := blk_frozen BK345.out 2; have hcz22_0 := czZ BK336 0 (.bool false); have hcz22_1 := czZ BK336 1 (.int .u64 0); have hcz22_2 := czZ BK336 2 (.int .u64 0); have hfz22_0 := blk_frozen BK336.out 0; have hfz22_1 := blk_frozen BK336.out 1; have hfz22_2 := blk_frozen BK336.out 2))
  refine bodyPost_ret (results_cell_row rfl _ _ gb336 33 #[.bool t341, .int .u64 t342, .int .u64 t343] (0, 0) _ rfl (by (with_reducible repeat first | apply blk_drewN | apply blk_drew | apply blk_alloc); refine blk_put (cs := #[.bool t341, .int .u64 t342, .int .u64 0]) ?_ 2 _ rfl; (with_reducible repeat first | apply blk_drewN | apply blk_drew | apply blk_alloc); refine blk_put (cs := #[.bool t341, .int .u64 0, .int .u64 0]) ?_ 1 _ rfl; (with_reducible repeat first | apply blk_drewN | apply blk_drew | apply blk_alloc); refine blk_put (cs := #[.bool false, .int .u64 0, .int .u64 0]) ?_ 0 _ rfl; (with_reducible repeat first | apply blk_drewN | apply blk_drew | apply blk_alloc); refine blk_far ?_ NB336_345.out _; (with_reducible repeat first | apply blk_drewN | apply blk_drew | apply blk_alloc); refine blk_far ?_ NB336_345.out _; (with_reducible repeat first | apply blk_drewN | apply blk_drew | apply blk_alloc); refine blk_far ?_ NB336_345.out _; (with_reducible repeat first | apply blk_drewN | apply blk_drew | apply blk_alloc); exact BK336.out) Tryd.underlying33 rfl (by kernel_rfl)) rfl ?_; exact ⟨by first | rfl | (simp [errW_none, errW_some] <;> rfl) | (simp [*, errW_none, errW_some] <;> rfl), by repeat (first | (with_reducible first | exact HB.out | apply below_alloc | apply pw_below_drewN | apply below_drew1 | refine below_set ?_ (Aside0.out (by assumption))) | exact HB.out)⟩

/-! ### sawtoothref02_MulS: a product: pure, behind function 43 -/
noncomputable def sawtoothref02_MulS.f (a b : Int) : Option (Bool × Int × Int) := Sp.mulF a b
section Ref02Mul
open Go.Proofs.YtgakpcfmgcpeaaaDoor.Sp
theorem sawtoothref02_Mul.main {a b : Int} (h1 : I a) (h2 : I b) : sawtoothref02_Mul.f a b = some (encN (a * b), encH (a * b), encL (a * b)) := by
 unfold sawtoothref02_Mul.f sawtoothref02_OfS.f sawtoothref02_Scale.f sawtoothref02_NegS.f
 have m := mulI h1 h2; have m2 := mulI h1 (b := (b.natAbs : Int) - 1) (by omega)
 rw [ofF_eq h1, sawtoothref02_size.eq h2]
 simp only [Option.bind_some]
 have hm : ((a * (b.natAbs : Int)).natAbs : Int) = ((a * b).natAbs : Int) := by rw [Int.natAbs_mul, Int.natAbs_mul]; simp
 have hb : B (a * (b.natAbs : Int)) := by omega
 rw [scaleF_enc (by omega) (by omega), held_in hb]
 simp only [Option.bind_some]
 rw [negF_enc hb]
 simp only [Option.bind_some]
 by_cases c : b < 0
 ·have e : -(a * (b.natAbs : Int)) = a * b := by rw [show (b.natAbs : Int) = -b by omega, Int.mul_neg, Int.neg_neg]
  rw [if_pos c, e]
 ·have e : (b.natAbs : Int) = b := by omega
  rw [if_neg c, e]
end Ref02Mul
theorem sawtoothref02_MulS.calls (a0 a1 : Int) (r1 : Bool) (r2 r3 : Int) (w : World) (h : sawtoothref02_MulS.f a0 a1 = some (r1, r2, r3)) :
  Calls Tryd.prog 43 #[.int .i64 a0, .int .i64 a1] w fun e w' => e = .returned (.agg #[.bool r1, .int .u64 r2, .int .u64 r3]) ∧ Below w.heap.size w w' := by
 obtain ⟨hc, h⟩ := Sp.need_some h; exact sawtoothref02_Mul.calls a0 a1 r1 r2 r3 w (by rw [sawtoothref02_Mul.main hc.1 hc.2]; exact h)

/-! ### sawtoothref12_Cubed: function 19 -/
noncomputable def sawtoothref12_Cubed.j0 : Nat → Int → Int → Option (Bool × Int × Int)
 | 0, _, _ => none
 | k + 1, x0, x3 => (sawtoothref02_MulS.f x3 x3).bind fun bt350 => ((sawtoothref02_Scale.f bt350.1 bt350.2.1 bt350.2.2 (IntKind.u64.wrap (x3))).bind fun bt353 => ((sawtoothref02_Scale.f bt353.1 bt353.2.1 bt353.2.2.1 262144).bind fun bt358 => (if x0 < 0 then ((sawtoothref02_NegS.f bt358.1 bt358.2.1 bt358.2.2.1).bind fun bt363 => (some (bt363.1, bt363.2.1, bt363.2.2))) else (some (bt358.1, bt358.2.1, bt358.2.2.1)))))
noncomputable def sawtoothref12_Cubed.f (k : Nat) (a0 : Int) : Option (Bool × Int × Int) := if a0 < 0 then (sawtoothref12_Cubed.j0 k a0 (wrap64 (-a0))) else (sawtoothref12_Cubed.j0 k a0 a0)
set_option maxHeartbeats 8000000 in
set_option maxRecDepth 100000 in
theorem sawtoothref12_Cubed.calls (k : Nat) (a0 : Int) (r1 : Bool) (r2 : Int) (r3 : Int) (w : World) (h : sawtoothref12_Cubed.f k a0 = some (r1, r2, r3)) :
  Calls Tryd.prog 19 #[.int .i64 a0] w fun e w' => e = .returned (.agg #[.bool r1, .int .u64 r2, .int .u64 r3]) ∧ Below w.heap.size w w' := by
 have hu33 := Tryd.underlying33; have HB := Aside0.mk (Below.refl w.heap.size w); have H : (if a0 < 0 then (sawtoothref12_Cubed.j0 k a0 (wrap64 (-a0))) else (sawtoothref12_Cubed.j0 k a0 a0)) = some (r1, r2, r3) := h; clear h; have HC2 := Aside0.mk H; clear H
 go_enter Tryd.func19, Tryd.ntmps19
 go_upto_if 10 with (first | ((with_reducible refine gate_dst (N := 2) rfl ?_); refine box_event ?hg (N := 2) ?hd (cs := #[.bool false, .int .u64 0, .int .u64 0]) (t := 33) ?hr ?_; (case hd => rfl); (case hg => rfl); (case hr => first | (go_simp; done) | (go_simp; rfl)); intro gb349 hg w3 hbox hb; have BK349 := Aside0.mk (hbox); have GW349 := Aside0.mk ((by rw [hg]; exact (below_size (by repeat (first | (with_reducible first | exact HB.out | apply below_alloc | apply pw_below_drewN | apply below_drew1) | exact HB.out))) : w.heap.size ≤ gb349)); have GE349 := Aside0.mk ((by rw [hg]; exact (below_size (by repeat (first | (with_reducible first | exact HB.out | apply below_alloc | apply pw_below_drewN | apply below_drew1) | exact HB.out))) : w.heap.size ≤ gb349)); replace HB := Aside0.mk (below_step (by repeat (first | (with_reducible first | exact HB.out | apply below_alloc | apply pw_below_drewN | apply below_drew1) | exact HB.out)) hb); clear hb hbox hg))
 (try simp only [Act.put, sA, sB, sC])
 go_cut [3] (fun v3 wc => ∃ (kq : Nat) (x3_1 : Int), v3 = .int .i64 x3_1 ∧ Aside0 (sawtoothref12_Cubed.j0 kq a0 x3_1 = some (r1, r2, r3)) ∧ Aside0 (kq ≤ k) ∧ Aside0 (wc.heap[gb349]? = some (.cells #[.bool false, .int .u64 0, .int .u64 0] 33 (0, 0))) ∧ Aside0 (Below w.heap.size w wc))
 case first =>
  have H := HC2.out; clear HC2
  by_cases c4 : a0 < 0
  ·rw [if_pos c4] at H
   have c4b0 : decide (a0 < 0) = true := decide_eq_true c4; clear c4
   (first | rw [c4b0] | (simp only [i64_w, i32_w]; rw [c4b0]) | skip)
   have H' := Aside0.mk H; clear H
   go_wp2
   go_meet
   case rel => exact ⟨_, (wrap64 (-a0)), (by first | rfl | (simp; done) | (simp [*]; done)), H', ⟨by first | omega | exact Nat.le_refl _⟩, ⟨by (with_reducible repeat first | apply blk_drewN | apply blk_drew | apply blk_alloc); exact BK349.out⟩, ⟨by repeat (first | (with_reducible first | exact HB.out | apply below_alloc | apply pw_below_drewN | apply below_drew1 | refine below_set ?_ GE349.out) | exact HB.out)⟩⟩
  ·rw [if_neg c4] at H
   have c4b0 : decide (a0 < 0) = false := decide_eq_false c4; clear c4
   (first | rw [c4b0] | (simp only [i64_w, i32_w]; rw [c4b0]) | skip)
   have H' := Aside0.mk H; clear H
   go_wp2
   go_meet
   case rel => exact ⟨_, (a0), (by first | rfl | (simp; done) | (simp [*]; done)), H', ⟨by first | omega | exact Nat.le_refl _⟩, ⟨by (with_reducible repeat first | apply blk_drewN | apply blk_drew | apply blk_alloc); exact BK349.out⟩, ⟨by repeat (first | (with_reducible first | exact HB.out | apply below_alloc | apply pw_below_drewN | apply below_drew1 | refine below_set ?_ GE349.out) | exact HB.out)⟩⟩
 case rest =>
  clear HC2
  try clear c1
  try clear p2
  try clear c4
  try clear c4b0
  obtain ⟨kq, x3_1, rfl, HA, HJ1, BK349, HB⟩ := hcut
  cases kq with
  | zero => exact absurd HA.out (by simp [sawtoothref12_Cubed.j0])
  | succ kj1 =>
   have H := HA.out; clear HA; simp only [sawtoothref12_Cubed.j0] at H; replace H := Option.bind_eq_some_iff.mp H; obtain ⟨⟨t350, t351, t352⟩, A50, H⟩ := H; (try dsimp only at H); have A5 := Aside0.mk A50; clear A50; replace H := Option.bind_eq_some_iff.mp H; obtain ⟨⟨t353, t354, t355, t356⟩, A60, H⟩ := H; (try dsimp only at H); have A6 := Aside0.mk A60; clear A60; replace H := Option.bind_eq_some_iff.mp H; obtain ⟨⟨t358, t359, t360, t361⟩, A70, H⟩ := H; replace H : (if a0 < 0 then ((sawtoothref02_NegS.f t358 t359 t360).bind fun bt363 => (some (bt363.1, bt363.2.1, bt363.2.2))) else (some (t358, t359, t360))) = some (r1, r2, r3) := H; have A7 := Aside0.mk A70; clear A70
   by_cases c8 : a0 < 0
   ·rw [if_pos c8] at H
    have c8b0 : decide (a0 < 0) = true := decide_eq_true c8; clear c8; replace H := Option.bind_eq_some_iff.mp H; obtain ⟨⟨t363, t364, t365⟩, A90, H⟩ := H; replace H : (some (t363, t364, t365)) = some (r1, r2, r3) := H; have A9 := Aside0.mk A90; clear A90; simp only [Option.some.injEq, Prod.mk.injEq] at H; obtain ⟨rfl, rfl, rfl⟩ := H
    go_wp2_with (first | ((with_reducible refine gate_callee (f := 43) rfl ?_); refine goesLA_ (some 16) rfl rfl Tryd.func43 rfl #[.int .i64 x3_1, .int .i64 x3_1] rfl ?_; (with_reducible refine (sawtoothref02_MulS.calls x3_1 x3_1 t350 t351 t352 _ A5.out).mono ?_); rintro e w10 ⟨rfl, hb⟩; refine ⟨_, rfl, ?_⟩; replace BK349 := bdZ BK349 hb; replace HB := stA hb; clear hb) | ((with_reducible refine gate_callee (f := 20) rfl ?_); refine goesLA_ (some 19) rfl rfl Tryd.func20 rfl #[.agg #[.bool t350, .int .u64 t351, .int .u64 t352], .int .u64 (IntKind.u64.wrap (x3_1))] rfl ?_; (with_reducible refine (sawtoothref02_Scale.calls t350 t351 t352 (IntKind.u64.wrap (x3_1)) t353 t354 t355 t356 _ A6.out).mono ?_); rintro e w11 ⟨rfl, hb⟩; refine ⟨_, rfl, ?_⟩; replace BK349 := bdZ BK349 hb; replace HB := stA hb; clear hb) | ((with_reducible refine gate_dst (N := 4) rfl ?_); refine box_event ?hg (N := 4) ?hd (cs := #[.bool false, .int .u64 0, .int .u64 0]) (t := 33) ?hr ?_; (case hd => rfl); (case hg => rfl); (case hr => first | (go_simp; done) | (go_simp; rfl)); intro gb357 hg w12 hbox hb; have BK357 := Aside0.mk (hbox); obtain ⟨GW357, nHB⟩ := geA hg hb; have GE357 := GW357; obtain ⟨NB349_357, NB357_349, nBK⟩ := nbA BK349 hg hb; replace BK349 := nBK; clear nBK; replace HB := nHB; clear nHB; clear hb hbox hg; have hnb13 := NB357_349.out; have hnc13 := NB349_357.out; have hcz14_0 := czZ BK357 0 (.bool false); have hcz14_1 := czZ BK357 1 (.int .u64 0); have hcz14_2 := czZ BK357 2 (.int .u64 0); have hfz14_0 := blk_frozen BK357.out 0; have hfz14_1 := blk_frozen BK357.out 1; have hfz14_2 := blk_frozen BK357.out 2) | ((with_reducible refine gate_callee (f := 20) rfl ?_); refine goesLA_ (some 24) rfl rfl Tryd.func20 rfl #[.agg #[.bool t353, .int .u64 t354, .int .u64 t355], .int .u64 262144] rfl ?_; (with_reducible refine (sawtoothref02_Scale.calls t353 t354 t355 262144 t358 t359 t360 t361 _ A7.out).mono ?_); rintro e w15 ⟨rfl, hb⟩; refine ⟨_, rfl, ?_⟩; replace BK349 := bfZ BK349 (fun h_ => by (with_reducible repeat first | apply blk_drewN | apply blk_drew | apply blk_alloc | refine farZ ?_ NB349_357 _); exact h_) hb; replace BK357 := Aside0.mk (blk_below (g := gb357) (o := .cells #[.bool t353, .int .u64 t354, .int .u64 t355] 33 (0, 0)) (by (with_reducible repeat first | apply blk_drewN | apply blk_drew | apply blk_alloc); refine blk_put (cs := #[.bool t353, .int .u64 t354, .int .u64 0]) ?_ 2 _ rfl; (with_reducible repeat first | apply blk_drewN | apply blk_drew | apply blk_alloc); refine blk_put (cs := #[.bool t353, .int .u64 0, .int .u64 0]) ?_ 1 _ rfl; (with_reducible repeat first | apply blk_drewN | apply blk_drew | apply blk_alloc); refine blk_put (cs := #[.bool false, .int .u64 0, .int .u64 0]) ?_ 0 _ rfl; (with_reducible repeat first | apply blk_drewN | apply blk_drew | apply blk_alloc); exact BK357.out) hb); replace HB := stA hb; clear hb) | ((with_reducible refine gate_dst (N := 6) rfl ?_); refine box_event ?hg (N := 6) ?hd (cs := #[.bool false, .int .u64 0, .int .u64 0]) (t := 33) ?hr ?_; (case hd => rfl); (case hg => rfl); (case hr => first | (go_simp; done) | (go_simp; rfl)); intro gb362 hg w16 hbox hb; have BK362 := Aside0.mk (hbox); obtain ⟨GW362, nHB⟩ := geA hg hb; have GE362 := GW362; obtain ⟨NB349_362, NB362_349, nBK⟩ := nbA BK349 hg hb; replace BK349 := nBK; clear nBK; obtain ⟨NB357_362, NB362_357, nBK⟩ := nbA BK357 hg hb; replace BK357 := nBK; clear nBK; replace HB := nHB; clear nHB; clear hb hbox hg; have hnb17 := NB362_349.out; have hnc17 := NB349_362.out; have hnb18 := NB362_357.out; have hnc18 := NB357_362.out; have hcz19_0 := czZ BK362 0 (.bool false); have hcz19_1 := czZ BK362 1 (.int .u64 0); have hcz19_2 := czZ BK362 2 (.int .u64 0); have hfz19_0 := blk_frozen BK362.out 0; have hfz19_1 := blk_frozen BK362.out 1; have hfz19_2 := blk_frozen BK362.out 2) | ((with_reducible refine gate_callee (f := 44) rfl ?_); refine goesLA_ (some 30) rfl rfl Tryd.func44 rfl #[.agg #[.bool t358, .int .u64 t359, .int .u64 t360]] rfl ?_; (with_reducible refine (sawtoothref02_NegS.calls t358 t359 t360 t363 t364 t365 _ A9.out).mono ?_); rintro e w20 ⟨rfl, hb⟩; refine ⟨_, rfl, ?_⟩; replace BK349 := bfZ BK349 (fun h_ => by (with_reducible repeat first | apply blk_drewN | apply blk_drew | apply blk_alloc | refine farZ ?_ NB349_362 _); exact h_) hb; replace BK357 := bfZ BK357 (fun h_ => by (with_reducible repeat first | apply blk_drewN | apply blk_drew | apply blk_alloc | refine farZ ?_ NB357_362 _); exact h_) hb; replace BK362 := Aside0.mk (blk_below (g := gb362) (o := .cells #[.bool t358, .int .u64 t359, .int .u64 t360] 33 (0, 0)) (by (with_reducible repeat first | apply blk_drewN | apply blk_drew | apply blk_alloc); refine blk_put (cs := #[.bool t358, .int .u64 t359, .int .u64 0]) ?_ 2 _ rfl; (with_reducible repeat first | apply blk_drewN | apply blk_drew | apply blk_alloc); refine blk_put (cs := #[.bool t358, .int .u64 0, .int .u64 0]) ?_ 1 _ rfl; (with_reducible repeat first | apply blk_drewN | apply blk_drew | apply blk_alloc); refine blk_put (cs := #[.bool false, .int .u64 0, .int .u64 0]) ?_ 0 _ rfl; (with_reducible repeat first | apply blk_drewN | apply blk_drew | apply blk_alloc); exact BK362.out) hb); replace HB := stA hb; clear hb; have hcz21_0 := czZ BK349 0 (.bool false); have hcz21_1 := czZ BK349 1 (.int .u64 0); have hcz21_2 := czZ BK349 2 (.int .u64 0); have hfz21_0 := blk_frozen BK349.out 0; have hfz21_1 := blk_frozen BK349.out 1; have hfz21_2 := blk_frozen BK349.out 2))
    refine bodyPost_ret (results_cell_row rfl _ _ gb349 33 #[.bool t363, .int .u64 t364, .int .u64 t365] (0, 0) _ rfl (by (with_reducible repeat first | apply blk_drewN | apply blk_drew | apply blk_alloc); refine blk_put (cs := #[.bool t363, .int .u64 t364, .int .u64 0]) ?_ 2 _ rfl; (with_reducible repeat first | apply blk_drewN | apply blk_drew | apply blk_alloc); refine blk_put (cs := #[.bool t363, .int .u64 0, .int .u64 0]) ?_ 1 _ rfl; (with_reducible repeat first | apply blk_drewN | apply blk_drew | apply blk_alloc); refine blk_put (cs := #[.bool false, .int .u64 0, .int .u64 0]) ?_ 0 _ rfl; (with_reducible repeat first | apply blk_drewN | apply blk_drew | apply blk_alloc); exact BK349.out) Tryd.underlying33 rfl (by kernel_rfl)) rfl ?_; exact ⟨by first | rfl | (simp [errW_none, errW_some] <;> rfl) | (simp [*, errW_none, errW_some] <;> rfl), by repeat (first | (with_reducible first | exact HB.out | apply below_alloc | apply pw_below_drewN | apply below_drew1 | refine below_set ?_ (Aside0.out (by assumption))) | exact HB.out)⟩
   ·rw [if_neg c8] at H
    have c8b0 : decide (a0 < 0) = false := decide_eq_false c8; clear c8; simp only [Option.some.injEq, Prod.mk.injEq] at H; obtain ⟨rfl, rfl, rfl⟩ := H
    go_wp2_with (first | ((with_reducible refine gate_callee (f := 43) rfl ?_); refine goesLA_ (some 16) rfl rfl Tryd.func43 rfl #[.int .i64 x3_1, .int .i64 x3_1] rfl ?_; (with_reducible refine (sawtoothref02_MulS.calls x3_1 x3_1 t350 t351 t352 _ A5.out).mono ?_); rintro e w22 ⟨rfl, hb⟩; refine ⟨_, rfl, ?_⟩; replace BK349 := bdZ BK349 hb; replace HB := stA hb; clear hb) | ((with_reducible refine gate_callee (f := 20) rfl ?_); refine goesLA_ (some 19) rfl rfl Tryd.func20 rfl #[.agg #[.bool t350, .int .u64 t351, .int .u64 t352], .int .u64 (IntKind.u64.wrap (x3_1))] rfl ?_; (with_reducible refine (sawtoothref02_Scale.calls t350 t351 t352 (IntKind.u64.wrap (x3_1)) t353 t354 t355 t356 _ A6.out).mono ?_); rintro e w23 ⟨rfl, hb⟩; refine ⟨_, rfl, ?_⟩; replace BK349 := bdZ BK349 hb; replace HB := stA hb; clear hb) | ((with_reducible refine gate_dst (N := 4) rfl ?_); refine box_event ?hg (N := 4) ?hd (cs := #[.bool false, .int .u64 0, .int .u64 0]) (t := 33) ?hr ?_; (case hd => rfl); (case hg => rfl); (case hr => first | (go_simp; done) | (go_simp; rfl)); intro gb357 hg w24 hbox hb; have BK357 := Aside0.mk (hbox); obtain ⟨GW357, nHB⟩ := geA hg hb; have GE357 := GW357; obtain ⟨NB349_357, NB357_349, nBK⟩ := nbA BK349 hg hb; replace BK349 := nBK; clear nBK; replace HB := nHB; clear nHB; clear hb hbox hg; have hnb25 := NB357_349.out; have hnc25 := NB349_357.out; have hcz26_0 := czZ BK357 0 (.bool false); have hcz26_1 := czZ BK357 1 (.int .u64 0); have hcz26_2 := czZ BK357 2 (.int .u64 0); have hfz26_0 := blk_frozen BK357.out 0; have hfz26_1 := blk_frozen BK357.out 1; have hfz26_2 := blk_frozen BK357.out 2) | ((with_reducible refine gate_callee (f := 20) rfl ?_); refine goesLA_ (some 24) rfl rfl Tryd.func20 rfl #[.agg #[.bool t353, .int .u64 t354, .int .u64 t355], .int .u64 262144] rfl ?_; (with_reducible refine (sawtoothref02_Scale.calls t353 t354 t355 262144 t358 t359 t360 t361 _ A7.out).mono ?_); rintro e w27 ⟨rfl, hb⟩; refine ⟨_, rfl, ?_⟩; replace BK349 := bfZ BK349 (fun h_ => by (with_reducible repeat first | apply blk_drewN | apply blk_drew | apply blk_alloc | refine farZ ?_ NB349_357 _); exact h_) hb; replace BK357 := Aside0.mk (blk_below (g := gb357) (o := .cells #[.bool t353, .int .u64 t354, .int .u64 t355] 33 (0, 0)) (by (with_reducible repeat first | apply blk_drewN | apply blk_drew | apply blk_alloc); refine blk_put (cs := #[.bool t353, .int .u64 t354, .int .u64 0]) ?_ 2 _ rfl; (with_reducible repeat first | apply blk_drewN | apply blk_drew | apply blk_alloc); refine blk_put (cs := #[.bool t353, .int .u64 0, .int .u64 0]) ?_ 1 _ rfl; (with_reducible repeat first | apply blk_drewN | apply blk_drew | apply blk_alloc); refine blk_put (cs := #[.bool false, .int .u64 0, .int .u64 0]) ?_ 0 _ rfl; (with_reducible repeat first | apply blk_drewN | apply blk_drew | apply blk_alloc); exact BK357.out) hb); replace HB := stA hb; clear hb) | ((with_reducible refine gate_dst (N := 6) rfl ?_); refine box_event ?hg (N := 6) ?hd (cs := #[.bool false, .int .u64 0, .int .u64 0]) (t := 33) ?hr ?_; (case hd => rfl); (case hg => rfl); (case hr => first | (go_simp; done) | (go_simp; rfl)); intro gb362 hg w28 hbox hb; have BK362 := Aside0.mk (hbox); obtain ⟨GW362, nHB⟩ := geA hg hb; have GE362 := GW362; obtain ⟨NB349_362, NB362_349, nBK⟩ := nbA BK349 hg hb; replace BK349 := nBK; clear nBK; obtain ⟨NB357_362, NB362_357, nBK⟩ := nbA BK357 hg hb; replace BK357 := nBK; clear nBK; replace HB := nHB; clear nHB; clear hb hbox hg; have hnb29 := NB362_349.out; have hnc29 := NB349_362.out; have hnb30 := NB362_357.out; have hnc30 := NB357_362.out; have hcz31_0 := czZ BK362 0 (.bool false); have hcz31_1 := czZ BK362 1 (.int .u64 0); have hcz31_2 := czZ BK362 2 (.int .u64 0); have hfz31_0 := blk_frozen BK362.out 0; have hfz31_1 := blk_frozen BK362.out 1; have hfz31_2 := blk_frozen BK362.out 2; have hcz32_0 := czZ BK349 0 (.bool false); have hcz32_1 := czZ BK349 1 (.int .u64 0); have hcz32_2 := czZ BK349 2 (.int .u64 0); have hfz32_0 := blk_frozen BK349.out 0; have hfz32_1 := blk_frozen BK349.out 1; have hfz32_2 := blk_frozen BK349.out 2))
    refine bodyPost_ret (results_cell_row rfl _ _ gb349 33 #[.bool t358, .int .u64 t359, .int .u64 t360] (0, 0) _ rfl (by (with_reducible repeat first | apply blk_drewN | apply blk_drew | apply blk_alloc); refine blk_put (cs := #[.bool t358, .int .u64 t359, .int .u64 0]) ?_ 2 _ rfl; (with_reducible repeat first | apply blk_drewN | apply blk_drew | apply blk_alloc); refine blk_put (cs := #[.bool t358, .int .u64 0, .int .u64 0]) ?_ 1 _ rfl; (with_reducible repeat first | apply blk_drewN | apply blk_drew | apply blk_alloc); refine blk_put (cs := #[.bool false, .int .u64 0, .int .u64 0]) ?_ 0 _ rfl; (with_reducible repeat first | apply blk_drewN | apply blk_drew | apply blk_alloc); refine blk_far ?_ NB349_362.out _; (with_reducible repeat first | apply blk_drewN | apply blk_drew | apply blk_alloc); refine blk_far ?_ NB349_362.out _; (with_reducible repeat first | apply blk_drewN | apply blk_drew | apply blk_alloc); refine blk_far ?_ NB349_362.out _; (with_reducible repeat first | apply blk_drewN | apply blk_drew | apply blk_alloc); exact BK349.out) Tryd.underlying33 rfl (by kernel_rfl)) rfl ?_; exact ⟨by first | rfl | (simp [errW_none, errW_some] <;> rfl) | (simp [*, errW_none, errW_some] <;> rfl), by repeat (first | (with_reducible first | exact HB.out | apply below_alloc | apply pw_below_drewN | apply below_drew1 | refine below_set ?_ (Aside0.out (by assumption))) | exact HB.out)⟩

/-! ### sawtoothref12_CubedS: pure, behind function 19 -/
section
open Go.Proofs.YtgakpcfmgcpeaaaDoor.Sp
noncomputable def sawtoothref12_CubedS.f (n : Int) : Option (Bool × Int × Int) := need ((-2147483648 ≤ n ∧ n ≤ 2147483648)) (some (encN (n * n * n * 262144), encH (n * n * n * 262144), encL (n * n * n * 262144)))
theorem sawtoothref12_CubedS.eq {n : Int} (h1 : -2147483648 ≤ n ∧ n ≤ 2147483648) : sawtoothref12_CubedS.f n = some (encN (n * n * n * 262144), encH (n * n * n * 262144), encL (n * n * n * 262144)) := need_pos h1
theorem sawtoothref12_Cubed.main {n : Int} (h1 : -2147483648 ≤ n ∧ n ≤ 2147483648) : sawtoothref12_Cubed.f 1 n = some (encN (n * n * n * 262144), encH (n * n * n * 262144), encL (n * n * n * 262144)) := by
 unfold sawtoothref12_Cubed.f
 simp only [sawtoothref12_Cubed.j0]
 unfold sawtoothref02_MulS.f sawtoothref02_Scale.f sawtoothref02_NegS.f
 have key : ∀ x : Int, 0 ≤ x → x ≤ 2147483648 → ((mulF x x).bind fun bt332 => ((scaleF bt332.1 bt332.2.1 bt332.2.2 (IntKind.u64.wrap x)).bind fun bt335 => (scaleF bt335.1 bt335.2.1 bt335.2.2.1 262144))) = some (encN (x * x * x * 262144), encH (x * x * x * 262144), encL (x * x * x * 262144), 0) := by
  intro x x0 x1; have p1 := mul_le (A := 2147483648) (C := 2147483648) x0 x1 x0 x1; have p2 := mul_le (A := 4611686018427387904) (C := 2147483648) p1.1 p1.2 x0 x1
  rw [mulF_eq (by omega) (by omega), u64w_in (x := x) (by omega)]
  simp only [Option.bind_some]
  rw [scaleF_enc (by omega) (by omega), held_in (by omega)]
  simp only [Option.bind_some]
  rw [scaleF_enc (by omega) (by omega), held_in (by omega)]
 have q : ∀ x : Int, 0 ≤ x → x ≤ 2147483648 → 0 ≤ x * x * x ∧ x * x * x ≤ 9903520314283042199192993792 := by
  intro x x0 x1; have p1 := mul_le (A := 2147483648) (C := 2147483648) x0 x1 x0 x1; have p2 := mul_le (A := 4611686018427387904) (C := 2147483648) p1.1 p1.2 x0 x1
  omega
 have key2 : ∀ (x : Int) (F : Bool × Int × Int × Int → Option (Bool × Int × Int)), 0 ≤ x → x ≤ 2147483648 → ((mulF x x).bind fun bt332 => ((scaleF bt332.1 bt332.2.1 bt332.2.2 (IntKind.u64.wrap x)).bind fun bt335 => ((scaleF bt335.1 bt335.2.1 bt335.2.2.1 262144).bind F))) = F (encN (x * x * x * 262144), encH (x * x * x * 262144), encL (x * x * x * 262144), 0) := by
  intro x F x0 x1; have h := key x x0 x1
  cases a1 : mulF x x with
  | none => rw [a1] at h; simp at h
  | some v1 =>
   rw [a1] at h
   simp only [Option.bind_some] at h ⊢
   cases a2 : scaleF v1.1 v1.2.1 v1.2.2 (IntKind.u64.wrap x) with
   | none => rw [a2] at h; simp at h
   | some v2 =>
    rw [a2] at h
    simp only [Option.bind_some] at h ⊢
    rw [h]; rfl
 by_cases c : n < 0
 ·have e : (-n) * (-n) * (-n) = -(n * n * n) := by rw [Int.neg_mul_neg, Int.mul_neg]
  have b := q (-n) (by omega) (by omega); simp only [if_pos c]
  rw [w64 (x := -n) (by omega), key2 (-n) _ (by omega) (by omega)]
  simp only
  rw [e] at b ⊢
  rw [negF_eq (encH_U (by omega)) encL_U, val_enc]
  simp only [Option.bind_some]
  rw [show -(-(n * n * n) * 262144) = n * n * n * 262144 by omega]
 ·simp only [if_neg c]
  rw [key2 n _ (by omega) (by omega)]
end
theorem sawtoothref12_CubedS.calls (a0 : Int) (r1 : Bool) (r2 : Int) (r3 : Int) (w : World) (h : sawtoothref12_CubedS.f a0 = some (r1, r2, r3)) :
  Calls Tryd.prog 19 #[.int .i64 a0] w fun e w' => e = .returned (.agg #[.bool r1, .int .u64 r2, .int .u64 r3]) ∧ Below w.heap.size w w' := by
 obtain ⟨hc, h⟩ := Sp.need_some h; have h1 := hc; exact sawtoothref12_Cubed.calls 1 a0 r1 r2 r3 w (by rw [sawtoothref12_Cubed.main h1]; exact h)

/-! ### sawtoothref01_Clamp: function 36 -/
noncomputable def sawtoothref01_Clamp.f (a0 : Int) (a1 : Int) (a2 : Int) : Option (Int) := if a0 < a1 then (some a1) else (if a0 > a2 then (some a2) else (some a0))
set_option maxHeartbeats 8000000 in
set_option maxRecDepth 100000 in
theorem sawtoothref01_Clamp.calls (a0 : Int) (a1 : Int) (a2 : Int) (r : Int) (w : World) (h : sawtoothref01_Clamp.f a0 a1 a2 = some r) :
  Calls Tryd.prog 36 #[.int .i64 a0, .int .i64 a1, .int .i64 a2] w fun e w' => e = .returned (.int .i64 r) ∧ Drawn0 w w' := by
 have H : (if a0 < a1 then (some a1) else (if a0 > a2 then (some a2) else (some a0))) = some r := h; clear h
 by_cases c4 : a0 < a1
 ·rw [if_pos c4] at H
  have c4b0 : decide (a0 < a1) = true := decide_eq_true c4; clear c4; obtain rfl := Option.some.inj H
  go_enter Tryd.func36, Tryd.ntmps36
  go_wp2
  go_ret
  exact ⟨by first | rfl | (simp; done) | (simp [*]; done), by repeat (first | exact Drawn0.refl _ | apply Drawn0.step)⟩
 ·rw [if_neg c4] at H
  have c4b0 : decide (a0 < a1) = false := decide_eq_false c4; clear c4
  by_cases c5 : a0 > a2
  ·rw [if_pos c5] at H
   have c5b0 : decide (a2 < a0) = true := decide_eq_true c5; clear c5; obtain rfl := Option.some.inj H
   go_enter Tryd.func36, Tryd.ntmps36
   go_wp2
   go_ret
   exact ⟨by first | rfl | (simp; done) | (simp [*]; done), by repeat (first | exact Drawn0.refl _ | apply Drawn0.step)⟩
  ·rw [if_neg c5] at H
   have c5b0 : decide (a2 < a0) = false := decide_eq_false c5; clear c5; obtain rfl := Option.some.inj H
   go_enter Tryd.func36, Tryd.ntmps36
   go_wp2
   go_ret
   exact ⟨by first | rfl | (simp; done) | (simp [*]; done), by repeat (first | exact Drawn0.refl _ | apply Drawn0.step)⟩

/-! ### sawtoothref01_ClampS: pure, behind function 36 -/
section
open Go.Proofs.YtgakpcfmgcpeaaaDoor.Sp
noncomputable def sawtoothref01_ClampS.f (a : Int) (b : Int) (c : Int) : Option (Int) := some (clamp a b c)
theorem sawtoothref01_ClampS.eq {a : Int} {b : Int} {c : Int}  : sawtoothref01_ClampS.f a b c = some (clamp a b c) := rfl
theorem sawtoothref01_Clamp.main {a : Int} {b : Int} {c : Int}  : sawtoothref01_Clamp.f a b c = some (clamp a b c) := by
 unfold sawtoothref01_Clamp.f clamp
 (repeat' split) <;> first | rfl | (exfalso; omega)
end
theorem sawtoothref01_ClampS.calls (a0 : Int) (a1 : Int) (a2 : Int) (r : Int) (w : World) (h : sawtoothref01_ClampS.f a0 a1 a2 = some r) :
  Calls Tryd.prog 36 #[.int .i64 a0, .int .i64 a1, .int .i64 a2] w fun e w' => e = .returned (.int .i64 r) ∧ Below w.heap.size w w' := by
 refine (sawtoothref01_Clamp.calls a0 a1 a2 r w (by rw [sawtoothref01_Clamp.main ]; exact h)).mono (fun e w' hq => ⟨hq.1, ?_⟩); obtain ⟨nd, rfl⟩ := hq.2; exact pw_below_drewN (Below.refl _ _) nd

/-! ### sawtoothref02_less: function 49 -/
noncomputable def sawtoothref02_less.f (a0 a1 a2 a3 b0 b1 b2 b3 : Int) : Option Bool :=
 if a3 = b3 then (if a2 = b2 then (if a1 = b1 then (if a0 = b0 then some false else some (decide (a0 < b0))) else some (decide (a1 < b1))) else some (decide (a2 < b2))) else some (decide (a3 < b3))
set_option maxHeartbeats 4000000 in
set_option maxRecDepth 100000 in
theorem sawtoothref02_less.calls (a0 a1 a2 a3 b0 b1 b2 b3 : Int) (r : Bool) (w : World) (h : sawtoothref02_less.f a0 a1 a2 a3 b0 b1 b2 b3 = some r) :
  Calls Tryd.prog 49 #[.agg #[.int .u64 a0, .int .u64 a1, .int .u64 a2, .int .u64 a3], .agg #[.int .u64 b0, .int .u64 b1, .int .u64 b2, .int .u64 b3]] w fun e w' => e = .returned (.bool r) ∧ Below w.heap.size w w' := by
 have hu69 := Tryd.underlying58; have HB := Aside0.mk (Below.refl w.heap.size w)
 unfold sawtoothref02_less.f at h
 by_cases c3 : a3 = b3
 rotate_left
 ·rw [if_neg c3] at h
  obtain rfl := Option.some.inj h; clear h
  have d3 : (a3 != b3) = true := by simp [c3]
  clear c3
  go_enter Tryd.func49, Tryd.ntmps49
  go_wp2_with (fail)
  refine wp_loop_rounds 1 ?_
  rw [rounds_succ]
  go_wp2_with (fail)
  go_quiet (fail)
  go_wp2_with (fail)
  go_quiet (fail)
  go_wp2_with (fail)
  go_ret
  exact ⟨rfl, by repeat (first | exact HB.out | apply below_alloc | apply pw_below_drewN)⟩
 rw [if_pos c3] at h
 subst c3
 by_cases c2 : a2 = b2
 rotate_left
 ·rw [if_neg c2] at h
  obtain rfl := Option.some.inj h; clear h
  have d2 : (a2 != b2) = true := by simp [c2]
  clear c2
  go_enter Tryd.func49, Tryd.ntmps49
  go_wp2_with (fail)
  refine wp_loop_rounds 2 ?_
  rw [rounds_succ]
  go_wp2_with (fail)
  go_quiet (fail)
  go_wp2_with (fail)
  rw [rounds_succ]
  go_wp2_with (fail)
  go_quiet (fail)
  go_wp2_with (fail)
  go_quiet (fail)
  go_wp2_with (fail)
  go_ret
  exact ⟨rfl, by repeat (first | exact HB.out | apply below_alloc | apply pw_below_drewN)⟩
 rw [if_pos c2] at h
 subst c2
 by_cases c1 : a1 = b1
 rotate_left
 ·rw [if_neg c1] at h
  obtain rfl := Option.some.inj h; clear h
  have d1 : (a1 != b1) = true := by simp [c1]
  clear c1
  go_enter Tryd.func49, Tryd.ntmps49
  go_wp2_with (fail)
  refine wp_loop_rounds 3 ?_
  rw [rounds_succ]
  go_wp2_with (fail)
  go_quiet (fail)
  go_wp2_with (fail)
  rw [rounds_succ]
  go_wp2_with (fail)
  go_quiet (fail)
  go_wp2_with (fail)
  rw [rounds_succ]
  go_wp2_with (fail)
  go_quiet (fail)
  go_wp2_with (fail)
  go_quiet (fail)
  go_wp2_with (fail)
  go_ret
  exact ⟨rfl, by repeat (first | exact HB.out | apply below_alloc | apply pw_below_drewN)⟩
 rw [if_pos c1] at h
 subst c1
 by_cases c0 : a0 = b0
 rotate_left
 ·rw [if_neg c0] at h
  obtain rfl := Option.some.inj h; clear h
  have d0 : (a0 != b0) = true := by simp [c0]
  clear c0
  go_enter Tryd.func49, Tryd.ntmps49
  go_wp2_with (fail)
  refine wp_loop_rounds 4 ?_
  rw [rounds_succ]
  go_wp2_with (fail)
  go_quiet (fail)
  go_wp2_with (fail)
  rw [rounds_succ]
  go_wp2_with (fail)
  go_quiet (fail)
  go_wp2_with (fail)
  rw [rounds_succ]
  go_wp2_with (fail)
  go_quiet (fail)
  go_wp2_with (fail)
  rw [rounds_succ]
  go_wp2_with (fail)
  go_quiet (fail)
  go_wp2_with (fail)
  go_quiet (fail)
  go_wp2_with (fail)
  go_ret
  exact ⟨rfl, by repeat (first | exact HB.out | apply below_alloc | apply pw_below_drewN)⟩
 rw [if_pos c0] at h
 subst c0
 obtain rfl := Option.some.inj h; clear h
 go_enter Tryd.func49, Tryd.ntmps49
 go_wp2_with (fail)
 refine wp_loop_rounds 5 ?_
 rw [rounds_succ]
 go_wp2_with (fail)
 go_quiet (fail)
 go_wp2_with (fail)
 rw [rounds_succ]
 go_wp2_with (fail)
 go_quiet (fail)
 go_wp2_with (fail)
 rw [rounds_succ]
 go_wp2_with (fail)
 go_quiet (fail)
 go_wp2_with (fail)
 rw [rounds_succ]
 go_wp2_with (fail)
 go_quiet (fail)
 go_wp2_with (fail)
 rw [rounds_succ]
 go_wp2_with (fail)
 go_ret
 exact ⟨rfl, by repeat (first | exact HB.out | apply below_alloc | apply pw_below_drewN)⟩
section Ref02Less
open Go.Proofs.YtgakpcfmgcpeaaaDoor.Sp
theorem sawtoothref02_less.eq {h l i k : Int} (h1 : U h) (h2 : U l) (h3 : U i) (h4 : U k) : sawtoothref02_less.f (l % 4294967296) (l / 4294967296) (h % 4294967296) (h / 4294967296) (k % 4294967296) (k / 4294967296) (i % 4294967296) (i / 4294967296) = some (decide (h * 18446744073709551616 + l < i * 18446744073709551616 + k)) := by
 unfold sawtoothref02_less.f
 split
 ·split
  ·split
   ·split
    ·rw [decide_eq_false]; omega
    ·congr 1; rw [decide_eq_decide]; omega
   ·congr 1; rw [decide_eq_decide]; omega
  ·congr 1; rw [decide_eq_decide]; omega
 ·congr 1; rw [decide_eq_decide]; omega
end Ref02Less

/-! ### sawtoothref02_plus: function 77 -/
noncomputable def sawtoothref02_plus.f (a0 a1 a2 a3 b0 b1 b2 b3 : Int) : Option (Int × Int × Int × Int × Int) := Sp.need (Sp.Dg a0 ∧ Sp.Dg a1 ∧ Sp.Dg a2 ∧ Sp.Dg a3 ∧ Sp.Dg b0 ∧ Sp.Dg b1 ∧ Sp.Dg b2 ∧ Sp.Dg b3) (some ((a0 + b0) % 4294967296, (a1 + b1 + (a0 + b0) / 4294967296) % 4294967296, (a2 + b2 + (a1 + b1 + (a0 + b0) / 4294967296) / 4294967296) % 4294967296, (a3 + b3 + (a2 + b2 + (a1 + b1 + (a0 + b0) / 4294967296) / 4294967296) / 4294967296) % 4294967296, (a3 + b3 + (a2 + b2 + (a1 + b1 + (a0 + b0) / 4294967296) / 4294967296) / 4294967296) / 4294967296))
set_option maxHeartbeats 4000000 in
set_option maxRecDepth 100000 in
theorem sawtoothref02_plus.walk (a0 a1 a2 a3 b0 b1 b2 b3 s0 o0 c0 t1 s1 o1 c1 t2 s2 o2 c2 t3 s3 o3 c3 : Int) (E0 : IntKind.u64.wrap (a0 + b0) = s0) (F0 : IntKind.u64.wrap s0 = s0) (R0 : Int.tmod s0 4294967296 = o0) (Q0 : IntKind.u64.wrap (Int.tdiv s0 4294967296) = c0) (E1 : IntKind.u64.wrap (a1 + b1) = t1) (F1 : IntKind.u64.wrap (t1 + c0) = s1) (R1 : Int.tmod s1 4294967296 = o1) (Q1 : IntKind.u64.wrap (Int.tdiv s1 4294967296) = c1) (E2 : IntKind.u64.wrap (a2 + b2) = t2) (F2 : IntKind.u64.wrap (t2 + c1) = s2) (R2 : Int.tmod s2 4294967296 = o2) (Q2 : IntKind.u64.wrap (Int.tdiv s2 4294967296) = c2) (E3 : IntKind.u64.wrap (a3 + b3) = t3) (F3 : IntKind.u64.wrap (t3 + c2) = s3) (R3 : Int.tmod s3 4294967296 = o3) (Q3 : IntKind.u64.wrap (Int.tdiv s3 4294967296) = c3) (w : World) :
  Calls Tryd.prog 77 #[.agg #[.int .u64 a0, .int .u64 a1, .int .u64 a2, .int .u64 a3], .agg #[.int .u64 b0, .int .u64 b1, .int .u64 b2, .int .u64 b3]] w fun e w' => e = .returned (.tuple #[.agg #[.int .u64 o0, .int .u64 o1, .int .u64 o2, .int .u64 o3], .int .u64 c3]) ∧ Below w.heap.size w w' := by
 have hu69 := Tryd.underlying58; have HB := Aside0.mk (Below.refl w.heap.size w)
 go_enter Tryd.func77, Tryd.ntmps77
 go_wp2_with (fail)
 refine wp_loop_rounds 5 ?_
 rw [rounds_succ]
 go_wp2_with (fail)
 go_quiet (fail)
 go_wp2_with (fail)
 rw [rounds_succ]
 go_wp2_with (fail)
 go_quiet (fail)
 go_wp2_with (fail)
 rw [rounds_succ]
 go_wp2_with (fail)
 go_quiet (fail)
 go_wp2_with (fail)
 rw [rounds_succ]
 go_wp2_with (fail)
 go_quiet (fail)
 go_wp2_with (fail)
 rw [rounds_succ]
 go_wp2_with (fail)
 have eB : w.heap.size + 1 + 1 = ((w.alloc (.cells #[.int .u64 a0, .int .u64 a1, .int .u64 a2, .int .u64 a3] 58)).alloc (.cells #[.int .u64 b0, .int .u64 b1, .int .u64 b2, .int .u64 b3] 58)).heap.size := by simp
 refine bodyPost_ret (Sp.results_row_tmp rfl _ _ (w.heap.size + 1 + 1) 58 #[.int .u64 o0, .int .u64 o1, .int .u64 o2, .int .u64 o3] (0, 0) _ rfl (by
  refine blk_put (cs := #[.int .u64 o0, .int .u64 o1, .int .u64 o2, .int .u64 0]) ?_ 3 _ rfl; refine blk_put (cs := #[.int .u64 o0, .int .u64 o1, .int .u64 0, .int .u64 0]) ?_ 2 _ rfl; refine blk_put (cs := #[.int .u64 o0, .int .u64 0, .int .u64 0, .int .u64 0]) ?_ 1 _ rfl; refine blk_put (cs := #[.int .u64 0, .int .u64 0, .int .u64 0, .int .u64 0]) ?_ 0 _ rfl; (with_reducible repeat (first | refine blk_far ?_ (by simp) _ | refine blk_drewN ?_ _)); refine blk_alloc ?_ _
  rw [eB]; exact blk_new _ _) hu69 rfl (by first | rfl | kernel_rfl)) rfl ?_
 exact ⟨rfl, by repeat (with_reducible first | exact HB.out | refine below_set ?_ (by omega) | apply below_alloc | apply pw_below_drewN)⟩
theorem sawtoothref02_plus.calls (a0 a1 a2 a3 b0 b1 b2 b3 r0 r1 r2 r3 r4 : Int) (w : World) (h : sawtoothref02_plus.f a0 a1 a2 a3 b0 b1 b2 b3 = some (r0, r1, r2, r3, r4)) :
  Calls Tryd.prog 77 #[.agg #[.int .u64 a0, .int .u64 a1, .int .u64 a2, .int .u64 a3], .agg #[.int .u64 b0, .int .u64 b1, .int .u64 b2, .int .u64 b3]] w fun e w' => e = .returned (.tuple #[.agg #[.int .u64 r0, .int .u64 r1, .int .u64 r2, .int .u64 r3], .int .u64 r4]) ∧ Below w.heap.size w w' := by
 obtain ⟨⟨A0, A1, A2, A3, B0, B1, B2, B3⟩, h⟩ := Sp.need_some h; simp only [Option.some.injEq, Prod.mk.injEq] at h; obtain ⟨rfl, rfl, rfl, rfl, rfl⟩ := h
 have sm : ∀ {x : Int}, 0 ≤ x → x < 18446744073709551616 → IntKind.u64.wrap x = x := fun h1 h2 => Sp.u64w_in ⟨h1, h2⟩
 have tm : ∀ {x : Int}, 0 ≤ x → Int.tmod x 4294967296 = x % 4294967296 := fun h => Int.tmod_eq_emod_of_nonneg h
 have td : ∀ {x : Int}, 0 ≤ x → x < 18446744073709551616 → IntKind.u64.wrap (Int.tdiv x 4294967296) = x / 4294967296 := fun h1 h2 => by rw [Int.tdiv_eq_ediv_of_nonneg h1]; exact sm (by omega) (by omega)
 exact sawtoothref02_plus.walk (E0 := sm (by omega) (by omega)) (F0 := sm (by omega) (by omega)) (R0 := tm (by omega)) (Q0 := td (by omega) (by omega)) (E1 := sm (by omega) (by omega)) (F1 := sm (by omega) (by omega)) (R1 := tm (by omega)) (Q1 := td (by omega) (by omega)) (E2 := sm (by omega) (by omega)) (F2 := sm (by omega) (by omega)) (R2 := tm (by omega)) (Q2 := td (by omega) (by omega)) (E3 := sm (by omega) (by omega)) (F3 := sm (by omega) (by omega)) (R3 := tm (by omega)) (Q3 := td (by omega) (by omega)) (w := w)

/-! ### sawtoothref02_minus: function 78 -/
noncomputable def sawtoothref02_minus.f (a0 a1 a2 a3 b0 b1 b2 b3 : Int) : Option (Int × Int × Int × Int) := Sp.need (Sp.Dg a0 ∧ Sp.Dg a1 ∧ Sp.Dg a2 ∧ Sp.Dg a3 ∧ Sp.Dg b0 ∧ Sp.Dg b1 ∧ Sp.Dg b2 ∧ Sp.Dg b3) (some ((4294967296 + a0 - b0) % 4294967296, (4294967296 + a1 - b1 - (1 - (4294967296 + a0 - b0) / 4294967296)) % 4294967296, (4294967296 + a2 - b2 - (1 - (4294967296 + a1 - b1 - (1 - (4294967296 + a0 - b0) / 4294967296)) / 4294967296)) % 4294967296, (4294967296 + a3 - b3 - (1 - (4294967296 + a2 - b2 - (1 - (4294967296 + a1 - b1 - (1 - (4294967296 + a0 - b0) / 4294967296)) / 4294967296)) / 4294967296)) % 4294967296))
set_option maxHeartbeats 4000000 in
set_option maxRecDepth 100000 in
theorem sawtoothref02_minus.walk (a0 a1 a2 a3 b0 b1 b2 b3 t0 u0 s0 o0 q0 c0 t1 u1 s1 o1 q1 c1 t2 u2 s2 o2 q2 c2 t3 u3 s3 o3 q3 c3 : Int) (E0 : IntKind.u64.wrap (4294967296 + a0) = t0) (G0 : IntKind.u64.wrap (t0 - b0) = u0) (F0 : IntKind.u64.wrap (u0) = s0) (R0 : Int.tmod s0 4294967296 = o0) (Q0 : IntKind.u64.wrap (Int.tdiv s0 4294967296) = q0) (Z0 : IntKind.u64.wrap (1 - q0) = c0) (E1 : IntKind.u64.wrap (4294967296 + a1) = t1) (G1 : IntKind.u64.wrap (t1 - b1) = u1) (F1 : IntKind.u64.wrap (u1 - c0) = s1) (R1 : Int.tmod s1 4294967296 = o1) (Q1 : IntKind.u64.wrap (Int.tdiv s1 4294967296) = q1) (Z1 : IntKind.u64.wrap (1 - q1) = c1) (E2 : IntKind.u64.wrap (4294967296 + a2) = t2) (G2 : IntKind.u64.wrap (t2 - b2) = u2) (F2 : IntKind.u64.wrap (u2 - c1) = s2) (R2 : Int.tmod s2 4294967296 = o2) (Q2 : IntKind.u64.wrap (Int.tdiv s2 4294967296) = q2) (Z2 : IntKind.u64.wrap (1 - q2) = c2) (E3 : IntKind.u64.wrap (4294967296 + a3) = t3) (G3 : IntKind.u64.wrap (t3 - b3) = u3) (F3 : IntKind.u64.wrap (u3 - c2) = s3) (R3 : Int.tmod s3 4294967296 = o3) (Q3 : IntKind.u64.wrap (Int.tdiv s3 4294967296) = q3) (Z3 : IntKind.u64.wrap (1 - q3) = c3) (w : World) :
  Calls Tryd.prog 78 #[.agg #[.int .u64 a0, .int .u64 a1, .int .u64 a2, .int .u64 a3], .agg #[.int .u64 b0, .int .u64 b1, .int .u64 b2, .int .u64 b3]] w fun e w' => e = .returned (.agg #[.int .u64 o0, .int .u64 o1, .int .u64 o2, .int .u64 o3]) ∧ Below w.heap.size w w' := by
 have hu69 := Tryd.underlying58; have HB := Aside0.mk (Below.refl w.heap.size w)
 go_enter Tryd.func78, Tryd.ntmps78
 go_wp2_with (fail)
 refine wp_loop_rounds 5 ?_
 rw [rounds_succ]
 go_wp2_with (fail)
 go_quiet (fail)
 go_wp2_with (fail)
 rw [rounds_succ]
 go_wp2_with (fail)
 go_quiet (fail)
 go_wp2_with (fail)
 rw [rounds_succ]
 go_wp2_with (fail)
 go_quiet (fail)
 go_wp2_with (fail)
 rw [rounds_succ]
 go_wp2_with (fail)
 go_quiet (fail)
 go_wp2_with (fail)
 rw [rounds_succ]
 go_wp2_with (fail)
 have eB : w.heap.size + 1 + 1 = ((w.alloc (.cells #[.int .u64 a0, .int .u64 a1, .int .u64 a2, .int .u64 a3] 58)).alloc (.cells #[.int .u64 b0, .int .u64 b1, .int .u64 b2, .int .u64 b3] 58)).heap.size := by simp
 refine bodyPost_ret (results_cell_row rfl _ _ (w.heap.size + 1 + 1) 58 #[.int .u64 o0, .int .u64 o1, .int .u64 o2, .int .u64 o3] (0, 0) _ rfl (by
  refine blk_put (cs := #[.int .u64 o0, .int .u64 o1, .int .u64 o2, .int .u64 0]) ?_ 3 _ rfl; refine blk_put (cs := #[.int .u64 o0, .int .u64 o1, .int .u64 0, .int .u64 0]) ?_ 2 _ rfl; refine blk_put (cs := #[.int .u64 o0, .int .u64 0, .int .u64 0, .int .u64 0]) ?_ 1 _ rfl; refine blk_put (cs := #[.int .u64 0, .int .u64 0, .int .u64 0, .int .u64 0]) ?_ 0 _ rfl; (with_reducible repeat (first | refine blk_far ?_ (by simp) _ | refine blk_drewN ?_ _)); refine blk_alloc ?_ _
  rw [eB]; exact blk_new _ _) hu69 rfl (by kernel_rfl)) rfl ?_
 exact ⟨rfl, by repeat (with_reducible first | exact HB.out | refine below_set ?_ (by omega) | apply below_alloc | apply pw_below_drewN)⟩
theorem sawtoothref02_minus.calls (a0 a1 a2 a3 b0 b1 b2 b3 r0 r1 r2 r3 : Int) (w : World) (h : sawtoothref02_minus.f a0 a1 a2 a3 b0 b1 b2 b3 = some (r0, r1, r2, r3)) :
  Calls Tryd.prog 78 #[.agg #[.int .u64 a0, .int .u64 a1, .int .u64 a2, .int .u64 a3], .agg #[.int .u64 b0, .int .u64 b1, .int .u64 b2, .int .u64 b3]] w fun e w' => e = .returned (.agg #[.int .u64 r0, .int .u64 r1, .int .u64 r2, .int .u64 r3]) ∧ Below w.heap.size w w' := by
 obtain ⟨⟨A0, A1, A2, A3, B0, B1, B2, B3⟩, h⟩ := Sp.need_some h; simp only [Option.some.injEq, Prod.mk.injEq] at h; obtain ⟨rfl, rfl, rfl, rfl⟩ := h
 have sm : ∀ {x : Int}, 0 ≤ x → x < 18446744073709551616 → IntKind.u64.wrap x = x := fun h1 h2 => Sp.u64w_in ⟨h1, h2⟩
 have tm : ∀ {x : Int}, 0 ≤ x → Int.tmod x 4294967296 = x % 4294967296 := fun h => Int.tmod_eq_emod_of_nonneg h
 have td : ∀ {x : Int}, 0 ≤ x → x < 18446744073709551616 → IntKind.u64.wrap (Int.tdiv x 4294967296) = x / 4294967296 := fun h1 h2 => by rw [Int.tdiv_eq_ediv_of_nonneg h1]; exact sm (by omega) (by omega)
 exact sawtoothref02_minus.walk (E0 := sm (by omega) (by omega)) (G0 := sm (by omega) (by omega)) (F0 := sm (by omega) (by omega)) (R0 := tm (by omega)) (Q0 := td (by omega) (by omega)) (Z0 := sm (by omega) (by omega)) (E1 := sm (by omega) (by omega)) (G1 := sm (by omega) (by omega)) (F1 := sm (by omega) (by omega)) (R1 := tm (by omega)) (Q1 := td (by omega) (by omega)) (Z1 := sm (by omega) (by omega)) (E2 := sm (by omega) (by omega)) (G2 := sm (by omega) (by omega)) (F2 := sm (by omega) (by omega)) (R2 := tm (by omega)) (Q2 := td (by omega) (by omega)) (Z2 := sm (by omega) (by omega)) (E3 := sm (by omega) (by omega)) (G3 := sm (by omega) (by omega)) (F3 := sm (by omega) (by omega)) (R3 := tm (by omega)) (Q3 := td (by omega) (by omega)) (Z3 := sm (by omega) (by omega)) (w := w)

end Go.Proofs.YtgakpcfmgcpeaaaDoor.Px
