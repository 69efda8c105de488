/- Printed by px.py, over the kit's print. Conditions: none beside the theorems' own. -/
import Derived.Test.YtbpcfamjidjhjaaDoorPx0
import Derived.Test.YtbpcfamjidjhjaaDoorPx18
import Derived.Test.YtbpcfamjidjhjaaDoorPx19
import Derived.Test.YtbpcfamjidjhjaaDoorSpec
namespace Go.Proofs.YtbpcfamjidjhjaaDoor.Px
open Go.RowKit Go.Proofs.YtbpcfamjidjhjaaDoorW.PrintWords Go.Proofs.YtbpcfamjidjhjaaDoorW.PrintLast Go.Proofs.YtbpcfamjidjhjaaDoorW.PrintMore
attribute [local go_sem] max2_int min2_int max_two min_two max_three min_three max_four min_four
set_option linter.unusedVariables false
set_option linter.unusedSimpArgs false

/-! ### root_long: function 71 -/
noncomputable def root_long.f (a0_0 : Bool) (a0_1 : Int) (a0_2 : Int) : Option (Int) := if a0_1 > 0 then ((bits_Len64.f a0_1).bind fun t244 => (some (wrap64 (64 + t244)))) else ((bits_Len64.f a0_2).bind fun t245 => (some t245))
set_option maxHeartbeats 8000000 in
set_option maxRecDepth 100000 in
theorem root_long.calls (a0_0 : Bool) (a0_1 : Int) (a0_2 : Int) (r : Int) (w : World) (h : root_long.f a0_0 a0_1 a0_2 = some r) :
  Calls Tryd.prog 71 #[.agg #[.bool a0_0, .int .u64 a0_1, .int .u64 a0_2]] w fun e w' => e = .returned (.int .i64 r) ∧ Below w.heap.size w w' := by
 have hu59 := Tryd.underlying59; have HB := Aside0.mk (Below.refl w.heap.size w); have H : (if a0_1 > 0 then ((bits_Len64.f a0_1).bind fun t244 => (some (wrap64 (64 + t244)))) else ((bits_Len64.f a0_2).bind fun t245 => (some t245))) = some r := h; clear h
 by_cases c2 : a0_1 > 0
 ·rw [if_pos c2] at H
  have c2b0 : decide (0 < a0_1) = true := decide_eq_true c2; clear c2; replace H := Option.bind_eq_some_iff.mp H; obtain ⟨t244, A30, H⟩ := H; replace H : (some (wrap64 (64 + t244))) = some r := H; have A3 := Aside0.mk A30; clear A30; obtain rfl := Option.some.inj H
  go_enter Tryd.func71, Tryd.ntmps71
  go_wp2_with (first | ((with_reducible refine gate_dst (N := 1) rfl ?_); refine box_event ?hg (N := 1) ?hd (cs := #[.bool a0_0, .int .u64 a0_1, .int .u64 a0_2]) (t := 59) ?hr ?_; (case hd => rfl); (case hg => rfl); (case hr => first | (go_simp; done) | (go_simp; rfl)); intro gb243 hg w4 hbox hb; have BK243 := Aside0.mk (hbox); obtain ⟨GW243, nHB⟩ := geA hg hb; have GE243 := GW243; replace HB := nHB; clear nHB; clear hb hbox hg; have hcz5_0 := czZ BK243 0 (.bool a0_0); have hcz5_1 := czZ BK243 1 (.int .u64 a0_1); have hcz5_2 := czZ BK243 2 (.int .u64 a0_2); have hfz5_0 := blk_frozen BK243.out 0; have hfz5_1 := blk_frozen BK243.out 1; have hfz5_2 := blk_frozen BK243.out 2) | ((with_reducible refine gate_callee (f := 78) rfl ?_); refine goesLA_ (some 8) rfl rfl Tryd.func78 rfl #[.int .u64 a0_1] rfl ?_; (with_reducible refine (bits_Len64.calls a0_1 t244 _ A3.out).mono ?_); rintro e w' ⟨rfl, ⟨nd, rfl⟩⟩; refine ⟨_, rfl, ?_⟩))
  go_ret
  exact ⟨by first | rfl | (simp [errW_none, errW_some] <;> rfl) | (simp [*, errW_none, errW_some] <;> rfl), by repeat (first | (with_reducible first | exact HB.out | apply below_alloc | apply pw_below_drewN | apply below_drew1 | refine below_set ?_ GE243.out) | exact HB.out)⟩
 ·rw [if_neg c2] at H
  have c2b0 : decide (0 < a0_1) = false := decide_eq_false c2; clear c2; replace H := Option.bind_eq_some_iff.mp H; obtain ⟨t245, A60, H⟩ := H; replace H : (some t245) = some r := H; have A6 := Aside0.mk A60; clear A60; obtain rfl := Option.some.inj H
  go_enter Tryd.func71, Tryd.ntmps71
  go_wp2_with (first | ((with_reducible refine gate_dst (N := 1) rfl ?_); refine box_event ?hg (N := 1) ?hd (cs := #[.bool a0_0, .int .u64 a0_1, .int .u64 a0_2]) (t := 59) ?hr ?_; (case hd => rfl); (case hg => rfl); (case hr => first | (go_simp; done) | (go_simp; rfl)); intro gb243 hg w7 hbox hb; have BK243 := Aside0.mk (hbox); obtain ⟨GW243, nHB⟩ := geA hg hb; have GE243 := GW243; replace HB := nHB; clear nHB; clear hb hbox hg; have hcz8_0 := czZ BK243 0 (.bool a0_0); have hcz8_1 := czZ BK243 1 (.int .u64 a0_1); have hcz8_2 := czZ BK243 2 (.int .u64 a0_2); have hfz8_0 := blk_frozen BK243.out 0; have hfz8_1 := blk_frozen BK243.out 1; have hfz8_2 := blk_frozen BK243.out 2) | ((with_reducible refine gate_callee (f := 78) rfl ?_); refine goesLA_ (some 12) rfl rfl Tryd.func78 rfl #[.int .u64 a0_2] rfl ?_; (with_reducible refine (bits_Len64.calls a0_2 t245 _ A6.out).mono ?_); rintro e w' ⟨rfl, ⟨nd, rfl⟩⟩; refine ⟨_, rfl, ?_⟩))
  go_ret
  exact ⟨by first | rfl | (simp [errW_none, errW_some] <;> rfl) | (simp [*, errW_none, errW_some] <;> rfl), by repeat (first | (with_reducible first | exact HB.out | apply below_alloc | apply pw_below_drewN | apply below_drew1 | refine below_set ?_ GE243.out) | exact HB.out)⟩

/-! ### root_longS: pure, behind function 71 -/
section
open Go.Proofs.YtbpcfamjidjhjaaDoor.Sp
noncomputable def root_longS.f (n : Bool) (h : Int) (l : Int) : Option (Int) := need (U h ∧ U l) (some (longW h l))
theorem root_longS.eq {n : Bool} {h : Int} {l : Int} (h1 : U h) (h2 : U l) : root_longS.f n h l = some (longW h l) := need_pos ⟨h1, h2⟩
theorem root_long.main {n : Bool} {h : Int} {l : Int} (h1 : U h) (h2 : U l) : root_long.f n h l = some (longW h l) := by
 unfold root_long.f longW bits_Len64.f
 by_cases c : h > 0
 ·rw [if_pos c, if_pos (show 0 < h from c), need_pos (by omega)]
  simp only [Option.bind_some]; obtain ⟨a1, a2, a3, a4⟩ := bitLen_facts (Y := h.toNat) (by omega) (by omega)
  rw [w64 (by omega)]
 ·rw [if_neg c, if_neg (show ¬ 0 < h from c), need_pos (by omega)]
  rfl
end
theorem root_longS.calls (a0_0 : Bool) (a0_1 : Int) (a0_2 : Int) (r : Int) (w : World) (h : root_longS.f a0_0 a0_1 a0_2 = some r) :
  Calls Tryd.prog 71 #[.agg #[.bool a0_0, .int .u64 a0_1, .int .u64 a0_2]] w fun e w' => e = .returned (.int .i64 r) ∧ Below w.heap.size w w' := by
 obtain ⟨hc, h⟩ := Sp.need_some h; obtain ⟨h1, h2⟩ := hc; exact root_long.calls a0_0 a0_1 a0_2 r w (by rw [root_long.main h1 h2]; exact h)

-- NOT PRINTED: function 72 (root_greatest)

/-! ### root_Square: function 79 -/
noncomputable def root_Square.f (a0 : Int) : Option (Bool × Int × Int) := (big_ScaleS.f false 0 a0 a0).bind fun bt247 => (some (bt247.1, bt247.2.1, bt247.2.2.1))
set_option maxHeartbeats 8000000 in
set_option maxRecDepth 100000 in
theorem root_Square.calls (a0 : Int) (r1 : Bool) (r2 : Int) (r3 : Int) (w : World) (h : root_Square.f a0 = some (r1, r2, r3)) :
  Calls Tryd.prog 79 #[.int .u64 a0] w fun e w' => e = .returned (.agg #[.bool r1, .int .u64 r2, .int .u64 r3]) ∧ Below w.heap.size w w' := by
 have hu59 := Tryd.underlying59; have HB := Aside0.mk (Below.refl w.heap.size w); have H : ((big_ScaleS.f false 0 a0 a0).bind fun bt247 => (some (bt247.1, bt247.2.1, bt247.2.2.1))) = some (r1, r2, r3) := h; clear h; replace H := Option.bind_eq_some_iff.mp H; obtain ⟨⟨t247, t248, t249, t250⟩, A20, H⟩ := H; replace H : (some (t247, t248, t249)) = some (r1, r2, r3) := H; have A2 := Aside0.mk A20; clear A20; simp only [Option.some.injEq, Prod.mk.injEq] at H; obtain ⟨rfl, rfl, rfl⟩ := H
 go_enter Tryd.func79, Tryd.ntmps79
 go_wp2_with (first | ((with_reducible refine gate_dst (N := 2) rfl ?_); refine box_event ?hg (N := 2) ?hd (cs := #[.bool false, .int .u64 0, .int .u64 0]) (t := 59) ?hr ?_; (case hd => rfl); (case hg => rfl); (case hr => first | (go_simp; done) | (go_simp; rfl)); intro gb246 hg w3 hbox hb; have BK246 := Aside0.mk (hbox); obtain ⟨GW246, nHB⟩ := geA hg hb; have GE246 := GW246; replace HB := nHB; clear nHB; clear hb hbox hg) | ((with_reducible refine gate_callee (f := 58) rfl ?_); refine goesLA_ (some 9) rfl rfl Tryd.func58 rfl #[.agg #[.bool false, .int .u64 0, .int .u64 a0], .int .u64 a0] rfl ?_; (with_reducible refine (big_ScaleS.calls false 0 a0 a0 t247 t248 t249 t250 _ A2.out).mono ?_); rintro e w4 ⟨rfl, hb⟩; refine ⟨_, rfl, ?_⟩; replace BK246 := bdZ BK246 hb; replace HB := stA hb; clear hb) | ((with_reducible refine gate_dst (N := 3) rfl ?_); refine box_event ?hg (N := 3) ?hd (cs := #[.bool false, .int .u64 0, .int .u64 0]) (t := 59) ?hr ?_; (case hd => rfl); (case hg => rfl); (case hr => first | (go_simp; done) | (go_simp; rfl)); intro gb251 hg w5 hbox hb; have BK251 := Aside0.mk (hbox); obtain ⟨GW251, nHB⟩ := geA hg hb; have GE251 := GW251; obtain ⟨NB246_251, NB251_246, nBK⟩ := nbA BK246 hg hb; replace BK246 := nBK; clear nBK; replace HB := nHB; clear nHB; clear hb hbox hg; have hnb6 := NB251_246.out; have hnc6 := NB246_251.out; have hcz7_0 := czZ BK251 0 (.bool false); have hcz7_1 := czZ BK251 1 (.int .u64 0); have hcz7_2 := czZ BK251 2 (.int .u64 0); have hfz7_0 := blk_frozen BK251.out 0; have hfz7_1 := blk_frozen BK251.out 1; have hfz7_2 := blk_frozen BK251.out 2; have hcz8_0 := czZ BK246 0 (.bool false); have hcz8_1 := czZ BK246 1 (.int .u64 0); have hcz8_2 := czZ BK246 2 (.int .u64 0); have hfz8_0 := blk_frozen BK246.out 0; have hfz8_1 := blk_frozen BK246.out 1; have hfz8_2 := blk_frozen BK246.out 2))
 refine bodyPost_ret (results_cell_row rfl _ _ gb246 59 #[.bool t247, .int .u64 t248, .int .u64 t249] (0, 0) _ rfl (by (with_reducible repeat first | apply blk_drewN | apply blk_drew | apply blk_alloc); refine blk_put (cs := #[.bool t247, .int .u64 t248, .int .u64 0]) ?_ 2 _ rfl; (with_reducible repeat first | apply blk_drewN | apply blk_drew | apply blk_alloc); refine blk_put (cs := #[.bool t247, .int .u64 0, .int .u64 0]) ?_ 1 _ rfl; (with_reducible repeat first | apply blk_drewN | apply blk_drew | apply blk_alloc); refine blk_put (cs := #[.bool false, .int .u64 0, .int .u64 0]) ?_ 0 _ rfl; (with_reducible repeat first | apply blk_drewN | apply blk_drew | apply blk_alloc); refine blk_far ?_ NB246_251.out _; (with_reducible repeat first | apply blk_drewN | apply blk_drew | apply blk_alloc); refine blk_far ?_ NB246_251.out _; (with_reducible repeat first | apply blk_drewN | apply blk_drew | apply blk_alloc); refine blk_far ?_ NB246_251.out _; (with_reducible repeat first | apply blk_drewN | apply blk_drew | apply blk_alloc); exact BK246.out) Tryd.underlying59 rfl (by kernel_rfl)) rfl ?_; exact ⟨by first | rfl | (simp [errW_none, errW_some] <;> rfl) | (simp [*, errW_none, errW_some] <;> rfl), by repeat (first | (with_reducible first | exact HB.out | apply below_alloc | apply pw_below_drewN | apply below_drew1 | refine below_set ?_ (Aside0.out (by assumption))) | exact HB.out)⟩

/-! ### root_Cube: function 74 -/
noncomputable def root_Cube.f (a0 : Int) : Option (Bool × Int × Int × Int) := (root_Square.f a0).bind fun bt253 => ((big_ScaleS.f bt253.1 bt253.2.1 bt253.2.2 a0).bind fun bt256 => (some (bt256.1, bt256.2.1, bt256.2.2.1, bt256.2.2.2)))
set_option maxHeartbeats 8000000 in
set_option maxRecDepth 100000 in
theorem root_Cube.calls (a0 : Int) (r1 : Bool) (r2 : Int) (r3 : Int) (r4 : Int) (w : World) (h : root_Cube.f a0 = some (r1, r2, r3, r4)) :
  Calls Tryd.prog 74 #[.int .u64 a0] w fun e w' => e = .returned (.tuple #[.agg #[.bool r1, .int .u64 r2, .int .u64 r3], .int .i64 r4]) ∧ Below w.heap.size w w' := by
 have hu59 := Tryd.underlying59; have HB := Aside0.mk (Below.refl w.heap.size w); have H : ((root_Square.f a0).bind fun bt253 => ((big_ScaleS.f bt253.1 bt253.2.1 bt253.2.2 a0).bind fun bt256 => (some (bt256.1, bt256.2.1, bt256.2.2.1, bt256.2.2.2)))) = some (r1, r2, r3, r4) := h; clear h; replace H := Option.bind_eq_some_iff.mp H; obtain ⟨⟨t253, t254, t255⟩, A20, H⟩ := H; replace H : ((big_ScaleS.f t253 t254 t255 a0).bind fun bt256 => (some (bt256.1, bt256.2.1, bt256.2.2.1, bt256.2.2.2))) = some (r1, r2, r3, r4) := H; have A2 := Aside0.mk A20; clear A20; replace H := Option.bind_eq_some_iff.mp H; obtain ⟨⟨t256, t257, t258, t259⟩, A30, H⟩ := H; replace H : (some (t256, t257, t258, t259)) = some (r1, r2, r3, r4) := H; have A3 := Aside0.mk A30; clear A30; simp only [Option.some.injEq, Prod.mk.injEq] at H; obtain ⟨rfl, rfl, rfl, rfl⟩ := H
 go_enter Tryd.func74, Tryd.ntmps74
 go_wp2_with (first | ((with_reducible refine gate_dst (N := 2) rfl ?_); refine box_event ?hg (N := 2) ?hd (cs := #[.bool false, .int .u64 0, .int .u64 0]) (t := 59) ?hr ?_; (case hd => rfl); (case hg => rfl); (case hr => first | (go_simp; done) | (go_simp; rfl)); intro gb252 hg w4 hbox hb; have BK252 := Aside0.mk (hbox); obtain ⟨GW252, nHB⟩ := geA hg hb; have GE252 := GW252; replace HB := nHB; clear nHB; clear hb hbox hg) | ((with_reducible refine gate_callee (f := 79) rfl ?_); refine goesLA_ (some 5) rfl rfl Tryd.func79 rfl #[.int .u64 a0] rfl ?_; (with_reducible refine (root_Square.calls a0 t253 t254 t255 _ A2.out).mono ?_); rintro e w5 ⟨rfl, hb⟩; refine ⟨_, rfl, ?_⟩; replace BK252 := bdZ BK252 hb; replace HB := stA hb; clear hb) | ((with_reducible refine gate_callee (f := 58) rfl ?_); refine goesLA_ (some 7) rfl rfl Tryd.func58 rfl #[.agg #[.bool t253, .int .u64 t254, .int .u64 t255], .int .u64 a0] rfl ?_; (with_reducible refine (big_ScaleS.calls t253 t254 t255 a0 t256 t257 t258 t259 _ A3.out).mono ?_); rintro e w6 ⟨rfl, hb⟩; refine ⟨_, rfl, ?_⟩; replace BK252 := bdZ BK252 hb; replace HB := stA hb; clear hb; have hcz7_0 := czZ BK252 0 (.bool false); have hcz7_1 := czZ BK252 1 (.int .u64 0); have hcz7_2 := czZ BK252 2 (.int .u64 0); have hfz7_0 := blk_frozen BK252.out 0; have hfz7_1 := blk_frozen BK252.out 1; have hfz7_2 := blk_frozen BK252.out 2))
 refine bodyPost_ret (results_ct rfl _ _ gb252 59 #[.bool t256, .int .u64 t257, .int .u64 t258] (0, 0) _ rfl (by (with_reducible repeat first | apply blk_drewN | apply blk_drew | apply blk_alloc); refine blk_put (cs := #[.bool t256, .int .u64 t257, .int .u64 0]) ?_ 2 _ rfl; (with_reducible repeat first | apply blk_drewN | apply blk_drew | apply blk_alloc); refine blk_put (cs := #[.bool t256, .int .u64 0, .int .u64 0]) ?_ 1 _ rfl; (with_reducible repeat first | apply blk_drewN | apply blk_drew | apply blk_alloc); refine blk_put (cs := #[.bool false, .int .u64 0, .int .u64 0]) ?_ 0 _ rfl; (with_reducible repeat first | apply blk_drewN | apply blk_drew | apply blk_alloc); exact BK252.out) Tryd.underlying59 rfl (by kernel_rfl)) rfl ?_; exact ⟨by first | rfl | (simp [errW_none, errW_some] <;> rfl) | (simp [*, errW_none, errW_some] <;> rfl), by repeat (first | (with_reducible first | exact HB.out | apply below_alloc | apply pw_below_drewN | apply below_drew1 | refine below_set ?_ GE252.out) | exact HB.out)⟩

/-! ### root_CubeS: pure, behind function 74 -/
section
open Go.Proofs.YtbpcfamjidjhjaaDoor.Sp
noncomputable def root_CubeS.f (a : Int) : Option (Bool × Int × Int × Int) := need (U a) (held (a * a * a))
theorem root_CubeS.eq {a : Int} (h1 : U a) : root_CubeS.f a = held (a * a * a) := need_pos h1
theorem root_Cube.main {a : Int} (h1 : U a) : root_Cube.f a = held (a * a * a) := by
 unfold root_Cube.f root_Square.f
 have u := mulU h1 h1; have p := Int.mul_nonneg h1.1 h1.1
 rw [big_ScaleS.eq (by omega) h1 h1, val_f]
 have e : (0 * 18446744073709551616 + a) * a = a * a := by rw [Int.zero_mul, Int.zero_add]
 rw [e, held_in (by omega)]
 simp only [Option.bind_some]
 rw [big_ScaleS.enc (by omega) h1]
 unfold held
 split <;> rfl
end
theorem root_CubeS.calls (a0 : Int) (r1 : Bool) (r2 : Int) (r3 : Int) (r4 : Int) (w : World) (h : root_CubeS.f a0 = some (r1, r2, r3, r4)) :
  Calls Tryd.prog 74 #[.int .u64 a0] w fun e w' => e = .returned (.tuple #[.agg #[.bool r1, .int .u64 r2, .int .u64 r3], .int .i64 r4]) ∧ Below w.heap.size w w' := by
 obtain ⟨hc, h⟩ := Sp.need_some h; have h1 := hc; exact root_Cube.calls a0 r1 r2 r3 r4 w (by rw [root_Cube.main h1]; exact h)

-- NOT PRINTED: function 73 (root_Third_1)

end Go.Proofs.YtbpcfamjidjhjaaDoor.Px
