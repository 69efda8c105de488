/- Printed by px.py, over the kit's print. Conditions: none beside the theorems' own. -/
import Derived.Test.YtbpcfamjidjhjaaDoorPx0
import Derived.Test.YtbpcfamjidjhjaaDoorSpec
namespace Go.Proofs.YtbpcfamjidjhjaaDoor.Px
open Go.RowKit Go.Proofs.YtbpcfamjidjhjaaDoorW.PrintWords Go.Proofs.YtbpcfamjidjhjaaDoorW.PrintLast Go.Proofs.YtbpcfamjidjhjaaDoorW.PrintMore
attribute [local go_sem] max2_int min2_int max_two min_two max_three min_three max_four min_four
set_option linter.unusedVariables false
set_option linter.unusedSimpArgs false

/-! ### bits_Sub64: function 80 -/
noncomputable def bits_Sub64.f (x y c : Int) : Option (Int × Int) := Sp.need (0 ≤ x ∧ 0 ≤ y ∧ y < 18446744073709551616 ∧ 0 ≤ c ∧ c ≤ 1) (some ((x - y - c) % 18446744073709551616, if x < y + c then 1 else 0))
def sub64Entry : Array Value → Sem Value := fun args => do
 let (x, y, b) ← Extern.MathBitsCarry.three "Sub64" args
 pure (Extern.MathBitsCarry.pair ((x + Extern.MathBitsCarry.m64 - y - b) % Extern.MathBitsCarry.m64) (if x < y + b then 1 else 0))
theorem bits_Sub64.runs (x y c r1 r2 : Int) (h : bits_Sub64.f x y c = some (r1, r2)) (w : World) :
  (callFunc 80 #[.int .u64 x, .int .u64 y, .int .u64 c]).run Tryd.prog w = .ok (.value (.tuple #[.int .u64 r1, .int .u64 r2])) w := by
 obtain ⟨hc, h⟩ := Sp.need_some h; obtain ⟨h1, h2, h2', h3, h4⟩ := hc; simp only [Option.some.injEq, Prod.mk.injEq] at h; obtain ⟨rfl, rfl⟩ := h; have key : ∀ k : Nat, k ≤ 1 → (sub64Entry #[.int .u64 x, .int .u64 y, .int .u64 (k : Int)]).run Tryd.prog w =
   .ok (Extern.MathBitsCarry.pair ((x.toNat + Extern.MathBitsCarry.m64 - y.toNat - k) % Extern.MathBitsCarry.m64) (if x.toNat < y.toNat + k then 1 else 0)) w := by
  intro k hk
  have : k = 0 ∨ k = 1 := by omega
  rcases this with rfl | rfl <;> rfl
 obtain ⟨k, rfl⟩ := Int.eq_ofNat_of_zero_le h3
 rw [run_callFunc_extern (e := sub64Entry) Tryd.func80 (by kernel_rfl) (by kernel_rfl) (by kernel_rfl) (by kernel_rfl), key k (by omega)]
 obtain ⟨X, rfl⟩ := Int.eq_ofNat_of_zero_le h1; obtain ⟨Y, rfl⟩ := Int.eq_ofNat_of_zero_le h2; simp only [Extern.MathBitsCarry.pair, Extern.MathBitsCarry.m64, Int.toNat_natCast, Result.andThen]
 have e1 : (((X + 18446744073709551616 - Y - k) % 18446744073709551616 : Nat) : Int) = ((X : Int) - Y - k) % 18446744073709551616 := by omega
 have e2 : ((if X < Y + k then 1 else 0 : Nat) : Int) = if (X : Int) < Y + k then 1 else 0 := by split <;> split <;> omega
 rw [← e1, ← e2]
 rfl

/-! ### big_size_minus: function 77 -/
noncomputable def big_size_minus.f (a0_0 : Int) (a0_1 : Int) (a1_0 : Int) (a1_1 : Int) : Option (Int × Int) := (bits_Sub64.f a0_1 a1_1 0).bind fun bt194 => ((bits_Sub64.f a0_0 a1_0 bt194.2).bind fun bt196 => (some (bt196.1, bt194.1)))
set_option maxHeartbeats 8000000 in
set_option maxRecDepth 100000 in
theorem big_size_minus.calls (a0_0 : Int) (a0_1 : Int) (a1_0 : Int) (a1_1 : Int) (r1 : Int) (r2 : Int) (w : World) (h : big_size_minus.f a0_0 a0_1 a1_0 a1_1 = some (r1, r2)) :
  Calls Tryd.prog 77 #[.agg #[.int .u64 a0_0, .int .u64 a0_1], .agg #[.int .u64 a1_0, .int .u64 a1_1]] w fun e w' => e = .returned (.agg #[.int .u64 r1, .int .u64 r2]) ∧ Below w.heap.size w w' := by
 have hu69 := Tryd.underlying69; have HB := Aside0.mk (Below.refl w.heap.size w); have H : ((bits_Sub64.f a0_1 a1_1 0).bind fun bt194 => ((bits_Sub64.f a0_0 a1_0 bt194.2).bind fun bt196 => (some (bt196.1, bt194.1)))) = some (r1, r2) := h; clear h; replace H := Option.bind_eq_some_iff.mp H; obtain ⟨⟨t194, t195⟩, A30, H⟩ := H; replace H : ((bits_Sub64.f a0_0 a1_0 t195).bind fun bt196 => (some (bt196.1, t194))) = some (r1, r2) := H; have A3 := Aside0.mk A30; clear A30; replace H := Option.bind_eq_some_iff.mp H; obtain ⟨⟨t196, t197⟩, A40, H⟩ := H; replace H : (some (t196, t194)) = some (r1, r2) := H; have A4 := Aside0.mk A40; clear A40; simp only [Option.some.injEq, Prod.mk.injEq] at H; obtain ⟨rfl, rfl⟩ := H
 go_enter Tryd.func77, Tryd.ntmps77
 go_wp2_with (first | ((with_reducible refine gate_dst (N := 2) rfl ?_); refine box_event ?hg (N := 2) ?hd (cs := #[.int .u64 a0_0, .int .u64 a0_1]) (t := 69) ?hr ?_; (case hd => rfl); (case hg => rfl); (case hr => first | (go_simp; done) | (go_simp; rfl)); intro gb191 hg w5 hbox hb; have BK191 := Aside0.mk (hbox); obtain ⟨GW191, nHB⟩ := geA hg hb; have GE191 := GW191; replace HB := nHB; clear nHB; clear hb hbox hg) | ((with_reducible refine gate_dst (N := 3) rfl ?_); refine box_event ?hg (N := 3) ?hd (cs := #[.int .u64 a1_0, .int .u64 a1_1]) (t := 69) ?hr ?_; (case hd => rfl); (case hg => rfl); (case hr => first | (go_simp; done) | (go_simp; rfl)); intro gb192 hg w6 hbox hb; have BK192 := Aside0.mk (hbox); obtain ⟨GW192, nHB⟩ := geA hg hb; have GE192 := GW192; obtain ⟨NB191_192, NB192_191, nBK⟩ := nbA BK191 hg hb; replace BK191 := nBK; clear nBK; replace HB := nHB; clear nHB; clear hb hbox hg) | ((with_reducible refine gate_dst (N := 4) rfl ?_); refine box_event ?hg (N := 4) ?hd (cs := #[.int .u64 0, .int .u64 0]) (t := 69) ?hr ?_; (case hd => rfl); (case hg => rfl); (case hr => first | (go_simp; done) | (go_simp; rfl)); intro gb193 hg w7 hbox hb; have BK193 := Aside0.mk (hbox); obtain ⟨GW193, nHB⟩ := geA hg hb; have GE193 := GW193; obtain ⟨NB191_193, NB193_191, nBK⟩ := nbA BK191 hg hb; replace BK191 := nBK; clear nBK; obtain ⟨NB192_193, NB193_192, nBK⟩ := nbA BK192 hg hb; replace BK192 := nBK; clear nBK; replace HB := nHB; clear nHB; clear hb hbox hg; have hnb8 := NB191_192.out; have hnc8 := NB192_191.out; have hnb9 := NB191_193.out; have hnc9 := NB193_191.out; have hcz10_0 := czZ BK191 0 (.int .u64 a0_0); have hcz10_1 := czZ BK191 1 (.int .u64 a0_1); have hfz10_0 := blk_frozen BK191.out 0; have hfz10_1 := blk_frozen BK191.out 1; have hnb11 := NB192_193.out; have hnc11 := NB193_192.out; have hcz12_0 := czZ BK192 0 (.int .u64 a1_0); have hcz12_1 := czZ BK192 1 (.int .u64 a1_1); have hfz12_0 := blk_frozen BK192.out 0; have hfz12_1 := blk_frozen BK192.out 1) | (simp only [bits_Sub64.runs a0_1 a1_1 0 t194 t195 A3.out]) | (simp only [bits_Sub64.runs a0_0 a1_0 t195 t196 t197 A4.out]; have hcz13_0 := czZ BK193 0 (.int .u64 0); have hcz13_1 := czZ BK193 1 (.int .u64 0); have hfz13_0 := blk_frozen BK193.out 0; have hfz13_1 := blk_frozen BK193.out 1))
 refine bodyPost_ret (results_cell_row rfl _ _ gb193 69 #[.int .u64 t196, .int .u64 t194] (0, 0) _ rfl (by (with_reducible repeat first | apply blk_drewN | apply blk_drew | apply blk_alloc); refine blk_put (cs := #[.int .u64 t196, .int .u64 0]) ?_ 1 _ rfl; (with_reducible repeat first | apply blk_drewN | apply blk_drew | apply blk_alloc); refine blk_put (cs := #[.int .u64 0, .int .u64 0]) ?_ 0 _ rfl; (with_reducible repeat first | apply blk_drewN | apply blk_drew | apply blk_alloc); exact BK193.out) Tryd.underlying69 rfl (by kernel_rfl)) rfl ?_; exact ⟨by first | rfl | (simp [errW_none, errW_some] <;> rfl) | (simp [*, errW_none, errW_some] <;> rfl), by repeat (first | (with_reducible first | exact HB.out | apply below_alloc | apply pw_below_drewN | apply below_drew1 | refine below_set ?_ (Aside0.out (by assumption))) | exact HB.out)⟩

end Go.Proofs.YtbpcfamjidjhjaaDoor.Px
