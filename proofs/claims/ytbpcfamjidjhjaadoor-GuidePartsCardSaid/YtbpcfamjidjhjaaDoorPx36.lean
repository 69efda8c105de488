/- Printed by px.py, over the kit's print. Conditions: none beside the theorems' own. -/
import Derived.Test.YtbpcfamjidjhjaaDoorPx0
import Derived.Test.YtbpcfamjidjhjaaDoorPx32
import Derived.Test.YtbpcfamjidjhjaaDoorPx33
import Derived.Test.YtbpcfamjidjhjaaDoorSpec
namespace Go.Proofs.YtbpcfamjidjhjaaDoor.Px
open Go.RowKit Go.Proofs.YtbpcfamjidjhjaaDoorW.PrintWords Go.Proofs.YtbpcfamjidjhjaaDoorW.PrintLast Go.Proofs.YtbpcfamjidjhjaaDoorW.PrintMore
attribute [local go_sem] max2_int min2_int max_two min_two max_three min_three max_four min_four
set_option linter.unusedVariables false
set_option linter.unusedSimpArgs false

/-! ### sawtoothref02_Scale: function 52 -/
noncomputable def sawtoothref02_Scale.f (n : Bool) (h l k : Int) : Option (Bool × Int × Int × Int) := Sp.scaleF n h l k
section Ref02Scale
theorem sawtoothref02_Scale.gen {P : Program} {c : Code} {Q : Exit → Act → World → Prop} {n : Nat} {a : Act} {w : World} {F : World → Prop} (hf : F w) (h : ∀ w', F w' → Code.rounds P c Q n a w') : Code.rounds P c Q n a w := h w hf
/-- What the memory holds between two rounds. -/
def sawtoothref02_Scale.M (w : World) (b6 : Nat) (x0 : Bool) (x1 x2 d0 d1 d2 d3 k0 k1 o0 o1 o2 o3 o4 o5 : Int) (w' : World) : Prop :=
 w'.heap[b6]? = some (.cells #[.int .u64 d0, .int .u64 d1, .int .u64 d2, .int .u64 d3] 76 (0, 0)) ∧
 w'.heap[b6 + 1]? = some (.cells #[.int .u64 k0, .int .u64 k1] 85 (0, 0)) ∧
 w'.heap[b6 + 1 + 1]? = some (.cells #[.int .u64 o0, .int .u64 o1, .int .u64 o2, .int .u64 o3, .int .u64 o4, .int .u64 o5] 93 (0, 0)) ∧
 w'.heap[w.heap.size]? = some (.cells #[.bool x0, .int .u64 x1, .int .u64 x2] 59 (0, 0)) ∧
 w'.heap[w.heap.size + 1]? = some (.cells #[.bool false, .int .u64 0, .int .u64 0] 59 (0, 0)) ∧
 Below w.heap.size w w' ∧ w.heap.size + 1 < b6
theorem sawtoothref02_Scale.put {w : World} {b6 : Nat} {x0 : Bool} {x1 x2 d0 d1 d2 d3 k0 k1 o0 o1 o2 o3 o4 o5 p0 p1 p2 p3 p4 p5 : Int} {w' : World} (h : sawtoothref02_Scale.M w b6 x0 x1 x2 d0 d1 d2 d3 k0 k1 o0 o1 o2 o3 o4 o5 w') (i : Nat) (v : Value) (e : (#[.int .u64 o0, .int .u64 o1, .int .u64 o2, .int .u64 o3, .int .u64 o4, .int .u64 o5] : Array Value).setIfInBounds i v = #[.int .u64 p0, .int .u64 p1, .int .u64 p2, .int .u64 p3, .int .u64 p4, .int .u64 p5]) : sawtoothref02_Scale.M w b6 x0 x1 x2 d0 d1 d2 d3 k0 k1 p0 p1 p2 p3 p4 p5 (w'.setCell ⟨b6 + 1 + 1, i, none⟩ v) := by
 obtain ⟨h1, h2, h3, h4, h5, h6, h7⟩ := h; refine ⟨blk_far h1 (show b6 ≠ b6 + 1 + 1 by omega) _, blk_far h2 (show b6 + 1 ≠ b6 + 1 + 1 by omega) _, ?_, blk_far h4 (show w.heap.size ≠ b6 + 1 + 1 by omega) _, blk_far h5 (show w.heap.size + 1 ≠ b6 + 1 + 1 by omega) _, below_set h6 (show w.heap.size ≤ b6 + 1 + 1 by omega), h7⟩; have := blk_set h3 i v
 rw [e] at this; exact this
theorem sawtoothref02_Scale.drewN {w : World} {b6 : Nat} {x0 : Bool} {x1 x2 d0 d1 d2 d3 k0 k1 o0 o1 o2 o3 o4 o5 : Int} {w' : World} (h : sawtoothref02_Scale.M w b6 x0 x1 x2 d0 d1 d2 d3 k0 k1 o0 o1 o2 o3 o4 o5 w') (n : Nat) : sawtoothref02_Scale.M w b6 x0 x1 x2 d0 d1 d2 d3 k0 k1 o0 o1 o2 o3 o4 o5 (w'.drewN n) := by
 obtain ⟨h1, h2, h3, h4, h5, h6, h7⟩ := h; exact ⟨h1, h2, h3, h4, h5, pw_below_drewN h6 n, h7⟩
theorem sawtoothref02_Scale.keep {w : World} {b6 : Nat} {x0 : Bool} {x1 x2 d0 d1 d2 d3 k0 k1 o0 o1 o2 o3 o4 o5 : Int} {w' w'' : World} (h : sawtoothref02_Scale.M w b6 x0 x1 x2 d0 d1 d2 d3 k0 k1 o0 o1 o2 o3 o4 o5 w') (hb : Below w'.heap.size w' w'') : sawtoothref02_Scale.M w b6 x0 x1 x2 d0 d1 d2 d3 k0 k1 o0 o1 o2 o3 o4 o5 w'' := by
 obtain ⟨h1, h2, h3, h4, h5, h6, h7⟩ := h; exact ⟨blk_below h1 hb, blk_below h2 hb, blk_below h3 hb, blk_below h4 hb, blk_below h5 hb, Go.Proofs.YtbpcfamjidjhjaaDoorW.PrintWords.below_then h6 h6.size hb, h7⟩
theorem sawtoothref02_Scale.start {w w1 : World} (x0 : Bool) (x1 x2 d0 d1 d2 d3 k0 k1 : Int) (hb : Below ((w.alloc (.cells #[.bool x0, .int .u64 x1, .int .u64 x2] 59)).alloc (.cells #[.bool false, .int .u64 0, .int .u64 0] 59)).heap.size ((w.alloc (.cells #[.bool x0, .int .u64 x1, .int .u64 x2] 59)).alloc (.cells #[.bool false, .int .u64 0, .int .u64 0] 59)) w1) :
  sawtoothref02_Scale.M w w1.heap.size x0 x1 x2 d0 d1 d2 d3 k0 k1 0 0 0 0 0 0 (((w1.alloc (.cells #[.int .u64 d0, .int .u64 d1, .int .u64 d2, .int .u64 d3] 76)).alloc (.cells #[.int .u64 k0, .int .u64 k1] 85)).alloc (.cells #[.int .u64 0, .int .u64 0, .int .u64 0, .int .u64 0, .int .u64 0, .int .u64 0] 93)) := by
 have hs := hb.size
 have e1 : ∀ (u : World) (o : Obj), (u.alloc o).heap.size = u.heap.size + 1 := fun u o => by simp
 have B0 : Below w.heap.size w ((w.alloc (.cells #[.bool x0, .int .u64 x1, .int .u64 x2] 59)).alloc (.cells #[.bool false, .int .u64 0, .int .u64 0] 59)) := below_alloc (below_alloc (Below.refl _ _) _) _; refine ⟨blk_alloc (blk_alloc (blk_new _ _) _) _, ?_, ?_, ?_, ?_, ?_, ?_⟩
 ·refine blk_alloc ?_ _; rw [← e1 w1]; exact blk_new _ _
 ·rw [← e1 w1, ← e1]; exact blk_new _ _
 ·exact blk_alloc (blk_alloc (blk_alloc (blk_below (blk_alloc (blk_new _ _) _) hb) _) _) _
 ·refine blk_alloc (blk_alloc (blk_alloc (blk_below ?_ hb) _) _) _; rw [← e1 w]; exact blk_new _ _
 ·exact below_alloc (below_alloc (below_alloc (Go.Proofs.YtbpcfamjidjhjaaDoorW.PrintWords.below_then B0 B0.size hb) _) _) _
 ·rw [e1, e1] at hs; omega
set_option maxHeartbeats 8000000 in
set_option maxRecDepth 100000 in
theorem sawtoothref02_Scale.walk (x0 : Bool) (x1 x2 n d0 d1 d2 d3 k0 k1 p00 o00 c00 p01 s01 o01 c01 p02 s02 o02 c02 p03 s03 o03 c03 p10 s10 o10 c10 u10 p11 s11 o11 c11 u11 p12 s12 o12 c12 u12 p13 s13 o13 c13 u13 : Int) (b4 b5 : Bool) (r1 : Bool) (r2 r3 r4 : Int) (HD : Aside0 (sawtoothref02_digits.f x0 x1 x2 = some (d0, d1, d2, d3))) (K0 : Int.tmod n 4294967296 = k0) (K1 : IntKind.u64.wrap (Int.tdiv n 4294967296) = k1) (P00 : IntKind.u64.wrap (k0 * d0) = p00) (T00 : IntKind.u64.wrap p00 = p00) (R00 : Int.tmod p00 4294967296 = o00) (Q00 : IntKind.u64.wrap (Int.tdiv p00 4294967296) = c00) (P01 : IntKind.u64.wrap (k0 * d1) = p01) (T01 : IntKind.u64.wrap p01 = p01) (S01 : IntKind.u64.wrap (p01 + c00) = s01) (R01 : Int.tmod s01 4294967296 = o01) (Q01 : IntKind.u64.wrap (Int.tdiv s01 4294967296) = c01) (P02 : IntKind.u64.wrap (k0 * d2) = p02) (T02 : IntKind.u64.wrap p02 = p02) (S02 : IntKind.u64.wrap (p02 + c01) = s02) (R02 : Int.tmod s02 4294967296 = o02) (Q02 : IntKind.u64.wrap (Int.tdiv s02 4294967296) = c02) (P03 : IntKind.u64.wrap (k0 * d3) = p03) (T03 : IntKind.u64.wrap p03 = p03) (S03 : IntKind.u64.wrap (p03 + c02) = s03) (R03 : Int.tmod s03 4294967296 = o03) (Q03 : IntKind.u64.wrap (Int.tdiv s03 4294967296) = c03) (P10 : IntKind.u64.wrap (k1 * d0) = p10) (T10 : IntKind.u64.wrap (p10 + o01) = u10) (S10 : IntKind.u64.wrap u10 = s10) (R10 : Int.tmod s10 4294967296 = o10) (Q10 : IntKind.u64.wrap (Int.tdiv s10 4294967296) = c10) (P11 : IntKind.u64.wrap (k1 * d1) = p11) (T11 : IntKind.u64.wrap (p11 + o02) = u11) (S11 : IntKind.u64.wrap (u11 + c10) = s11) (R11 : Int.tmod s11 4294967296 = o11) (Q11 : IntKind.u64.wrap (Int.tdiv s11 4294967296) = c11) (P12 : IntKind.u64.wrap (k1 * d2) = p12) (T12 : IntKind.u64.wrap (p12 + o03) = u12) (S12 : IntKind.u64.wrap (u12 + c11) = s12) (R12 : Int.tmod s12 4294967296 = o12) (Q12 : IntKind.u64.wrap (Int.tdiv s12 4294967296) = c12) (P13 : IntKind.u64.wrap (k1 * d3) = p13) (T13 : IntKind.u64.wrap (p13 + c03) = u13) (S13 : IntKind.u64.wrap (u13 + c12) = s13) (R13 : Int.tmod s13 4294967296 = o13) (Q13 : IntKind.u64.wrap (Int.tdiv s13 4294967296) = c13) (Z0 : IntKind.u64.wrap c03 = c03) (Z1 : IntKind.u64.wrap c13 = c13) (g4 : decide (o13 > 0) = b4) (g5 : decide (c13 > 0) = b5) (HR : Aside0 ((b4 || b5) = true ∧ r1 = false ∧ r2 = 0 ∧ r3 = 0 ∧ r4 = 10 ∨ b4 = false ∧ b5 = false ∧ sawtoothref02_wholeS.f o00 o10 o11 o12 x0 = some (r1, r2, r3) ∧ r4 = 0)) (w : World) :
  Calls Tryd.prog 52 #[.agg #[.bool x0, .int .u64 x1, .int .u64 x2], .int .u64 n] w fun e w' => e = .returned (.tuple #[.agg #[.bool r1, .int .u64 r2, .int .u64 r3], .int .i64 r4]) ∧ Below w.heap.size w w' := by
 have hu61 := Tryd.underlying76; have hu69 := Tryd.underlying85; have hu70 := Tryd.underlying93; have hu60 := Tryd.underlying59; have HB := Aside0.mk (Below.refl w.heap.size w)
 go_enter Tryd.func52, Tryd.ntmps52
 go_wp2_with (first
  | (go_at_call 49; refine (sawtoothref02_digits.calls x0 x1 x2 d0 d1 d2 d3 _ HD.out).mono ?_; rintro e w1 ⟨rfl, hb⟩; have H1 := Aside0.mk hb; clear hb)
  | fail)
 refine wp_loop_rounds 3 ?_; refine sawtoothref02_Scale.gen (sawtoothref02_Scale.start x0 x1 x2 d0 d1 d2 d3 k0 k1 H1.out) ?_; intro w2 hw2; have hM := Aside0.mk hw2; clear hw2 HB H1
 generalize w1.heap.size = b6 at *
 clear w1
 rw [rounds_succ]
 go_wp2_with (fail)
 refine wp_loop_rounds 5 ?_
 rw [rounds_succ]
 have z0 := (blk_cell hM.out.1 0).trans rfl; have z1 := (blk_cell hM.out.2.1 0).trans rfl; have z2 := (blk_cell hM.out.2.2.1 0).trans rfl; have z3 := blk_frozen hM.out.2.2.1 0
 go_wp2_with (fail)
 go_quiet (fail)
 go_wp2_with (fail)
 refine sawtoothref02_Scale.gen (F := sawtoothref02_Scale.M w b6 x0 x1 x2 d0 d1 d2 d3 k0 k1 o00 0 0 0 0 0) (sawtoothref02_Scale.put (sawtoothref02_Scale.drewN hM.out _) 0 _ rfl) ?_; clear hM z0 z1 z2 z3 w2; intro w2 hw2; have hM := Aside0.mk hw2; clear hw2
 rw [rounds_succ]
 have z0 := (blk_cell hM.out.1 1).trans rfl; have z1 := (blk_cell hM.out.2.1 0).trans rfl; have z2 := (blk_cell hM.out.2.2.1 1).trans rfl; have z3 := blk_frozen hM.out.2.2.1 1
 go_wp2_with (fail)
 go_quiet (fail)
 go_wp2_with (fail)
 refine sawtoothref02_Scale.gen (F := sawtoothref02_Scale.M w b6 x0 x1 x2 d0 d1 d2 d3 k0 k1 o00 o01 0 0 0 0) (sawtoothref02_Scale.put (sawtoothref02_Scale.drewN hM.out _) 1 _ rfl) ?_; clear hM z0 z1 z2 z3 w2; intro w2 hw2; have hM := Aside0.mk hw2; clear hw2
 rw [rounds_succ]
 have z0 := (blk_cell hM.out.1 2).trans rfl; have z1 := (blk_cell hM.out.2.1 0).trans rfl; have z2 := (blk_cell hM.out.2.2.1 2).trans rfl; have z3 := blk_frozen hM.out.2.2.1 2
 go_wp2_with (fail)
 go_quiet (fail)
 go_wp2_with (fail)
 refine sawtoothref02_Scale.gen (F := sawtoothref02_Scale.M w b6 x0 x1 x2 d0 d1 d2 d3 k0 k1 o00 o01 o02 0 0 0) (sawtoothref02_Scale.put (sawtoothref02_Scale.drewN hM.out _) 2 _ rfl) ?_; clear hM z0 z1 z2 z3 w2; intro w2 hw2; have hM := Aside0.mk hw2; clear hw2
 rw [rounds_succ]
 have z0 := (blk_cell hM.out.1 3).trans rfl; have z1 := (blk_cell hM.out.2.1 0).trans rfl; have z2 := (blk_cell hM.out.2.2.1 3).trans rfl; have z3 := blk_frozen hM.out.2.2.1 3
 go_wp2_with (fail)
 go_quiet (fail)
 go_wp2_with (fail)
 refine sawtoothref02_Scale.gen (F := sawtoothref02_Scale.M w b6 x0 x1 x2 d0 d1 d2 d3 k0 k1 o00 o01 o02 o03 0 0) (sawtoothref02_Scale.put (sawtoothref02_Scale.drewN hM.out _) 3 _ rfl) ?_; clear hM z0 z1 z2 z3 w2; intro w2 hw2; have hM := Aside0.mk hw2; clear hw2
 rw [rounds_succ]
 have z0 := (blk_cell hM.out.1 0).trans rfl; have z1 := (blk_cell hM.out.2.1 0).trans rfl; have z2 := (blk_cell hM.out.2.2.1 4).trans rfl; have z3 := blk_frozen hM.out.2.2.1 4
 go_wp2_with (fail)
 refine sawtoothref02_Scale.gen (F := sawtoothref02_Scale.M w b6 x0 x1 x2 d0 d1 d2 d3 k0 k1 o00 o01 o02 o03 c03 0) (sawtoothref02_Scale.put hM.out 4 _ rfl) ?_; clear hM z0 z1 z2 z3 w2; intro w2 hw2; have hM := Aside0.mk hw2; clear hw2
 rw [rounds_succ]
 go_wp2_with (fail)
 refine wp_loop_rounds 5 ?_
 rw [rounds_succ]
 have z0 := (blk_cell hM.out.1 0).trans rfl; have z1 := (blk_cell hM.out.2.1 1).trans rfl; have z2 := (blk_cell hM.out.2.2.1 1).trans rfl; have z3 := blk_frozen hM.out.2.2.1 1
 go_wp2_with (fail)
 go_quiet (fail)
 go_wp2_with (fail)
 refine sawtoothref02_Scale.gen (F := sawtoothref02_Scale.M w b6 x0 x1 x2 d0 d1 d2 d3 k0 k1 o00 o10 o02 o03 c03 0) (sawtoothref02_Scale.put (sawtoothref02_Scale.drewN hM.out _) 1 _ rfl) ?_; clear hM z0 z1 z2 z3 w2; intro w2 hw2; have hM := Aside0.mk hw2; clear hw2
 rw [rounds_succ]
 have z0 := (blk_cell hM.out.1 1).trans rfl; have z1 := (blk_cell hM.out.2.1 1).trans rfl; have z2 := (blk_cell hM.out.2.2.1 2).trans rfl; have z3 := blk_frozen hM.out.2.2.1 2
 go_wp2_with (fail)
 go_quiet (fail)
 go_wp2_with (fail)
 refine sawtoothref02_Scale.gen (F := sawtoothref02_Scale.M w b6 x0 x1 x2 d0 d1 d2 d3 k0 k1 o00 o10 o11 o03 c03 0) (sawtoothref02_Scale.put (sawtoothref02_Scale.drewN hM.out _) 2 _ rfl) ?_; clear hM z0 z1 z2 z3 w2; intro w2 hw2; have hM := Aside0.mk hw2; clear hw2
 rw [rounds_succ]
 have z0 := (blk_cell hM.out.1 2).trans rfl; have z1 := (blk_cell hM.out.2.1 1).trans rfl; have z2 := (blk_cell hM.out.2.2.1 3).trans rfl; have z3 := blk_frozen hM.out.2.2.1 3
 go_wp2_with (fail)
 go_quiet (fail)
 go_wp2_with (fail)
 refine sawtoothref02_Scale.gen (F := sawtoothref02_Scale.M w b6 x0 x1 x2 d0 d1 d2 d3 k0 k1 o00 o10 o11 o12 c03 0) (sawtoothref02_Scale.put (sawtoothref02_Scale.drewN hM.out _) 3 _ rfl) ?_; clear hM z0 z1 z2 z3 w2; intro w2 hw2; have hM := Aside0.mk hw2; clear hw2
 rw [rounds_succ]
 have z0 := (blk_cell hM.out.1 3).trans rfl; have z1 := (blk_cell hM.out.2.1 1).trans rfl; have z2 := (blk_cell hM.out.2.2.1 4).trans rfl; have z3 := blk_frozen hM.out.2.2.1 4
 go_wp2_with (fail)
 go_quiet (fail)
 go_wp2_with (fail)
 refine sawtoothref02_Scale.gen (F := sawtoothref02_Scale.M w b6 x0 x1 x2 d0 d1 d2 d3 k0 k1 o00 o10 o11 o12 o13 0) (sawtoothref02_Scale.put (sawtoothref02_Scale.drewN hM.out _) 4 _ rfl) ?_; clear hM z0 z1 z2 z3 w2; intro w2 hw2; have hM := Aside0.mk hw2; clear hw2
 rw [rounds_succ]
 have z0 := (blk_cell hM.out.1 0).trans rfl; have z1 := (blk_cell hM.out.2.1 1).trans rfl; have z2 := (blk_cell hM.out.2.2.1 5).trans rfl; have z3 := blk_frozen hM.out.2.2.1 5
 go_wp2_with (fail)
 refine sawtoothref02_Scale.gen (F := sawtoothref02_Scale.M w b6 x0 x1 x2 d0 d1 d2 d3 k0 k1 o00 o10 o11 o12 o13 c13) (sawtoothref02_Scale.put hM.out 5 _ rfl) ?_; clear hM z0 z1 z2 z3 w2; intro w2 hw2; have hM := Aside0.mk hw2; clear hw2; have z4 := (blk_cell hM.out.2.2.1 4).trans rfl; have z5 := (blk_cell hM.out.2.2.1 5).trans rfl; have f4 := blk_frozen hM.out.2.2.1 4; have f5 := blk_frozen hM.out.2.2.1 5; have y0 := (blk_cell hM.out.2.2.2.1 0).trans rfl; have v0 := (blk_cell hM.out.2.2.1 0).trans rfl; have v1 := (blk_cell hM.out.2.2.1 1).trans rfl; have v2 := (blk_cell hM.out.2.2.1 2).trans rfl; have v3 := (blk_cell hM.out.2.2.1 3).trans rfl; have q0 := (blk_cell hM.out.2.2.2.2.1 0).trans rfl; have qf0 := blk_frozen hM.out.2.2.2.2.1 0; have q1 := (blk_cell hM.out.2.2.2.2.1 1).trans rfl; have qf1 := blk_frozen hM.out.2.2.2.2.1 1; have q2 := (blk_cell hM.out.2.2.2.2.1 2).trans rfl; have qf2 := blk_frozen hM.out.2.2.2.2.1 2
 rw [rounds_succ]
 have hRR := HR.out
 cases b4 with
 | true =>
  rcases hRR with ⟨_, rfl, rfl, rfl, rfl⟩ | ⟨h, _⟩
  ·clear HR HD
   go_wp2_with (fail)
   refine bodyPost_ret (Sp.results_row_tmp rfl _ _ (w.heap.size + 1) 59 #[.bool false, .int .u64 0, .int .u64 0] (0, 0) _ rfl (by
    refine blk_put (cs := #[.bool false, .int .u64 0, .int .u64 0]) ?_ 2 _ rfl; refine blk_put (cs := #[.bool false, .int .u64 0, .int .u64 0]) ?_ 1 _ rfl; refine blk_put (cs := #[.bool false, .int .u64 0, .int .u64 0]) ?_ 0 _ rfl; exact hM.out.2.2.2.2.1) hu60 rfl (by first | rfl | kernel_rfl)) rfl ?_
   have hBe := hM.out.2.2.2.2.2.1; exact ⟨rfl, by repeat (with_reducible first | exact hBe | refine below_set ?_ (by omega))⟩
  ·cases h
 | false =>
  cases b5 with
  | true =>
   rcases hRR with ⟨_, rfl, rfl, rfl, rfl⟩ | ⟨_, h, _⟩
   ·clear HR HD
    go_wp2_with (fail)
    refine bodyPost_ret (Sp.results_row_tmp rfl _ _ (w.heap.size + 1) 59 #[.bool false, .int .u64 0, .int .u64 0] (0, 0) _ rfl (by
     refine blk_put (cs := #[.bool false, .int .u64 0, .int .u64 0]) ?_ 2 _ rfl; refine blk_put (cs := #[.bool false, .int .u64 0, .int .u64 0]) ?_ 1 _ rfl; refine blk_put (cs := #[.bool false, .int .u64 0, .int .u64 0]) ?_ 0 _ rfl; exact hM.out.2.2.2.2.1) hu60 rfl (by first | rfl | kernel_rfl)) rfl ?_
    have hBe := hM.out.2.2.2.2.2.1; exact ⟨rfl, by repeat (with_reducible first | exact hBe | refine below_set ?_ (by omega))⟩
   ·cases h
  | false =>
   rcases hRR with ⟨h, _⟩ | ⟨_, _, hW, rfl⟩
   ·cases h
   ·have HW := Aside0.mk hW; clear HR HD hW
    go_wp2_with (first
     | (go_at_call 67; refine (sawtoothref02_wholeS.calls o00 o10 o11 o12 x0 r1 r2 r3 _ HW.out).mono ?_; rintro e w3 ⟨rfl, hb⟩; replace hM := Aside0.mk (sawtoothref02_Scale.keep hM.out hb); clear hb q0 q1 q2 qf0 qf1 qf2; have q0 := (blk_cell hM.out.2.2.2.2.1 0).trans rfl; have qf0 := blk_frozen hM.out.2.2.2.2.1 0; have q1 := (blk_cell hM.out.2.2.2.2.1 1).trans rfl; have qf1 := blk_frozen hM.out.2.2.2.2.1 1; have q2 := (blk_cell hM.out.2.2.2.2.1 2).trans rfl; have qf2 := blk_frozen hM.out.2.2.2.2.1 2)
     | fail)
    refine bodyPost_ret (Sp.results_row_tmp rfl _ _ (w.heap.size + 1) 59 #[.bool r1, .int .u64 r2, .int .u64 r3] (0, 0) _ rfl (by
     refine blk_put (cs := #[.bool r1, .int .u64 r2, .int .u64 0]) ?_ 2 _ rfl; refine blk_put (cs := #[.bool r1, .int .u64 0, .int .u64 0]) ?_ 1 _ rfl; refine blk_put (cs := #[.bool false, .int .u64 0, .int .u64 0]) ?_ 0 _ rfl; exact hM.out.2.2.2.2.1) hu60 rfl (by first | rfl | kernel_rfl)) rfl ?_
    have hBe := hM.out.2.2.2.2.2.1; exact ⟨rfl, by repeat (with_reducible first | exact hBe | refine below_set ?_ (by omega))⟩
/-- The product by digits. -/
theorem sawtoothref02_Scale.sum {h l n : Int} (h1 : Sp.U h) (h2 : Sp.U l) (h3 : Sp.U n)
  {k0 k1 p00 o00 c00 p01 s01 o01 c01 p02 s02 o02 c02 p03 s03 o03 c03 p10 s10 o10 c10 p11 s11 o11 c11 p12 s12 o12 c12 p13 s13 o13 c13 : Int}
  (K0 : k0 = n % 4294967296) (K1 : k1 = n / 4294967296)
  (P00 : p00 = k0 * (l % 4294967296)) (P01 : p01 = k0 * (l / 4294967296)) (P02 : p02 = k0 * (h % 4294967296)) (P03 : p03 = k0 * (h / 4294967296))
  (P10 : p10 = k1 * (l % 4294967296)) (P11 : p11 = k1 * (l / 4294967296)) (P12 : p12 = k1 * (h % 4294967296)) (P13 : p13 = k1 * (h / 4294967296))
  (R00 : o00 = p00 % 4294967296) (Q00 : c00 = p00 / 4294967296)
  (S01 : s01 = p01 + c00) (R01 : o01 = s01 % 4294967296) (Q01 : c01 = s01 / 4294967296)
  (S02 : s02 = p02 + c01) (R02 : o02 = s02 % 4294967296) (Q02 : c02 = s02 / 4294967296)
  (S03 : s03 = p03 + c02) (R03 : o03 = s03 % 4294967296) (Q03 : c03 = s03 / 4294967296)
  (S10 : s10 = p10 + o01) (R10 : o10 = s10 % 4294967296) (Q10 : c10 = s10 / 4294967296)
  (S11 : s11 = p11 + o02 + c10) (R11 : o11 = s11 % 4294967296) (Q11 : c11 = s11 / 4294967296)
  (S12 : s12 = p12 + o03 + c11) (R12 : o12 = s12 % 4294967296) (Q12 : c12 = s12 / 4294967296)
  (S13 : s13 = p13 + c03 + c12) (R13 : o13 = s13 % 4294967296) (Q13 : c13 = s13 / 4294967296) :
  (0 ≤ p00 ∧ p00 ≤ 18446744065119617025) ∧ (0 ≤ p01 ∧ p01 ≤ 18446744065119617025) ∧ (0 ≤ p02 ∧ p02 ≤ 18446744065119617025) ∧ (0 ≤ p03 ∧ p03 ≤ 18446744065119617025) ∧
  (0 ≤ p10 ∧ p10 ≤ 18446744065119617025) ∧ (0 ≤ p11 ∧ p11 ≤ 18446744065119617025) ∧ (0 ≤ p12 ∧ p12 ≤ 18446744065119617025) ∧ (0 ≤ p13 ∧ p13 ≤ 18446744065119617025) ∧
  (h * 18446744073709551616 + l) * n = o00 + o10 * 4294967296 + o11 * 18446744073709551616 + o12 * 79228162514264337593543950336 + o13 * 340282366920938463463374607431768211456 + c13 * 1461501637330902918203684832716283019655932542976 := by
 have bd : ∀ x y : Int, 0 ≤ x → x < 4294967296 → 0 ≤ y → y < 4294967296 → 0 ≤ x * y ∧ x * y ≤ 18446744065119617025 := fun x y a b c d => Sp.mul_le (A := 4294967295) (C := 4294967295) a (by omega) c (by omega)
 have k0b : 0 ≤ k0 ∧ k0 < 4294967296 := by omega
 have k1b : 0 ≤ k1 ∧ k1 < 4294967296 := by omega
 have e : (h * 18446744073709551616 + l) * n = p00 + (p01 + p10) * 4294967296 + (p02 + p11) * 18446744073709551616 + (p03 + p12) * 79228162514264337593543950336 + p13 * 340282366920938463463374607431768211456 := by
  have en : n = k0 + k1 * 4294967296 := by omega
  have eh : h = h % 4294967296 + h / 4294967296 * 4294967296 := by omega
  have el : l = l % 4294967296 + l / 4294967296 * 4294967296 := by omega
  rw [P00, P01, P02, P03, P10, P11, P12, P13, en]
  generalize h % 4294967296 = x2 at *
  generalize h / 4294967296 = x3 at *
  generalize l % 4294967296 = x0 at *
  generalize l / 4294967296 = x1 at *
  rw [eh, el, Int.mul_add]
  simp only [Int.add_mul, Int.mul_comm _ k0, ← Int.mul_assoc _ k1 4294967296, Int.mul_comm _ k1, Int.mul_add, ← Int.mul_assoc k0, ← Int.mul_assoc k1]
  omega
 have b00 := bd k0 (l % 4294967296) k0b.1 k0b.2 (by omega) (by omega); have b01 := bd k0 (l / 4294967296) k0b.1 k0b.2 (by omega) (by omega); have b02 := bd k0 (h % 4294967296) k0b.1 k0b.2 (by omega) (by omega); have b03 := bd k0 (h / 4294967296) k0b.1 k0b.2 (by omega) (by omega); have b10 := bd k1 (l % 4294967296) k1b.1 k1b.2 (by omega) (by omega); have b11 := bd k1 (l / 4294967296) k1b.1 k1b.2 (by omega) (by omega); have b12 := bd k1 (h % 4294967296) k1b.1 k1b.2 (by omega) (by omega); have b13 := bd k1 (h / 4294967296) k1b.1 k1b.2 (by omega) (by omega)
 rw [← P00] at b00; rw [← P01] at b01; rw [← P02] at b02; rw [← P03] at b03; rw [← P10] at b10; rw [← P11] at b11; rw [← P12] at b12; rw [← P13] at b13
 refine ⟨b00, b01, b02, b03, b10, b11, b12, b13, ?_⟩
 rw [e]
 clear P00 P01 P02 P03 P10 P11 P12 P13 e bd K0 K1 k0b k1b h1 h2 h3
 omega
theorem sawtoothref02_Scale.uu {a b : Int} (h1 : 0 ≤ a ∧ a < 4294967296) (h2 : 0 ≤ b ∧ b < 4294967296) : 0 ≤ a * 4294967296 + b ∧ a * 4294967296 + b < 18446744073709551616 := by omega
theorem sawtoothref02_Scale.big {a b c d e f : Int} (h1 : 0 ≤ a ∧ a < 4294967296) (h2 : 0 ≤ b ∧ b < 4294967296) (h3 : 0 ≤ c ∧ c < 4294967296) (h4 : 0 ≤ d ∧ d < 4294967296) (h5 : 0 ≤ e ∧ e < 4294967296) (h6 : 0 ≤ f ∧ f < 4294967296) (h : ¬ (e = 0 ∧ f = 0)) : 340282366920938463463374607431768211456 ≤ a + b * 4294967296 + c * 18446744073709551616 + d * 79228162514264337593543950336 + e * 340282366920938463463374607431768211456 + f * 1461501637330902918203684832716283019655932542976 := by omega
theorem sawtoothref02_Scale.one {e f : Int} (h5 : 0 ≤ e ∧ e < 4294967296) (h6 : 0 ≤ f ∧ f < 4294967296) (h : ¬ (e = 0 ∧ f = 0)) (k : ¬ e > 0) : f > 0 := by omega
theorem sawtoothref02_Scale.lim {p o c : Int} (a : 0 ≤ p ∧ p ≤ 18446744065119617025) (b : 0 ≤ o ∧ o < 4294967296) (d : 0 ≤ c ∧ c < 4294967296) : 0 ≤ p + o + c ∧ p + o + c < 18446744073709551616 := by omega
theorem sawtoothref02_Scale.lim2 {p o : Int} (a : 0 ≤ p ∧ p ≤ 18446744065119617025) (b : 0 ≤ o ∧ o < 4294967296) : 0 ≤ p + o ∧ p + o < 18446744073709551616 := by omega
theorem sawtoothref02_Scale.lim1 {p : Int} (a : 0 ≤ p ∧ p ≤ 18446744065119617025) : 0 ≤ p ∧ p < 18446744073709551616 := by omega
theorem sawtoothref02_Scale.qr {s : Int} (a : 0 ≤ s ∧ s < 18446744073709551616) : (0 ≤ s % 4294967296 ∧ s % 4294967296 < 4294967296) ∧ (0 ≤ s / 4294967296 ∧ s / 4294967296 < 4294967296) := by omega
theorem sawtoothref02_Scale.calls (n0 : Bool) (h l n : Int) (r1 : Bool) (r2 r3 r4 : Int) (w : World) (hf : sawtoothref02_Scale.f n0 h l n = some (r1, r2, r3, r4)) :
  Calls Tryd.prog 52 #[.agg #[.bool n0, .int .u64 h, .int .u64 l], .int .u64 n] w fun e w' => e = .returned (.tuple #[.agg #[.bool r1, .int .u64 r2, .int .u64 r3], .int .i64 r4]) ∧ Below w.heap.size w w' := by
 obtain ⟨⟨h1, h2, h3⟩, hf⟩ := Sp.need_some hf
 have sm : ∀ {x : Int}, (0 ≤ x ∧ x < 18446744073709551616) → IntKind.u64.wrap x = x := fun h => Sp.u64w_in h
 have tm : ∀ {x : Int}, (0 ≤ x ∧ x < 18446744073709551616) → Int.tmod x 4294967296 = x % 4294967296 := fun h => Int.tmod_eq_emod_of_nonneg h.1
 have td : ∀ {x : Int}, (0 ≤ x ∧ x < 18446744073709551616) → IntKind.u64.wrap (Int.tdiv x 4294967296) = x / 4294967296 := fun h => by rw [Int.tdiv_eq_ediv_of_nonneg h.1]; exact sm ⟨(sawtoothref02_Scale.qr h).2.1, by have := (sawtoothref02_Scale.qr h).2.2; omega⟩
 have D : sawtoothref02_digits.f n0 h l = some (l % 4294967296, l / 4294967296, h % 4294967296, h / 4294967296) := by unfold sawtoothref02_digits.f; rw [tm h2, td h2, tm h1, td h1]
 obtain ⟨k0, Dk0⟩ : ∃ x : Int, x = n % 4294967296 := ⟨_, rfl⟩
 obtain ⟨k1, Dk1⟩ : ∃ x : Int, x = n / 4294967296 := ⟨_, rfl⟩
 obtain ⟨p00, Dp00⟩ : ∃ x : Int, x = k0 * (l % 4294967296) := ⟨_, rfl⟩
 obtain ⟨p01, Dp01⟩ : ∃ x : Int, x = k0 * (l / 4294967296) := ⟨_, rfl⟩
 obtain ⟨p02, Dp02⟩ : ∃ x : Int, x = k0 * (h % 4294967296) := ⟨_, rfl⟩
 obtain ⟨p03, Dp03⟩ : ∃ x : Int, x = k0 * (h / 4294967296) := ⟨_, rfl⟩
 obtain ⟨p10, Dp10⟩ : ∃ x : Int, x = k1 * (l % 4294967296) := ⟨_, rfl⟩
 obtain ⟨p11, Dp11⟩ : ∃ x : Int, x = k1 * (l / 4294967296) := ⟨_, rfl⟩
 obtain ⟨p12, Dp12⟩ : ∃ x : Int, x = k1 * (h % 4294967296) := ⟨_, rfl⟩
 obtain ⟨p13, Dp13⟩ : ∃ x : Int, x = k1 * (h / 4294967296) := ⟨_, rfl⟩
 obtain ⟨o00, Do00⟩ : ∃ x : Int, x = p00 % 4294967296 := ⟨_, rfl⟩
 obtain ⟨c00, Dc00⟩ : ∃ x : Int, x = p00 / 4294967296 := ⟨_, rfl⟩
 obtain ⟨s01, Ds01⟩ : ∃ x : Int, x = p01 + c00 := ⟨_, rfl⟩
 obtain ⟨o01, Do01⟩ : ∃ x : Int, x = s01 % 4294967296 := ⟨_, rfl⟩
 obtain ⟨c01, Dc01⟩ : ∃ x : Int, x = s01 / 4294967296 := ⟨_, rfl⟩
 obtain ⟨s02, Ds02⟩ : ∃ x : Int, x = p02 + c01 := ⟨_, rfl⟩
 obtain ⟨o02, Do02⟩ : ∃ x : Int, x = s02 % 4294967296 := ⟨_, rfl⟩
 obtain ⟨c02, Dc02⟩ : ∃ x : Int, x = s02 / 4294967296 := ⟨_, rfl⟩
 obtain ⟨s03, Ds03⟩ : ∃ x : Int, x = p03 + c02 := ⟨_, rfl⟩
 obtain ⟨o03, Do03⟩ : ∃ x : Int, x = s03 % 4294967296 := ⟨_, rfl⟩
 obtain ⟨c03, Dc03⟩ : ∃ x : Int, x = s03 / 4294967296 := ⟨_, rfl⟩
 obtain ⟨s10, Ds10⟩ : ∃ x : Int, x = p10 + o01 := ⟨_, rfl⟩
 obtain ⟨o10, Do10⟩ : ∃ x : Int, x = s10 % 4294967296 := ⟨_, rfl⟩
 obtain ⟨c10, Dc10⟩ : ∃ x : Int, x = s10 / 4294967296 := ⟨_, rfl⟩
 obtain ⟨u11, Du11⟩ : ∃ x : Int, x = p11 + o02 := ⟨_, rfl⟩
 obtain ⟨s11, Ds11⟩ : ∃ x : Int, x = u11 + c10 := ⟨_, rfl⟩
 obtain ⟨o11, Do11⟩ : ∃ x : Int, x = s11 % 4294967296 := ⟨_, rfl⟩
 obtain ⟨c11, Dc11⟩ : ∃ x : Int, x = s11 / 4294967296 := ⟨_, rfl⟩
 obtain ⟨u12, Du12⟩ : ∃ x : Int, x = p12 + o03 := ⟨_, rfl⟩
 obtain ⟨s12, Ds12⟩ : ∃ x : Int, x = u12 + c11 := ⟨_, rfl⟩
 obtain ⟨o12, Do12⟩ : ∃ x : Int, x = s12 % 4294967296 := ⟨_, rfl⟩
 obtain ⟨c12, Dc12⟩ : ∃ x : Int, x = s12 / 4294967296 := ⟨_, rfl⟩
 obtain ⟨u13, Du13⟩ : ∃ x : Int, x = p13 + c03 := ⟨_, rfl⟩
 obtain ⟨s13, Ds13⟩ : ∃ x : Int, x = u13 + c12 := ⟨_, rfl⟩
 obtain ⟨o13, Do13⟩ : ∃ x : Int, x = s13 % 4294967296 := ⟨_, rfl⟩
 obtain ⟨c13, Dc13⟩ : ∃ x : Int, x = s13 / 4294967296 := ⟨_, rfl⟩
 obtain ⟨Bp00, Bp01, Bp02, Bp03, Bp10, Bp11, Bp12, Bp13, hs⟩ := sawtoothref02_Scale.sum h1 h2 h3 (K0 := Dk0) (K1 := Dk1) (P00 := Dp00) (P01 := Dp01) (P02 := Dp02) (P03 := Dp03) (P10 := Dp10) (P11 := Dp11) (P12 := Dp12) (P13 := Dp13) (R00 := Do00) (Q00 := Dc00) (S01 := Ds01) (R01 := Do01) (Q01 := Dc01) (S02 := Ds02) (R02 := Do02) (Q02 := Dc02) (S03 := Ds03) (R03 := Do03) (Q03 := Dc03) (S10 := Ds10) (R10 := Do10) (Q10 := Dc10) (S11 := Ds11.trans (by rw [Du11])) (R11 := Do11) (Q11 := Dc11) (S12 := Ds12.trans (by rw [Du12])) (R12 := Do12) (Q12 := Dc12) (S13 := Ds13.trans (by rw [Du13])) (R13 := Do13) (Q13 := Dc13); obtain ⟨Bo00, Bc00⟩ := sawtoothref02_Scale.qr (sawtoothref02_Scale.lim1 Bp00)
 rw [← Do00] at Bo00; rw [← Dc00] at Bc00
 have Bs01 := sawtoothref02_Scale.lim2 Bp01 Bc00
 rw [← Ds01] at Bs01
 obtain ⟨Bo01, Bc01⟩ := sawtoothref02_Scale.qr Bs01
 rw [← Do01] at Bo01; rw [← Dc01] at Bc01
 have Bs02 := sawtoothref02_Scale.lim2 Bp02 Bc01
 rw [← Ds02] at Bs02
 obtain ⟨Bo02, Bc02⟩ := sawtoothref02_Scale.qr Bs02
 rw [← Do02] at Bo02; rw [← Dc02] at Bc02
 have Bs03 := sawtoothref02_Scale.lim2 Bp03 Bc02
 rw [← Ds03] at Bs03
 obtain ⟨Bo03, Bc03⟩ := sawtoothref02_Scale.qr Bs03
 rw [← Do03] at Bo03; rw [← Dc03] at Bc03
 have Bs10 := sawtoothref02_Scale.lim2 Bp10 Bo01
 rw [← Ds10] at Bs10
 obtain ⟨Bo10, Bc10⟩ := sawtoothref02_Scale.qr Bs10
 rw [← Do10] at Bo10; rw [← Dc10] at Bc10
 have Bs11 := sawtoothref02_Scale.lim Bp11 Bo02 Bc10
 rw [← Du11, ← Ds11] at Bs11
 obtain ⟨Bo11, Bc11⟩ := sawtoothref02_Scale.qr Bs11
 rw [← Do11] at Bo11; rw [← Dc11] at Bc11
 have Bs12 := sawtoothref02_Scale.lim Bp12 Bo03 Bc11
 rw [← Du12, ← Ds12] at Bs12
 obtain ⟨Bo12, Bc12⟩ := sawtoothref02_Scale.qr Bs12
 rw [← Do12] at Bo12; rw [← Dc12] at Bc12
 have Bs13 := sawtoothref02_Scale.lim Bp13 Bc03 Bc12
 rw [← Du13, ← Ds13] at Bs13
 obtain ⟨Bo13, Bc13⟩ := sawtoothref02_Scale.qr Bs13
 rw [← Do13] at Bo13; rw [← Dc13] at Bc13
 have hr : (decide (o13 > 0) || decide (c13 > 0)) = true ∧ r1 = false ∧ r2 = 0 ∧ r3 = 0 ∧ r4 = 10 ∨ decide (o13 > 0) = false ∧ decide (c13 > 0) = false ∧ sawtoothref02_wholeS.f o00 o10 o11 o12 n0 = some (r1, r2, r3) ∧ r4 = 0 := by
  by_cases hz : o13 = 0 ∧ c13 = 0
  ·right
   obtain ⟨z1, z2⟩ := hz
   have hv : Sp.val n0 h l * n = Sp.val n0 (o12 * 4294967296 + o11) (o10 * 4294967296 + o00) := by
    have e : (h * 18446744073709551616 + l) * n = (o12 * 4294967296 + o11) * 18446744073709551616 + (o10 * 4294967296 + o00) := by rw [hs, z1, z2]; omega
    cases n0
    ·rw [Sp.val_f, Sp.val_f, e]
    ·rw [Sp.val_t, Sp.val_t, Int.neg_mul, e]
   have u1 : Sp.U (o12 * 4294967296 + o11) := sawtoothref02_Scale.uu Bo12 Bo11; have u2 : Sp.U (o10 * 4294967296 + o00) := sawtoothref02_Scale.uu Bo10 Bo00
   rw [hv, Sp.held_in (Sp.val_B u1 u2)] at hf
   simp only [Option.some.injEq, Prod.mk.injEq] at hf; obtain ⟨q1, q2, q3, q4⟩ := hf; refine ⟨by rw [z1]; rfl, by rw [z2]; rfl, ?_, q4.symm⟩
   rw [sawtoothref02_wholeS.eq Bo00 Bo10 Bo11 Bo12, q1, q2, q3]
  ·left
   have hb : ¬ Sp.B (Sp.val n0 h l * n) := by
    have e : 340282366920938463463374607431768211456 ≤ (h * 18446744073709551616 + l) * n := by rw [hs]; exact sawtoothref02_Scale.big Bo00 Bo10 Bo11 Bo12 Bo13 Bc13 hz
    intro hB
    cases n0
    ·rw [Sp.val_f] at hB; exact absurd hB.2 (Int.not_lt.2 e)
    ·rw [Sp.val_t, Int.neg_mul] at hB; exact absurd (Int.lt_of_neg_lt_neg hB.1) (Int.not_lt.2 e)
   rw [Sp.held_out hb] at hf
   simp only [Option.some.injEq, Prod.mk.injEq] at hf; obtain ⟨q1, q2, q3, q4⟩ := hf; refine ⟨?_, q1.symm, q2.symm, q3.symm, q4.symm⟩
   by_cases ho : o13 > 0
   ·rw [decide_eq_true ho]; rfl
   ·rw [decide_eq_true (sawtoothref02_Scale.one Bo13 Bc13 hz ho)]; simp
 exact sawtoothref02_Scale.walk n0 h l n (l % 4294967296) (l / 4294967296) (h % 4294967296) (h / 4294967296) k0 k1 p00 o00 c00 p01 s01 o01 c01 p02 s02 o02 c02 p03 s03 o03 c03 p10 s10 o10 c10 s10 p11 s11 o11 c11 u11 p12 s12 o12 c12 u12 p13 s13 o13 c13 u13 (decide (o13 > 0)) (decide (c13 > 0)) r1 r2 r3 r4 (HD := ⟨D⟩) (w := w) (g4 := rfl) (g5 := rfl) (HR := ⟨hr⟩) (K0 := by rw [Dk0]; exact tm h3) (K1 := by rw [Dk1]; exact td h3) (P00 := by rw [← Dp00]; exact sm (sawtoothref02_Scale.lim1 Bp00)) (T00 := sm (sawtoothref02_Scale.lim1 Bp00)) (R00 := by rw [Do00]; exact tm (sawtoothref02_Scale.lim1 Bp00)) (Q00 := by rw [Dc00]; exact td (sawtoothref02_Scale.lim1 Bp00)) (P01 := by rw [← Dp01]; exact sm (sawtoothref02_Scale.lim1 Bp01)) (T01 := sm (sawtoothref02_Scale.lim1 Bp01)) (S01 := by rw [← Ds01]; exact sm Bs01) (R01 := by rw [Do01]; exact tm Bs01) (Q01 := by rw [Dc01]; exact td Bs01) (P02 := by rw [← Dp02]; exact sm (sawtoothref02_Scale.lim1 Bp02)) (T02 := sm (sawtoothref02_Scale.lim1 Bp02)) (S02 := by rw [← Ds02]; exact sm Bs02) (R02 := by rw [Do02]; exact tm Bs02) (Q02 := by rw [Dc02]; exact td Bs02) (P03 := by rw [← Dp03]; exact sm (sawtoothref02_Scale.lim1 Bp03)) (T03 := sm (sawtoothref02_Scale.lim1 Bp03)) (S03 := by rw [← Ds03]; exact sm Bs03) (R03 := by rw [Do03]; exact tm Bs03) (Q03 := by rw [Dc03]; exact td Bs03) (P10 := by rw [← Dp10]; exact sm (sawtoothref02_Scale.lim1 Bp10)) (T10 := by rw [← Ds10]; exact sm Bs10) (S10 := sm Bs10) (R10 := by rw [Do10]; exact tm Bs10) (Q10 := by rw [Dc10]; exact td Bs10) (P11 := by rw [← Dp11]; exact sm (sawtoothref02_Scale.lim1 Bp11)) (T11 := by rw [← Du11]; exact Du11 ▸ sm (sawtoothref02_Scale.lim2 Bp11 Bo02)) (S11 := by rw [← Ds11]; exact sm Bs11) (R11 := by rw [Do11]; exact tm Bs11) (Q11 := by rw [Dc11]; exact td Bs11) (P12 := by rw [← Dp12]; exact sm (sawtoothref02_Scale.lim1 Bp12)) (T12 := by rw [← Du12]; exact Du12 ▸ sm (sawtoothref02_Scale.lim2 Bp12 Bo03)) (S12 := by rw [← Ds12]; exact sm Bs12) (R12 := by rw [Do12]; exact tm Bs12) (Q12 := by rw [Dc12]; exact td Bs12) (P13 := by rw [← Dp13]; exact sm (sawtoothref02_Scale.lim1 Bp13)) (T13 := by rw [← Du13]; exact Du13 ▸ sm (sawtoothref02_Scale.lim2 Bp13 Bc03)) (S13 := by rw [← Ds13]; exact sm Bs13) (R13 := by rw [Do13]; exact tm Bs13) (Q13 := by rw [Dc13]; exact td Bs13) (Z0 := sm ⟨Bc03.1, by have := Bc03.2; omega⟩) (Z1 := sm ⟨Bc13.1, by have := Bc13.2; omega⟩)
end Ref02Scale

end Go.Proofs.YtbpcfamjidjhjaaDoor.Px
