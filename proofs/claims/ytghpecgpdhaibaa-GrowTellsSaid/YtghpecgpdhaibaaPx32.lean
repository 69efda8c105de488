/- Printed by a program of this session (wip/tool/px.py), over the kit's print: for each Go function a Lean function, and the proof that the machine's call answers as that function says. Conditions: none beside what the theorems state. -/
import Derived.Test.YtghpecgpdhaibaaPx0
import Derived.Test.YtghpecgpdhaibaaPx3
import Derived.Test.YtghpecgpdhaibaaPx24
import Derived.Test.YtghpecgpdhaibaaPx25
import Derived.Test.YtghpecgpdhaibaaPx31
namespace Go.Proofs.Ytghpecgpdhaibaa.Px
open Go.RowKit Go.Proofs.YtghpecgpdhaibaaW.PrintWords Go.Proofs.YtghpecgpdhaibaaW.PrintLast Go.Proofs.YtghpecgpdhaibaaW.PrintMore
attribute [local go_sem] max2_int min2_int max_two min_two max_three min_three max_four min_four   -- for this text's walks alone
set_option linter.unusedVariables false
set_option linter.unusedSimpArgs false

/-! ### sawtoothlaw14_GrowTells: function 9 -/
noncomputable def sawtoothlaw14_GrowTells.f (k : Nat) (a0 : Int) (a1 : Int) (a2 : Int) (a3 : Int) (a4_0 : Int) (a4_1 : Int) (a4_2 : Int) (a4_3 : Bool) (a4_4 : Bool) (a4_5 : Int) (a4_6 : Int) : Option (Bool) := (sawtoothlaw14_awakeS.f).bind fun t383 => (if t383 = true then ((grow_Slow.f a0 a3 a4_0 a4_1 a4_2 a4_3 a4_4 a4_5 a4_6).bind fun t384 => ((sawtoothref14_Slow.f k a0 a3 a4_0 a4_1 a4_2 a4_3 a4_4 a4_5 a4_6).bind fun t385 => (if t384 = t385 then ((grow_Calm.f a0 a1 a3).bind fun t386 => ((sawtoothref14_Calm.f k a0 a1 a3).bind fun t387 => (if t386 = t387 then ((grow_Both.f a0 a1 a2 a3).bind fun t388 => ((sawtoothref14_Both.f k a0 a1 a2 a3).bind fun t389 => (if t388 = t389 then ((grow_LimitS.f a0 a1).bind fun t390 => ((sawtoothref14_Limit.f a0 a1).bind fun t391 => (some (t390 == t391)))) else (none)))) else (none)))) else (none)))) else (none))
theorem sawtoothlaw14_GrowTells.mono : ∀ a0 a1 a2 a3 a4 a5 a6 a7 a8 a9 a10 k, LeO (sawtoothlaw14_GrowTells.f k a0 a1 a2 a3 a4 a5 a6 a7 a8 a9 a10) (sawtoothlaw14_GrowTells.f (k + 1) a0 a1 a2 a3 a4 a5 a6 a7 a8 a9 a10) := by
 intro a0 a1 a2 a3 a4 a5 a6 a7 a8 a9 a10 k
 unfold sawtoothlaw14_GrowTells.f
 repeat' first
   | (with_reducible exact sawtoothref14_Both.mono _ _ _ _ _)
   | (with_reducible exact sawtoothref14_Calm.mono _ _ _ _)
   | (with_reducible exact sawtoothref14_Slow.mono _ _ _ _ _ _ _ _ _ _)
   | (with_reducible exact LeO.refl _)
   | (with_reducible exact LeO.none _)
   | (with_reducible refine LeO.ite ?_ ?_)
   | (with_reducible refine LeO.bind ?_ (fun _ => ?_))
   | exact sawtoothref14_Both.mono _ _ _ _ _
   | exact sawtoothref14_Calm.mono _ _ _ _
   | exact sawtoothref14_Slow.mono _ _ _ _ _ _ _ _ _ _
   | exact LeO.none _
   | refine LeO.ite ?_ ?_
   | refine LeO.bind ?_ (fun _ => ?_)
def sawtoothlaw14_GrowTells.T2 : Bool × List (List Nat × List Nat) := (true, [([], []), ([0], [0]), ([1], [1]), ([1], [1]), ([1], [1]), ([2, 3, 4, 1, 1], [1, 2, 3, 4]), ([1], [1]), ([1], [1]), ([1], [1]), ([6, 7, 8, 5, 1], [1, 6, 7, 8]), ([5, 9, 1], [1, 5, 9]), ([1, 10], [1, 10]), ([11, 9], [11]), ([12], [12]), ([12], [12]), ([12], [12]), ([13, 14, 15, 12, 12], [12, 13, 14, 15]), ([12], [12]), ([12], [12]), ([12], [12]), ([17, 18, 19, 16, 12], [12, 17, 18, 19]), ([16, 20, 12], [12, 16, 20]), ([12, 21], [12, 21]), ([22, 20], [22]), ([23], [23]), ([23], [23]), ([23], [23]), ([23], [23]), ([24, 25, 26, 27, 23, 23], [23, 24, 25, 26, 27]), ([23], [23]), ([23], [23]), ([23], [23]), ([23], [23]), ([29, 30, 31, 32, 28, 23], [23, 29, 30, 31, 32]), ([28, 33, 23], [23, 28, 33]), ([23, 34], [23, 34]), ([35, 33], [35]), ([36], [36]), ([36], [36]), ([37, 38, 36, 36], [36, 37, 38]), ([36], [36]), ([36], [36]), ([40, 41, 39, 36], [36, 40, 41]), ([39, 42, 36], [36, 39, 42]), ([36, 43], [36, 43]), ([44, 42, 0, 1, 2, 3, 4, 5, 6, 7, 8, 9, 10, 11, 12, 13, 14, 15, 16, 17, 18, 19, 20, 21, 22, 23, 24, 25, 26, 27, 28, 29, 30, 31, 32, 33, 34, 35, 36, 37, 38, 39, 40, 41, 42, 43, 44], [44])])
def sawtoothlaw14_GrowTells.B2 : List Nat := [0, 1, 3, 3, 3, 31, 3, 3, 3, 511, 1023, 2047, 4095, 8191, 8191, 8191, 65535, 8191, 8191, 8191, 1048575, 2097151, 4194303, 8388607, 16777215, 16777215, 16777215, 16777215, 268435455, 16777215, 16777215, 16777215, 16777215, 8589934591, 17179869183, 34359738367, 68719476735, 137438953471, 137438953471, 549755813887, 137438953471, 137438953471, 4398046511103, 8796093022207, 17592186044415, 35184372088831]
theorem sawtoothlaw14_GrowTells.tab2 : rtab .any (opsOf Try.f9 2) = sawtoothlaw14_GrowTells.T2 := by kernel_rfl
theorem sawtoothlaw14_GrowTells.bits2 : waitsOk sawtoothlaw14_GrowTells.T2.2 sawtoothlaw14_GrowTells.B2 = true := by kernel_rfl
set_option maxHeartbeats 8000000 in
set_option maxRecDepth 100000 in
theorem sawtoothlaw14_GrowTells.calls (k : Nat) (a0 : Int) (a1 : Int) (a2 : Int) (a3 : Int) (a4_0 : Int) (a4_1 : Int) (a4_2 : Int) (a4_3 : Bool) (a4_4 : Bool) (a4_5 : Int) (a4_6 : Int) (r : Bool) (w : World) (h : sawtoothlaw14_GrowTells.f k a0 a1 a2 a3 a4_0 a4_1 a4_2 a4_3 a4_4 a4_5 a4_6 = some r) :
  Calls Try.prog 9 #[.int .i64 a0, .int .i64 a1, .int .i64 a2, .int .i64 a3, .agg #[.int .i64 a4_0, .int .i64 a4_1, .int .i64 a4_2, .bool a4_3, .bool a4_4, .int .i64 a4_5, .int .i64 a4_6]] w fun e w' => e = .returned (.bool r) ∧ Below w.heap.size w w' := by
 have hu43 := Try.underlying43; have HB := Aside0.mk (Below.refl w.heap.size w); have H : ((sawtoothlaw14_awakeS.f).bind fun t383 => (if t383 = true then ((grow_Slow.f a0 a3 a4_0 a4_1 a4_2 a4_3 a4_4 a4_5 a4_6).bind fun t384 => ((sawtoothref14_Slow.f k a0 a3 a4_0 a4_1 a4_2 a4_3 a4_4 a4_5 a4_6).bind fun t385 => (if t384 = t385 then ((grow_Calm.f a0 a1 a3).bind fun t386 => ((sawtoothref14_Calm.f k a0 a1 a3).bind fun t387 => (if t386 = t387 then ((grow_Both.f a0 a1 a2 a3).bind fun t388 => ((sawtoothref14_Both.f k a0 a1 a2 a3).bind fun t389 => (if t388 = t389 then ((grow_LimitS.f a0 a1).bind fun t390 => ((sawtoothref14_Limit.f a0 a1).bind fun t391 => (some (t390 == t391)))) else (none)))) else (none)))) else (none)))) else (none))) = some r := h; clear h; replace H := Option.bind_eq_some_iff.mp H; obtain ⟨t383, A60, H⟩ := H; (try dsimp only at H); have A6 := Aside0.mk A60; clear A60
 by_cases c7 : t383 = true
 ·subst c7
  have H1 : ((grow_Slow.f a0 a3 a4_0 a4_1 a4_2 a4_3 a4_4 a4_5 a4_6).bind fun t384 => ((sawtoothref14_Slow.f k a0 a3 a4_0 a4_1 a4_2 a4_3 a4_4 a4_5 a4_6).bind fun t385 => (if t384 = t385 then ((grow_Calm.f a0 a1 a3).bind fun t386 => ((sawtoothref14_Calm.f k a0 a1 a3).bind fun t387 => (if t386 = t387 then ((grow_Both.f a0 a1 a2 a3).bind fun t388 => ((sawtoothref14_Both.f k a0 a1 a2 a3).bind fun t389 => (if t388 = t389 then ((grow_LimitS.f a0 a1).bind fun t390 => ((sawtoothref14_Limit.f a0 a1).bind fun t391 => (some (t390 == t391)))) else (none)))) else (none)))) else (none)))) = some r := by rw [if_pos rfl] at H; exact H
  clear H; have H := H1; clear H1; replace H := Option.bind_eq_some_iff.mp H; obtain ⟨t384, A80, H⟩ := H; (try dsimp only at H); have A8 := Aside0.mk A80; clear A80; replace H := Option.bind_eq_some_iff.mp H; obtain ⟨t385, A90, H⟩ := H; (try dsimp only at H); have A9 := Aside0.mk A90; clear A90
  by_cases c10 : t384 = t385
  ·rw [if_pos c10] at H
   have c10b0 : (t384 == t385) = true := beq_iff_eq.mpr c10; have c10b1 : (t384 != t385) = false := bne_eq_false_iff_eq.mpr c10; clear c10; replace H := Option.bind_eq_some_iff.mp H; obtain ⟨t386, A110, H⟩ := H; (try dsimp only at H); have A11 := Aside0.mk A110; clear A110; replace H := Option.bind_eq_some_iff.mp H; obtain ⟨t387, A120, H⟩ := H; (try dsimp only at H); have A12 := Aside0.mk A120; clear A120
   by_cases c13 : t386 = t387
   ·rw [if_pos c13] at H
    have c13b0 : (t386 == t387) = true := beq_iff_eq.mpr c13; have c13b1 : (t386 != t387) = false := bne_eq_false_iff_eq.mpr c13; clear c13; replace H := Option.bind_eq_some_iff.mp H; obtain ⟨t388, A140, H⟩ := H; (try dsimp only at H); have A14 := Aside0.mk A140; clear A140; replace H := Option.bind_eq_some_iff.mp H; obtain ⟨t389, A150, H⟩ := H; replace H : (if t388 = t389 then ((grow_LimitS.f a0 a1).bind fun t390 => ((sawtoothref14_Limit.f a0 a1).bind fun t391 => (some (t390 == t391)))) else (none)) = some r := H; have A15 := Aside0.mk A150; clear A150
    by_cases c16 : t388 = t389
    ·rw [if_pos c16] at H
     have c16b0 : (t388 == t389) = true := beq_iff_eq.mpr c16; have c16b1 : (t388 != t389) = false := bne_eq_false_iff_eq.mpr c16; clear c16; replace H := Option.bind_eq_some_iff.mp H; obtain ⟨t390, A170, H⟩ := H; replace H : ((sawtoothref14_Limit.f a0 a1).bind fun t391 => (some (t390 == t391))) = some r := H; have A17 := Aside0.mk A170; clear A170; replace H := Option.bind_eq_some_iff.mp H; obtain ⟨t391, A180, H⟩ := H; replace H : (some (t390 == t391)) = some r := H; have A18 := Aside0.mk A180; clear A180; obtain rfl := Option.some.inj H
     go_enter Try.func9, Try.ntmps9
     try go_wp2_with (first | ((with_reducible refine gate_dst (N := 9) rfl ?_); refine box_event ?hg (N := 9) ?hd (cs := #[.int .i64 a4_0, .int .i64 a4_1, .int .i64 a4_2, .bool a4_3, .bool a4_4, .int .i64 a4_5, .int .i64 a4_6]) (t := 43) ?hr ?_; (case hd => rfl); (case hg => rfl); (case hr => first | (go_simp; done) | (go_simp; rfl)); intro gb382 hg w19 hbox hb; have BK382 := Aside0.mk (hbox); obtain ⟨GW382, nHB⟩ := geA hg hb; have GE382 := GW382; replace HB := nHB; clear nHB; clear hb hbox hg) | ((with_reducible refine gate_callee (f := 24) rfl ?_); refine goesLA_ (some 12) rfl rfl Try.func24 rfl #[] rfl ?_; (with_reducible refine (sawtoothlaw14_awakeS.calls  true _ A6.out).mono ?_); rintro e w20 ⟨rfl, hb⟩; refine ⟨_, rfl, ?_⟩; replace BK382 := bdZ BK382 hb; replace HB := stA hb; clear hb))
     replace BK382 := Aside0.mk (blk_drew BK382.out); replace HB := Aside0.mk (below_drew1 HB.out); refine start_ (n := 46) (S := fun w' => w'.cell? ⟨gb382, 0, none⟩ = some (.int .i64 a4_0) ∧ w'.cell? ⟨gb382, 1, none⟩ = some (.int .i64 a4_1) ∧ w'.cell? ⟨gb382, 2, none⟩ = some (.int .i64 a4_2) ∧ w'.cell? ⟨gb382, 3, none⟩ = some (.bool a4_3) ∧ w'.cell? ⟨gb382, 4, none⟩ = some (.bool a4_4) ∧ w'.cell? ⟨gb382, 5, none⟩ = some (.int .i64 a4_5) ∧ w'.cell? ⟨gb382, 6, none⟩ = some (.int .i64 a4_6)) (ds := []) #[N,N,N,N,N,N,N,N,N,N,N,N,N,N,N,N,N,N,N,N,N,N,N,N,N,N,N,N,N,N,N,N,N,N,N,N,N,N,N,N,N,N,N,N,N,N] (by kernel_rfl) rfl rfl ⟨(blk_cell BK382.out 0).trans rfl, (blk_cell BK382.out 1).trans rfl, (blk_cell BK382.out 2).trans rfl, (blk_cell BK382.out 3).trans rfl, (blk_cell BK382.out 4).trans rfl, (blk_cell BK382.out 5).trans rfl, (blk_cell BK382.out 6).trans rfl⟩ (fun hHeld => ?_); refine with_tabW sawtoothlaw14_GrowTells.tab2 sawtoothlaw14_GrowTells.bits2 (fun HT_ HW_ => ?_)
     generalize w20.drew = w21 at BK382 HB hHeld ⊢
     refine pureA_ (i := 0) (N := some 13) #[Y,N,N,N,N,N,N,N,N,N,N,N,N,N,N,N,N,N,N,N,N,N,N,N,N,N,N,N,N,N,N,N,N,N,N,N,N,N,N,N,N,N,N,N,N,N] rfl rfl (any_of HT_.out (by kernel_rfl)) ?_
     refine pureA_ (i := 1) (N := some 14) #[Y,Y,N,N,N,N,N,N,N,N,N,N,N,N,N,N,N,N,N,N,N,N,N,N,N,N,N,N,N,N,N,N,N,N,N,N,N,N,N,N,N,N,N,N,N,N] rfl rfl (any_of HT_.out (by kernel_rfl)) ?_
     refine pureA_ (i := 2) (N := some 15) #[Y,Y,Y,N,N,N,N,N,N,N,N,N,N,N,N,N,N,N,N,N,N,N,N,N,N,N,N,N,N,N,N,N,N,N,N,N,N,N,N,N,N,N,N,N,N,N] rfl rfl (any_of HT_.out (by kernel_rfl)) ?_
     refine pureA_ (i := 3) (N := some 16) #[Y,Y,Y,Y,N,N,N,N,N,N,N,N,N,N,N,N,N,N,N,N,N,N,N,N,N,N,N,N,N,N,N,N,N,N,N,N,N,N,N,N,N,N,N,N,N,N] rfl rfl (any_of HT_.out (by kernel_rfl)) ?_
     refine pureA_ (i := 6) (N := some 19) #[Y,Y,Y,Y,N,N,Y,N,N,N,N,N,N,N,N,N,N,N,N,N,N,N,N,N,N,N,N,N,N,N,N,N,N,N,N,N,N,N,N,N,N,N,N,N,N,N] rfl rfl (any_of HT_.out (by kernel_rfl)) ?_
     refine pureA_ (i := 7) (N := some 20) #[Y,Y,Y,Y,N,N,Y,Y,N,N,N,N,N,N,N,N,N,N,N,N,N,N,N,N,N,N,N,N,N,N,N,N,N,N,N,N,N,N,N,N,N,N,N,N,N,N] rfl rfl (any_of HT_.out (by kernel_rfl)) ?_
     refine take_ (i := 4) (N := some 17) (v := ?_) (a' := ?_) #[Y,Y,Y,Y,Y,N,Y,Y,N,N,N,N,N,N,N,N,N,N,N,N,N,N,N,N,N,N,N,N,N,N,N,N,N,N,N,N,N,N,N,N,N,N,N,N,N,N] rfl rfl (take_ofW HT_.out HW_.out (by kernel_rfl)) (fun _ _ _ h => h) (Or.inl ⟨by rfl, ?_⟩) hHeld ?_ ?_; rotate_left
     ·rintro w' ⟨s0, s1, s2, s3, s4, s5, s6⟩; go_simp
      with_reducible rfl
     rotate_left
     ·simp only [Act.put, sA, sB, sC, i64_w, i32_w]
      rfl
     refine take_ (i := 8) (N := some 21) (v := ?_) (a' := ?_) #[Y,Y,Y,Y,Y,N,Y,Y,Y,N,N,N,N,N,N,N,N,N,N,N,N,N,N,N,N,N,N,N,N,N,N,N,N,N,N,N,N,N,N,N,N,N,N,N,N,N] rfl rfl (take_ofW HT_.out HW_.out (by kernel_rfl)) (fun _ _ _ h => h) (Or.inl ⟨by rfl, ?_⟩) hHeld ?_ ?_; rotate_left
     ·rintro w' ⟨s0, s1, s2, s3, s4, s5, s6⟩; go_simp
      with_reducible rfl
     rotate_left
     ·simp only [Act.put, sA, sB, sC, i64_w, i32_w]
      rfl
     refine one_ (i := 5) (N := some 18) #[Y,Y,Y,Y,Y,Y,Y,Y,Y,N,N,N,N,N,N,N,N,N,N,N,N,N,N,N,N,N,N,N,N,N,N,N,N,N,N,N,N,N,N,N,N,N,N,N,N,N] rfl rfl (one_of HT_.out (by kernel_rfl)) (by decide) (fun K hK => ?_); refine goesA_ Try.func25 rfl #[.int .i64 a0, .int .i64 a3, .agg #[.int .i64 a4_0, .int .i64 a4_1, .int .i64 a4_2, .bool a4_3, .bool a4_4, .int .i64 a4_5, .int .i64 a4_6]] (by rfl) rfl rfl ?_
     with_reducible refine (grow_Slow.calls a0 a3 a4_0 a4_1 a4_2 a4_3 a4_4 a4_5 a4_6 t384 _ A8.out).mono ?_
     rintro e w22 ⟨rfl, hb⟩; refine ⟨_, rfl, ?_⟩; replace BK382 := bbZ BK382 hb; replace HB := Aside0.mk (below_step HB.out hb); clear hb; refine hK.out _ _ ⟨(blk_cell BK382.out 0).trans rfl, (blk_cell BK382.out 1).trans rfl, (blk_cell BK382.out 2).trans rfl, (blk_cell BK382.out 3).trans rfl, (blk_cell BK382.out 4).trans rfl, (blk_cell BK382.out 5).trans rfl, (blk_cell BK382.out 6).trans rfl⟩ (fun hHeld => ?_); clear hK K; refine normA_ (some 18) ?_
     refine one_ (i := 9) (N := some 22) #[Y,Y,Y,Y,Y,Y,Y,Y,Y,Y,N,N,N,N,N,N,N,N,N,N,N,N,N,N,N,N,N,N,N,N,N,N,N,N,N,N,N,N,N,N,N,N,N,N,N,N] rfl rfl (one_of HT_.out (by kernel_rfl)) (by decide) (fun K hK => ?_); refine goesA_ Try.func26 rfl #[.int .i64 a0, .int .i64 a3, .agg #[.int .i64 a4_0, .int .i64 a4_1, .int .i64 a4_2, .bool a4_3, .bool a4_4, .int .i64 a4_5, .int .i64 a4_6]] (by rfl) rfl rfl ?_
     with_reducible refine (sawtoothref14_Slow.calls k a0 a3 a4_0 a4_1 a4_2 a4_3 a4_4 a4_5 a4_6 t385 _ A9.out).mono ?_
     rintro e w23 ⟨rfl, hb⟩; refine ⟨_, rfl, ?_⟩; replace BK382 := bbZ BK382 hb; replace HB := Aside0.mk (below_step HB.out hb); clear hb; refine hK.out _ _ ⟨(blk_cell BK382.out 0).trans rfl, (blk_cell BK382.out 1).trans rfl, (blk_cell BK382.out 2).trans rfl, (blk_cell BK382.out 3).trans rfl, (blk_cell BK382.out 4).trans rfl, (blk_cell BK382.out 5).trans rfl, (blk_cell BK382.out 6).trans rfl⟩ (fun hHeld => ?_); clear hK K; refine normA_ (some 22) ?_
     refine pureA_ (i := 10) (N := some 23) #[Y,Y,Y,Y,Y,Y,Y,Y,Y,Y,Y,N,N,N,N,N,N,N,N,N,N,N,N,N,N,N,N,N,N,N,N,N,N,N,N,N,N,N,N,N,N,N,N,N,N,N] rfl rfl (any_of HT_.out (by kernel_rfl)) ?_
     refine pureA_ (i := 11) (N := some 24) #[Y,Y,Y,Y,Y,Y,Y,Y,Y,Y,Y,Y,N,N,N,N,N,N,N,N,N,N,N,N,N,N,N,N,N,N,N,N,N,N,N,N,N,N,N,N,N,N,N,N,N,N] rfl rfl (any_of HT_.out (by kernel_rfl)) ?_
     refine pureA_ (i := 12) (N := some 25) #[Y,Y,Y,Y,Y,Y,Y,Y,Y,Y,Y,Y,Y,N,N,N,N,N,N,N,N,N,N,N,N,N,N,N,N,N,N,N,N,N,N,N,N,N,N,N,N,N,N,N,N,N] rfl rfl (any_of HT_.out (by kernel_rfl)) ?_
     refine pureA_ (i := 13) (N := some 26) #[Y,Y,Y,Y,Y,Y,Y,Y,Y,Y,Y,Y,Y,Y,N,N,N,N,N,N,N,N,N,N,N,N,N,N,N,N,N,N,N,N,N,N,N,N,N,N,N,N,N,N,N,N] rfl rfl (any_of HT_.out (by kernel_rfl)) ?_
     refine pureA_ (i := 14) (N := some 27) #[Y,Y,Y,Y,Y,Y,Y,Y,Y,Y,Y,Y,Y,Y,Y,N,N,N,N,N,N,N,N,N,N,N,N,N,N,N,N,N,N,N,N,N,N,N,N,N,N,N,N,N,N,N] rfl rfl (any_of HT_.out (by kernel_rfl)) ?_
     refine pureA_ (i := 15) (N := some 28) #[Y,Y,Y,Y,Y,Y,Y,Y,Y,Y,Y,Y,Y,Y,Y,Y,N,N,N,N,N,N,N,N,N,N,N,N,N,N,N,N,N,N,N,N,N,N,N,N,N,N,N,N,N,N] rfl rfl (any_of HT_.out (by kernel_rfl)) ?_
     refine pureA_ (i := 17) (N := some 30) #[Y,Y,Y,Y,Y,Y,Y,Y,Y,Y,Y,Y,Y,Y,Y,Y,N,Y,N,N,N,N,N,N,N,N,N,N,N,N,N,N,N,N,N,N,N,N,N,N,N,N,N,N,N,N] rfl rfl (any_of HT_.out (by kernel_rfl)) ?_
     refine pureA_ (i := 18) (N := some 31) #[Y,Y,Y,Y,Y,Y,Y,Y,Y,Y,Y,Y,Y,Y,Y,Y,N,Y,Y,N,N,N,N,N,N,N,N,N,N,N,N,N,N,N,N,N,N,N,N,N,N,N,N,N,N,N] rfl rfl (any_of HT_.out (by kernel_rfl)) ?_
     refine pureA_ (i := 19) (N := some 32) #[Y,Y,Y,Y,Y,Y,Y,Y,Y,Y,Y,Y,Y,Y,Y,Y,N,Y,Y,Y,N,N,N,N,N,N,N,N,N,N,N,N,N,N,N,N,N,N,N,N,N,N,N,N,N,N] rfl rfl (any_of HT_.out (by kernel_rfl)) ?_
     refine one_ (i := 16) (N := some 29) #[Y,Y,Y,Y,Y,Y,Y,Y,Y,Y,Y,Y,Y,Y,Y,Y,Y,Y,Y,Y,N,N,N,N,N,N,N,N,N,N,N,N,N,N,N,N,N,N,N,N,N,N,N,N,N,N] rfl rfl (one_of HT_.out (by kernel_rfl)) (by decide) (fun K hK => ?_); refine goesA_ Try.func27 rfl #[.int .i64 a0, .int .i64 a1, .int .i64 a3] (by rfl) rfl rfl ?_
     with_reducible refine (grow_Calm.calls a0 a1 a3 t386 _ A11.out).mono ?_
     rintro e w24 ⟨rfl, hb⟩; refine ⟨_, rfl, ?_⟩; replace BK382 := bbZ BK382 hb; replace HB := Aside0.mk (below_step HB.out hb); clear hb; refine hK.out _ _ ⟨(blk_cell BK382.out 0).trans rfl, (blk_cell BK382.out 1).trans rfl, (blk_cell BK382.out 2).trans rfl, (blk_cell BK382.out 3).trans rfl, (blk_cell BK382.out 4).trans rfl, (blk_cell BK382.out 5).trans rfl, (blk_cell BK382.out 6).trans rfl⟩ (fun hHeld => ?_); clear hK K; refine normA_ (some 29) ?_
     refine one_ (i := 20) (N := some 33) #[Y,Y,Y,Y,Y,Y,Y,Y,Y,Y,Y,Y,Y,Y,Y,Y,Y,Y,Y,Y,Y,N,N,N,N,N,N,N,N,N,N,N,N,N,N,N,N,N,N,N,N,N,N,N,N,N] rfl rfl (one_of HT_.out (by kernel_rfl)) (by decide) (fun K hK => ?_); refine goesA_ Try.func28 rfl #[.int .i64 a0, .int .i64 a1, .int .i64 a3] (by rfl) rfl rfl ?_
     with_reducible refine (sawtoothref14_Calm.calls k a0 a1 a3 t387 _ A12.out).mono ?_
     rintro e w25 ⟨rfl, hb⟩; refine ⟨_, rfl, ?_⟩; replace BK382 := bbZ BK382 hb; replace HB := Aside0.mk (below_step HB.out hb); clear hb; refine hK.out _ _ ⟨(blk_cell BK382.out 0).trans rfl, (blk_cell BK382.out 1).trans rfl, (blk_cell BK382.out 2).trans rfl, (blk_cell BK382.out 3).trans rfl, (blk_cell BK382.out 4).trans rfl, (blk_cell BK382.out 5).trans rfl, (blk_cell BK382.out 6).trans rfl⟩ (fun hHeld => ?_); clear hK K; refine normA_ (some 33) ?_
     refine pureA_ (i := 21) (N := some 34) #[Y,Y,Y,Y,Y,Y,Y,Y,Y,Y,Y,Y,Y,Y,Y,Y,Y,Y,Y,Y,Y,Y,N,N,N,N,N,N,N,N,N,N,N,N,N,N,N,N,N,N,N,N,N,N,N,N] rfl rfl (any_of HT_.out (by kernel_rfl)) ?_
     refine pureA_ (i := 22) (N := some 35) #[Y,Y,Y,Y,Y,Y,Y,Y,Y,Y,Y,Y,Y,Y,Y,Y,Y,Y,Y,Y,Y,Y,Y,N,N,N,N,N,N,N,N,N,N,N,N,N,N,N,N,N,N,N,N,N,N,N] rfl rfl (any_of HT_.out (by kernel_rfl)) ?_
     refine pureA_ (i := 23) (N := some 36) #[Y,Y,Y,Y,Y,Y,Y,Y,Y,Y,Y,Y,Y,Y,Y,Y,Y,Y,Y,Y,Y,Y,Y,Y,N,N,N,N,N,N,N,N,N,N,N,N,N,N,N,N,N,N,N,N,N,N] rfl rfl (any_of HT_.out (by kernel_rfl)) ?_
     refine pureA_ (i := 24) (N := some 37) #[Y,Y,Y,Y,Y,Y,Y,Y,Y,Y,Y,Y,Y,Y,Y,Y,Y,Y,Y,Y,Y,Y,Y,Y,Y,N,N,N,N,N,N,N,N,N,N,N,N,N,N,N,N,N,N,N,N,N] rfl rfl (any_of HT_.out (by kernel_rfl)) ?_
     refine pureA_ (i := 25) (N := some 38) #[Y,Y,Y,Y,Y,Y,Y,Y,Y,Y,Y,Y,Y,Y,Y,Y,Y,Y,Y,Y,Y,Y,Y,Y,Y,Y,N,N,N,N,N,N,N,N,N,N,N,N,N,N,N,N,N,N,N,N] rfl rfl (any_of HT_.out (by kernel_rfl)) ?_
     refine pureA_ (i := 26) (N := some 39) #[Y,Y,Y,Y,Y,Y,Y,Y,Y,Y,Y,Y,Y,Y,Y,Y,Y,Y,Y,Y,Y,Y,Y,Y,Y,Y,Y,N,N,N,N,N,N,N,N,N,N,N,N,N,N,N,N,N,N,N] rfl rfl (any_of HT_.out (by kernel_rfl)) ?_
     refine pureA_ (i := 27) (N := some 40) #[Y,Y,Y,Y,Y,Y,Y,Y,Y,Y,Y,Y,Y,Y,Y,Y,Y,Y,Y,Y,Y,Y,Y,Y,Y,Y,Y,Y,N,N,N,N,N,N,N,N,N,N,N,N,N,N,N,N,N,N] rfl rfl (any_of HT_.out (by kernel_rfl)) ?_
     refine pureA_ (i := 29) (N := some 42) #[Y,Y,Y,Y,Y,Y,Y,Y,Y,Y,Y,Y,Y,Y,Y,Y,Y,Y,Y,Y,Y,Y,Y,Y,Y,Y,Y,Y,N,Y,N,N,N,N,N,N,N,N,N,N,N,N,N,N,N,N] rfl rfl (any_of HT_.out (by kernel_rfl)) ?_
     refine pureA_ (i := 30) (N := some 43) #[Y,Y,Y,Y,Y,Y,Y,Y,Y,Y,Y,Y,Y,Y,Y,Y,Y,Y,Y,Y,Y,Y,Y,Y,Y,Y,Y,Y,N,Y,Y,N,N,N,N,N,N,N,N,N,N,N,N,N,N,N] rfl rfl (any_of HT_.out (by kernel_rfl)) ?_
     refine pureA_ (i := 31) (N := some 44) #[Y,Y,Y,Y,Y,Y,Y,Y,Y,Y,Y,Y,Y,Y,Y,Y,Y,Y,Y,Y,Y,Y,Y,Y,Y,Y,Y,Y,N,Y,Y,Y,N,N,N,N,N,N,N,N,N,N,N,N,N,N] rfl rfl (any_of HT_.out (by kernel_rfl)) ?_
     refine pureA_ (i := 32) (N := some 45) #[Y,Y,Y,Y,Y,Y,Y,Y,Y,Y,Y,Y,Y,Y,Y,Y,Y,Y,Y,Y,Y,Y,Y,Y,Y,Y,Y,Y,N,Y,Y,Y,Y,N,N,N,N,N,N,N,N,N,N,N,N,N] rfl rfl (any_of HT_.out (by kernel_rfl)) ?_
     refine one_ (i := 28) (N := some 41) #[Y,Y,Y,Y,Y,Y,Y,Y,Y,Y,Y,Y,Y,Y,Y,Y,Y,Y,Y,Y,Y,Y,Y,Y,Y,Y,Y,Y,Y,Y,Y,Y,Y,N,N,N,N,N,N,N,N,N,N,N,N,N] rfl rfl (one_of HT_.out (by kernel_rfl)) (by decide) (fun K hK => ?_); refine goesA_ Try.func29 rfl #[.int .i64 a0, .int .i64 a1, .int .i64 a2, .int .i64 a3] (by rfl) rfl rfl ?_
     with_reducible refine (grow_Both.calls a0 a1 a2 a3 t388 _ A14.out).mono ?_
     rintro e w26 ⟨rfl, hb⟩; refine ⟨_, rfl, ?_⟩; replace BK382 := bbZ BK382 hb; replace HB := Aside0.mk (below_step HB.out hb); clear hb; refine hK.out _ _ ⟨(blk_cell BK382.out 0).trans rfl, (blk_cell BK382.out 1).trans rfl, (blk_cell BK382.out 2).trans rfl, (blk_cell BK382.out 3).trans rfl, (blk_cell BK382.out 4).trans rfl, (blk_cell BK382.out 5).trans rfl, (blk_cell BK382.out 6).trans rfl⟩ (fun hHeld => ?_); clear hK K; refine normA_ (some 41) ?_
     refine one_ (i := 33) (N := some 46) #[Y,Y,Y,Y,Y,Y,Y,Y,Y,Y,Y,Y,Y,Y,Y,Y,Y,Y,Y,Y,Y,Y,Y,Y,Y,Y,Y,Y,Y,Y,Y,Y,Y,Y,N,N,N,N,N,N,N,N,N,N,N,N] rfl rfl (one_of HT_.out (by kernel_rfl)) (by decide) (fun K hK => ?_); refine goesA_ Try.func30 rfl #[.int .i64 a0, .int .i64 a1, .int .i64 a2, .int .i64 a3] (by rfl) rfl rfl ?_
     with_reducible refine (sawtoothref14_Both.calls k a0 a1 a2 a3 t389 _ A15.out).mono ?_
     rintro e w27 ⟨rfl, hb⟩; refine ⟨_, rfl, ?_⟩; replace BK382 := bbZ BK382 hb; replace HB := Aside0.mk (below_step HB.out hb); clear hb; refine hK.out _ _ ⟨(blk_cell BK382.out 0).trans rfl, (blk_cell BK382.out 1).trans rfl, (blk_cell BK382.out 2).trans rfl, (blk_cell BK382.out 3).trans rfl, (blk_cell BK382.out 4).trans rfl, (blk_cell BK382.out 5).trans rfl, (blk_cell BK382.out 6).trans rfl⟩ (fun hHeld => ?_); clear hK K; refine normA_ (some 46) ?_
     refine pureA_ (i := 34) (N := some 47) #[Y,Y,Y,Y,Y,Y,Y,Y,Y,Y,Y,Y,Y,Y,Y,Y,Y,Y,Y,Y,Y,Y,Y,Y,Y,Y,Y,Y,Y,Y,Y,Y,Y,Y,Y,N,N,N,N,N,N,N,N,N,N,N] rfl rfl (any_of HT_.out (by kernel_rfl)) ?_
     refine pureA_ (i := 35) (N := some 48) #[Y,Y,Y,Y,Y,Y,Y,Y,Y,Y,Y,Y,Y,Y,Y,Y,Y,Y,Y,Y,Y,Y,Y,Y,Y,Y,Y,Y,Y,Y,Y,Y,Y,Y,Y,Y,N,N,N,N,N,N,N,N,N,N] rfl rfl (any_of HT_.out (by kernel_rfl)) ?_
     refine pureA_ (i := 36) (N := some 49) #[Y,Y,Y,Y,Y,Y,Y,Y,Y,Y,Y,Y,Y,Y,Y,Y,Y,Y,Y,Y,Y,Y,Y,Y,Y,Y,Y,Y,Y,Y,Y,Y,Y,Y,Y,Y,Y,N,N,N,N,N,N,N,N,N] rfl rfl (any_of HT_.out (by kernel_rfl)) ?_
     refine pureA_ (i := 37) (N := some 50) #[Y,Y,Y,Y,Y,Y,Y,Y,Y,Y,Y,Y,Y,Y,Y,Y,Y,Y,Y,Y,Y,Y,Y,Y,Y,Y,Y,Y,Y,Y,Y,Y,Y,Y,Y,Y,Y,Y,N,N,N,N,N,N,N,N] rfl rfl (any_of HT_.out (by kernel_rfl)) ?_
     refine pureA_ (i := 38) (N := some 51) #[Y,Y,Y,Y,Y,Y,Y,Y,Y,Y,Y,Y,Y,Y,Y,Y,Y,Y,Y,Y,Y,Y,Y,Y,Y,Y,Y,Y,Y,Y,Y,Y,Y,Y,Y,Y,Y,Y,Y,N,N,N,N,N,N,N] rfl rfl (any_of HT_.out (by kernel_rfl)) ?_
     refine pureA_ (i := 40) (N := some 53) #[Y,Y,Y,Y,Y,Y,Y,Y,Y,Y,Y,Y,Y,Y,Y,Y,Y,Y,Y,Y,Y,Y,Y,Y,Y,Y,Y,Y,Y,Y,Y,Y,Y,Y,Y,Y,Y,Y,Y,N,Y,N,N,N,N,N] rfl rfl (any_of HT_.out (by kernel_rfl)) ?_
     refine pureA_ (i := 41) (N := some 54) #[Y,Y,Y,Y,Y,Y,Y,Y,Y,Y,Y,Y,Y,Y,Y,Y,Y,Y,Y,Y,Y,Y,Y,Y,Y,Y,Y,Y,Y,Y,Y,Y,Y,Y,Y,Y,Y,Y,Y,N,Y,Y,N,N,N,N] rfl rfl (any_of HT_.out (by kernel_rfl)) ?_
     refine one_ (i := 39) (N := some 52) #[Y,Y,Y,Y,Y,Y,Y,Y,Y,Y,Y,Y,Y,Y,Y,Y,Y,Y,Y,Y,Y,Y,Y,Y,Y,Y,Y,Y,Y,Y,Y,Y,Y,Y,Y,Y,Y,Y,Y,Y,Y,Y,N,N,N,N] rfl rfl (one_of HT_.out (by kernel_rfl)) (by decide) (fun K hK => ?_); refine goesA_ Try.func31 rfl #[.int .i64 a0, .int .i64 a1] (by rfl) rfl rfl ?_
     with_reducible refine (grow_LimitS.calls a0 a1 t390 _ A17.out).mono ?_
     rintro e w28 ⟨rfl, hb⟩; refine ⟨_, rfl, ?_⟩; replace BK382 := bbZ BK382 hb; replace HB := Aside0.mk (below_step HB.out hb); clear hb; refine hK.out _ _ ⟨(blk_cell BK382.out 0).trans rfl, (blk_cell BK382.out 1).trans rfl, (blk_cell BK382.out 2).trans rfl, (blk_cell BK382.out 3).trans rfl, (blk_cell BK382.out 4).trans rfl, (blk_cell BK382.out 5).trans rfl, (blk_cell BK382.out 6).trans rfl⟩ (fun hHeld => ?_); clear hK K; refine normA_ (some 52) ?_
     refine one_ (i := 42) (N := some 55) #[Y,Y,Y,Y,Y,Y,Y,Y,Y,Y,Y,Y,Y,Y,Y,Y,Y,Y,Y,Y,Y,Y,Y,Y,Y,Y,Y,Y,Y,Y,Y,Y,Y,Y,Y,Y,Y,Y,Y,Y,Y,Y,Y,N,N,N] rfl rfl (one_of HT_.out (by kernel_rfl)) (by decide) (fun K hK => ?_); refine goesA_ Try.func32 rfl #[.int .i64 a0, .int .i64 a1] (by rfl) rfl rfl ?_
     with_reducible refine (sawtoothref14_Limit.calls a0 a1 t391 _ A18.out).mono ?_
     rintro e w29 ⟨rfl, hb⟩; refine ⟨_, rfl, ?_⟩; replace BK382 := bbZ BK382 hb; replace HB := Aside0.mk (below_step HB.out hb); clear hb; refine hK.out _ _ ⟨(blk_cell BK382.out 0).trans rfl, (blk_cell BK382.out 1).trans rfl, (blk_cell BK382.out 2).trans rfl, (blk_cell BK382.out 3).trans rfl, (blk_cell BK382.out 4).trans rfl, (blk_cell BK382.out 5).trans rfl, (blk_cell BK382.out 6).trans rfl⟩ (fun hHeld => ?_); clear hK K; refine normA_ (some 55) ?_
     refine pureA_ (i := 43) (N := some 56) #[Y,Y,Y,Y,Y,Y,Y,Y,Y,Y,Y,Y,Y,Y,Y,Y,Y,Y,Y,Y,Y,Y,Y,Y,Y,Y,Y,Y,Y,Y,Y,Y,Y,Y,Y,Y,Y,Y,Y,Y,Y,Y,Y,Y,N,N] rfl rfl (any_of HT_.out (by kernel_rfl)) ?_
     refine pureA_ (i := 44) (N := some 57) #[Y,Y,Y,Y,Y,Y,Y,Y,Y,Y,Y,Y,Y,Y,Y,Y,Y,Y,Y,Y,Y,Y,Y,Y,Y,Y,Y,Y,Y,Y,Y,Y,Y,Y,Y,Y,Y,Y,Y,Y,Y,Y,Y,Y,Y,N] rfl rfl (any_of HT_.out (by kernel_rfl)) ?_
     refine pureA_ (i := 45) (N := some 10) #[Y,Y,Y,Y,Y,Y,Y,Y,Y,Y,Y,Y,Y,Y,Y,Y,Y,Y,Y,Y,Y,Y,Y,Y,Y,Y,Y,Y,Y,Y,Y,Y,Y,Y,Y,Y,Y,Y,Y,Y,Y,Y,Y,Y,Y,Y] rfl rfl (any_of HT_.out (by kernel_rfl)) ?_
     refine done_ (done_of HT_.out (by kernel_rfl)) ?_
     try go_wp2
     go_ret
     exact ⟨by first | rfl | (simp [errW_none, errW_some] <;> rfl) | (simp [*, errW_none, errW_some] <;> rfl), by repeat (first | (with_reducible first | exact HB.out | apply below_alloc | apply pw_below_drewN | apply below_drew1 | refine below_set ?_ GE382.out) | exact HB.out)⟩
    ·rw [if_neg c16] at H
     have c16b0 : (t388 == t389) = false := beq_eq_false_iff_ne.mpr c16; have c16b1 : (t388 != t389) = true := bne_iff_ne.mpr c16; exact absurd H (by simp)
   ·rw [if_neg c13] at H
    have c13b0 : (t386 == t387) = false := beq_eq_false_iff_ne.mpr c13; have c13b1 : (t386 != t387) = true := bne_iff_ne.mpr c13; exact absurd H (by simp)
  ·rw [if_neg c10] at H
   have c10b0 : (t384 == t385) = false := beq_eq_false_iff_ne.mpr c10; have c10b1 : (t384 != t385) = true := bne_iff_ne.mpr c10; exact absurd H (by simp)
 ·replace c7 := Bool.eq_false_iff.mpr c7
  subst c7
  have H1 : (none) = some r := by rw [if_neg (show ¬ (false = true) by decide)] at H; exact H
  clear H; have H := H1; clear H1; exact absurd H (by simp)

/-! ### sawtoothlaw14_GrowBounds: function 10 -/
noncomputable def sawtoothlaw14_GrowBounds.f (a0 : Int) (a1 : Int) (a2 : Int) (a3 : Int) (a4_0 : Int) (a4_1 : Int) (a4_2 : Int) (a4_3 : Bool) (a4_4 : Bool) (a4_5 : Int) (a4_6 : Int) : Option (Bool) := (sawtoothlaw14_awakeS.f).bind fun t393 => ((grow_Slow.f (wrap64 (131072 + (wrap64 (Int.tmod a0 68719345665)))) a3 a4_0 a4_1 a4_2 a4_3 a4_4 a4_5 a4_6).bind fun t394 => ((grow_Calm.f (wrap64 (131072 + (wrap64 (Int.tmod a0 68719345665)))) a1 a3).bind fun t395 => ((grow_Both.f (wrap64 (131072 + (wrap64 (Int.tmod a0 68719345665)))) a1 a2 a3).bind fun t396 => ((grow_LimitS.f (wrap64 (131072 + (wrap64 (Int.tmod a0 68719345665)))) a1).bind fun t397 => (if t393 = true then (if t394 ≥ (wrap64 (131072 + (wrap64 (Int.tmod a0 68719345665)))) then (if t394 ≤ 68719476736 then (if t395 ≥ (wrap64 (131072 + (wrap64 (Int.tmod a0 68719345665)))) then (if t395 ≤ (mx (wrap64 (131072 + (wrap64 (Int.tmod a0 68719345665)))) (mn a1 68719476736)) then (if t396 ≥ t395 then (if t396 ≤ (mx t395 (mn a2 68719476736)) then (if t397 ≥ 131072 then (if t397 ≤ (wrap64 (131072 + (wrap64 (Int.tmod a0 68719345665)))) then (some (decide (t394 ≤ (wrap64 ((wrap64 (131072 + (wrap64 (Int.tmod a0 68719345665)))) + 524288))))) else (none)) else (none)) else (none)) else (none)) else (none)) else (none)) else (none)) else (none)) else (none))))))
set_option maxHeartbeats 8000000 in
set_option maxRecDepth 100000 in
theorem sawtoothlaw14_GrowBounds.calls (a0 : Int) (a1 : Int) (a2 : Int) (a3 : Int) (a4_0 : Int) (a4_1 : Int) (a4_2 : Int) (a4_3 : Bool) (a4_4 : Bool) (a4_5 : Int) (a4_6 : Int) (r : Bool) (w : World) (h : sawtoothlaw14_GrowBounds.f a0 a1 a2 a3 a4_0 a4_1 a4_2 a4_3 a4_4 a4_5 a4_6 = some r) :
  Calls Try.prog 10 #[.int .u64 a0, .int .i64 a1, .int .i64 a2, .int .i64 a3, .agg #[.int .i64 a4_0, .int .i64 a4_1, .int .i64 a4_2, .bool a4_3, .bool a4_4, .int .i64 a4_5, .int .i64 a4_6]] w fun e w' => e = .returned (.bool r) ∧ Below w.heap.size w w' := by
 have hu43 := Try.underlying43; have HB := Aside0.mk (Below.refl w.heap.size w); have H : ((sawtoothlaw14_awakeS.f).bind fun t393 => ((grow_Slow.f (wrap64 (131072 + (wrap64 (Int.tmod a0 68719345665)))) a3 a4_0 a4_1 a4_2 a4_3 a4_4 a4_5 a4_6).bind fun t394 => ((grow_Calm.f (wrap64 (131072 + (wrap64 (Int.tmod a0 68719345665)))) a1 a3).bind fun t395 => ((grow_Both.f (wrap64 (131072 + (wrap64 (Int.tmod a0 68719345665)))) a1 a2 a3).bind fun t396 => ((grow_LimitS.f (wrap64 (131072 + (wrap64 (Int.tmod a0 68719345665)))) a1).bind fun t397 => (if t393 = true then (if t394 ≥ (wrap64 (131072 + (wrap64 (Int.tmod a0 68719345665)))) then (if t394 ≤ 68719476736 then (if t395 ≥ (wrap64 (131072 + (wrap64 (Int.tmod a0 68719345665)))) then (if t395 ≤ (mx (wrap64 (131072 + (wrap64 (Int.tmod a0 68719345665)))) (mn a1 68719476736)) then (if t396 ≥ t395 then (if t396 ≤ (mx t395 (mn a2 68719476736)) then (if t397 ≥ 131072 then (if t397 ≤ (wrap64 (131072 + (wrap64 (Int.tmod a0 68719345665)))) then (some (decide (t394 ≤ (wrap64 ((wrap64 (131072 + (wrap64 (Int.tmod a0 68719345665)))) + 524288))))) else (none)) else (none)) else (none)) else (none)) else (none)) else (none)) else (none)) else (none)) else (none))))))) = some r := h; clear h; replace H := Option.bind_eq_some_iff.mp H; obtain ⟨t393, A60, H⟩ := H; (try dsimp only at H); have A6 := Aside0.mk A60; clear A60; replace H := Option.bind_eq_some_iff.mp H; obtain ⟨t394, A70, H⟩ := H; (try dsimp only at H); have A7 := Aside0.mk A70; clear A70; replace H := Option.bind_eq_some_iff.mp H; obtain ⟨t395, A80, H⟩ := H; (try dsimp only at H); have A8 := Aside0.mk A80; clear A80; replace H := Option.bind_eq_some_iff.mp H; obtain ⟨t396, A90, H⟩ := H; (try dsimp only at H); have A9 := Aside0.mk A90; clear A90; replace H := Option.bind_eq_some_iff.mp H; obtain ⟨t397, A100, H⟩ := H; (try dsimp only at H); have A10 := Aside0.mk A100; clear A100
 by_cases c11 : t393 = true
 ·subst c11
  have H1 : (if t394 ≥ (wrap64 (131072 + (wrap64 (Int.tmod a0 68719345665)))) then (if t394 ≤ 68719476736 then (if t395 ≥ (wrap64 (131072 + (wrap64 (Int.tmod a0 68719345665)))) then (if t395 ≤ (mx (wrap64 (131072 + (wrap64 (Int.tmod a0 68719345665)))) (mn a1 68719476736)) then (if t396 ≥ t395 then (if t396 ≤ (mx t395 (mn a2 68719476736)) then (if t397 ≥ 131072 then (if t397 ≤ (wrap64 (131072 + (wrap64 (Int.tmod a0 68719345665)))) then (some (decide (t394 ≤ (wrap64 ((wrap64 (131072 + (wrap64 (Int.tmod a0 68719345665)))) + 524288))))) else (none)) else (none)) else (none)) else (none)) else (none)) else (none)) else (none)) else (none)) = some r := by rw [if_pos rfl] at H; exact H
  clear H; have H := H1; clear H1
  by_cases c12 : t394 ≥ (wrap64 (131072 + (wrap64 (Int.tmod a0 68719345665))))
  ·rw [if_pos c12] at H
   have c12b0 : decide ((wrap64 (131072 + (wrap64 (Int.tmod a0 68719345665)))) ≤ t394) = true := decide_eq_true c12; clear c12
   by_cases c13 : t394 ≤ 68719476736
   ·rw [if_pos c13] at H
    have c13b0 : decide (t394 ≤ 68719476736) = true := decide_eq_true c13; clear c13
    by_cases c14 : t395 ≥ (wrap64 (131072 + (wrap64 (Int.tmod a0 68719345665))))
    ·rw [if_pos c14] at H
     have c14b0 : decide ((wrap64 (131072 + (wrap64 (Int.tmod a0 68719345665)))) ≤ t395) = true := decide_eq_true c14; clear c14
     obtain ⟨ji15, hji15⟩ : ∃ j_ : Int, (mn a1 68719476736) = j_ := ⟨_, rfl⟩
     replace H : (if t395 ≤ (mx (wrap64 (131072 + (wrap64 (Int.tmod a0 68719345665)))) (ji15)) then (if t396 ≥ t395 then (if t396 ≤ (mx t395 (mn a2 68719476736)) then (if t397 ≥ 131072 then (if t397 ≤ (wrap64 (131072 + (wrap64 (Int.tmod a0 68719345665)))) then (some (decide (t394 ≤ (wrap64 ((wrap64 (131072 + (wrap64 (Int.tmod a0 68719345665)))) + 524288))))) else (none)) else (none)) else (none)) else (none)) else (none)) = some r := by first | (rw [hji15] at H; exact H) | (simp only [hji15] at H ⊢; exact H)
     (try rw [hji15] at A6)
     (try rw [hji15] at A7)
     (try rw [hji15] at A8)
     (try rw [hji15] at A9)
     (try rw [hji15] at A10)
     (try (have hji15h : ji15 ≤ 68719476736 := by (rw [← hji15]; unfold mn; (repeat' split) <;> omega)))
     (try (have hji15g : ji15 ≤ 64 := by omega))
     have hji15_ : (if 68719476736 < a1 then 68719476736 else a1) = ji15 := hji15
     obtain ⟨ji16, hji16⟩ : ∃ j_ : Int, (mx (wrap64 (131072 + (wrap64 (Int.tmod a0 68719345665)))) (ji15)) = j_ := ⟨_, rfl⟩
     replace H : (if t395 ≤ (ji16) then (if t396 ≥ t395 then (if t396 ≤ (mx t395 (mn a2 68719476736)) then (if t397 ≥ 131072 then (if t397 ≤ (wrap64 (131072 + (wrap64 (Int.tmod a0 68719345665)))) then (some (decide (t394 ≤ (wrap64 ((wrap64 (131072 + (wrap64 (Int.tmod a0 68719345665)))) + 524288))))) else (none)) else (none)) else (none)) else (none)) else (none)) = some r := by first | (rw [hji16] at H; exact H) | (simp only [hji16] at H ⊢; exact H)
     (try rw [hji16] at A6)
     (try rw [hji16] at A7)
     (try rw [hji16] at A8)
     (try rw [hji16] at A9)
     (try rw [hji16] at A10)
     have hji16_ : (if (wrap64 (131072 + (wrap64 (Int.tmod a0 68719345665)))) < (ji15) then (ji15) else (wrap64 (131072 + (wrap64 (Int.tmod a0 68719345665))))) = ji16 := hji16
     by_cases c17 : t395 ≤ (ji16)
     ·rw [if_pos c17] at H
      have c17b0 : decide (t395 ≤ (ji16)) = true := decide_eq_true c17; clear c17
      by_cases c18 : t396 ≥ t395
      ·rw [if_pos c18] at H
       have c18b0 : decide (t395 ≤ t396) = true := decide_eq_true c18; clear c18
       obtain ⟨ji19, hji19⟩ : ∃ j_ : Int, (mn a2 68719476736) = j_ := ⟨_, rfl⟩
       replace H : (if t396 ≤ (mx t395 (ji19)) then (if t397 ≥ 131072 then (if t397 ≤ (wrap64 (131072 + (wrap64 (Int.tmod a0 68719345665)))) then (some (decide (t394 ≤ (wrap64 ((wrap64 (131072 + (wrap64 (Int.tmod a0 68719345665)))) + 524288))))) else (none)) else (none)) else (none)) = some r := by first | (rw [hji19] at H; exact H) | (simp only [hji19] at H ⊢; exact H)
       (try rw [hji19] at A6)
       (try rw [hji19] at A7)
       (try rw [hji19] at A8)
       (try rw [hji19] at A9)
       (try rw [hji19] at A10)
       (try (have hji19h : ji19 ≤ 68719476736 := by (rw [← hji19]; unfold mn; (repeat' split) <;> omega)))
       (try (have hji19g : ji19 ≤ 64 := by omega))
       have hji19_ : (if 68719476736 < a2 then 68719476736 else a2) = ji19 := hji19
       obtain ⟨ji20, hji20⟩ : ∃ j_ : Int, (mx t395 (ji19)) = j_ := ⟨_, rfl⟩
       replace H : (if t396 ≤ (ji20) then (if t397 ≥ 131072 then (if t397 ≤ (wrap64 (131072 + (wrap64 (Int.tmod a0 68719345665)))) then (some (decide (t394 ≤ (wrap64 ((wrap64 (131072 + (wrap64 (Int.tmod a0 68719345665)))) + 524288))))) else (none)) else (none)) else (none)) = some r := by first | (rw [hji20] at H; exact H) | (simp only [hji20] at H ⊢; exact H)
       (try rw [hji20] at A6)
       (try rw [hji20] at A7)
       (try rw [hji20] at A8)
       (try rw [hji20] at A9)
       (try rw [hji20] at A10)
       have hji20_ : (if t395 < (ji19) then (ji19) else t395) = ji20 := hji20
       by_cases c21 : t396 ≤ (ji20)
       ·rw [if_pos c21] at H
        have c21b0 : decide (t396 ≤ (ji20)) = true := decide_eq_true c21; clear c21
        by_cases c22 : t397 ≥ 131072
        ·rw [if_pos c22] at H
         have c22b0 : decide (131072 ≤ t397) = true := decide_eq_true c22; clear c22
         by_cases c23 : t397 ≤ (wrap64 (131072 + (wrap64 (Int.tmod a0 68719345665))))
         ·rw [if_pos c23] at H
          have c23b0 : decide (t397 ≤ (wrap64 (131072 + (wrap64 (Int.tmod a0 68719345665))))) = true := decide_eq_true c23; clear c23; obtain rfl := Option.some.inj H
          go_enter Try.func10, Try.ntmps10
          go_wp2_with (first | ((with_reducible refine gate_dst (N := 9) rfl ?_); refine box_event ?hg (N := 9) ?hd (cs := #[.int .i64 a4_0, .int .i64 a4_1, .int .i64 a4_2, .bool a4_3, .bool a4_4, .int .i64 a4_5, .int .i64 a4_6]) (t := 43) ?hr ?_; (case hd => rfl); (case hg => rfl); (case hr => first | (go_simp; done) | (go_simp; rfl)); intro gb392 hg w24 hbox hb; have BK392 := Aside0.mk (hbox); obtain ⟨GW392, nHB⟩ := geA hg hb; have GE392 := GW392; replace HB := nHB; clear nHB; clear hb hbox hg) | ((with_reducible refine gate_callee (f := 24) rfl ?_); refine goesLA_ (some 17) rfl rfl Try.func24 rfl #[] rfl ?_; (with_reducible refine (sawtoothlaw14_awakeS.calls  true _ A6.out).mono ?_); rintro e w25 ⟨rfl, hb⟩; refine ⟨_, rfl, ?_⟩; replace BK392 := bdZ BK392 hb; replace HB := stA hb; clear hb; have hcz26_0 := czZ BK392 0 (.int .i64 a4_0); have hcz26_1 := czZ BK392 1 (.int .i64 a4_1); have hcz26_2 := czZ BK392 2 (.int .i64 a4_2); have hcz26_3 := czZ BK392 3 (.bool a4_3); have hcz26_4 := czZ BK392 4 (.bool a4_4); have hcz26_5 := czZ BK392 5 (.int .i64 a4_5); have hcz26_6 := czZ BK392 6 (.int .i64 a4_6); have hfz26_0 := blk_frozen BK392.out 0; have hfz26_1 := blk_frozen BK392.out 1; have hfz26_2 := blk_frozen BK392.out 2; have hfz26_3 := blk_frozen BK392.out 3; have hfz26_4 := blk_frozen BK392.out 4; have hfz26_5 := blk_frozen BK392.out 5; have hfz26_6 := blk_frozen BK392.out 6) | ((with_reducible refine gate_callee (f := 25) rfl ?_); refine goesLA_ (some 25) rfl rfl Try.func25 rfl #[.int .i64 (wrap64 (131072 + (wrap64 (Int.tmod a0 68719345665)))), .int .i64 a3, .agg #[.int .i64 a4_0, .int .i64 a4_1, .int .i64 a4_2, .bool a4_3, .bool a4_4, .int .i64 a4_5, .int .i64 a4_6]] rfl ?_; (with_reducible refine (grow_Slow.calls (wrap64 (131072 + (wrap64 (Int.tmod a0 68719345665)))) a3 a4_0 a4_1 a4_2 a4_3 a4_4 a4_5 a4_6 t394 _ A7.out).mono ?_); rintro e w27 ⟨rfl, hb⟩; refine ⟨_, rfl, ?_⟩; replace BK392 := bdZ BK392 hb; replace HB := stA hb; clear hb) | ((with_reducible refine gate_callee (f := 27) rfl ?_); refine goesLA_ (some 29) rfl rfl Try.func27 rfl #[.int .i64 (wrap64 (131072 + (wrap64 (Int.tmod a0 68719345665)))), .int .i64 a1, .int .i64 a3] rfl ?_; (with_reducible refine (grow_Calm.calls (wrap64 (131072 + (wrap64 (Int.tmod a0 68719345665)))) a1 a3 t395 _ A8.out).mono ?_); rintro e w28 ⟨rfl, hb⟩; refine ⟨_, rfl, ?_⟩; replace BK392 := bdZ BK392 hb; replace HB := stA hb; clear hb) | ((with_reducible refine gate_callee (f := 29) rfl ?_); refine goesLA_ (some 34) rfl rfl Try.func29 rfl #[.int .i64 (wrap64 (131072 + (wrap64 (Int.tmod a0 68719345665)))), .int .i64 a1, .int .i64 a2, .int .i64 a3] rfl ?_; (with_reducible refine (grow_Both.calls (wrap64 (131072 + (wrap64 (Int.tmod a0 68719345665)))) a1 a2 a3 t396 _ A9.out).mono ?_); rintro e w29 ⟨rfl, hb⟩; refine ⟨_, rfl, ?_⟩; replace BK392 := bdZ BK392 hb; replace HB := stA hb; clear hb) | ((with_reducible refine gate_callee (f := 31) rfl ?_); refine goesLA_ (some 37) rfl rfl Try.func31 rfl #[.int .i64 (wrap64 (131072 + (wrap64 (Int.tmod a0 68719345665)))), .int .i64 a1] rfl ?_; (with_reducible refine (grow_LimitS.calls (wrap64 (131072 + (wrap64 (Int.tmod a0 68719345665)))) a1 t397 _ A10.out).mono ?_); rintro e w30 ⟨rfl, hb⟩; refine ⟨_, rfl, ?_⟩; replace BK392 := bdZ BK392 hb; replace HB := stA hb; clear hb))
          go_ret
          exact ⟨by first | rfl | (simp [errW_none, errW_some] <;> rfl) | (simp only [← hji15, ← hji16, ← hji19, ← hji20]; first | rfl | (simp [errW_none, errW_some] <;> rfl)) | (simp [*, errW_none, errW_some] <;> rfl), by repeat (first | (with_reducible first | exact HB.out | apply below_alloc | apply pw_below_drewN | apply below_drew1 | refine below_set ?_ GE392.out) | exact HB.out)⟩
         ·rw [if_neg c23] at H
          exact absurd H (by simp)
        ·rw [if_neg c22] at H
         exact absurd H (by simp)
       ·rw [if_neg c21] at H
        exact absurd H (by simp)
      ·rw [if_neg c18] at H
       exact absurd H (by simp)
     ·rw [if_neg c17] at H
      exact absurd H (by simp)
    ·rw [if_neg c14] at H
     exact absurd H (by simp)
   ·rw [if_neg c13] at H
    exact absurd H (by simp)
  ·rw [if_neg c12] at H
   exact absurd H (by simp)
 ·replace c11 := Bool.eq_false_iff.mpr c11
  subst c11
  have H1 : (none) = some r := by rw [if_neg (show ¬ (false = true) by decide)] at H; exact H
  clear H; have H := H1; clear H1; exact absurd H (by simp)

end Go.Proofs.Ytghpecgpdhaibaa.Px
