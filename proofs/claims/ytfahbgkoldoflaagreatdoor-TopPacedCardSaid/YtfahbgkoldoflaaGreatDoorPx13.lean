/- Printed by px.py, over the kit's print. Conditions: none beside the theorems' own. -/
import Derived.RangeFuncNested
import Derived.RangeFuncBound
import Derived.RangeFuncCalls
import Derived.RangeFuncLeaves
import Derived.Shelf.Abstract
import Derived.Shelf.RegionOpen
import Derived.WalkKit
import Derived.OwnWalkIn
import Derived.TacticsInMore
import Derived.LoopNIn
import Derived.LoopIn
import Derived.Test.YtfahbgkoldoflaaGreatDoorPx0
import Derived.Test.YtfahbgkoldoflaaGreatDoorPx6
import Derived.Test.YtfahbgkoldoflaaGreatDoorPx11
import Derived.Test.YtfahbgkoldoflaaGreatDoorPx12
import Derived.Test.YtfahbgkoldoflaaGreatDoorSpec
namespace Go.Proofs.YtfahbgkoldoflaaGreatDoor.Px
open Go.RowKit Go.Proofs.YtfahbgkoldoflaaGreatDoorW.PrintWords Go.Proofs.YtfahbgkoldoflaaGreatDoorW.PrintLast Go.Proofs.YtfahbgkoldoflaaGreatDoorW.PrintMore
attribute [local go_sem] max2_int min2_int max_two min_two max_three min_three max_four min_four
set_option linter.unusedVariables false
set_option linter.unusedSimpArgs false

/-! ### cubic_law: function 54 -/
noncomputable def cubic_law.f (a0_0 : Bool) (a0_1 : Int) (a0_2 : Int) (a0_3 : Int) (a0_4 : Int) (a0_5 : Int) (a1 : Int) : Option (Int) := (safe_SubS.f a1 a0_4).bind fun t316 => ((cubic_RiseS.f t316).bind fun t317 => ((safe_Add.f a0_3 t317).bind fun t318 => ((safe_ClampS.f t318 0 68719476736).bind fun t319 => (some t319))))
def cubic_law.T1 : Bool × List (List Nat × List Nat) := (true, [([], []), ([0], [0]), ([], []), ([], []), ([3], [3]), ([2, 4], [2, 4]), ([5, 5], [5]), ([1, 6, 6], [1, 6]), ([7, 7], [7]), ([8, 8, 0, 1, 2, 3, 4, 5, 6, 7, 8], [8])])
def cubic_law.B1 : List Nat := [0, 1, 0, 0, 8, 28, 60, 127, 255, 511]
theorem cubic_law.tab1 : rtab .any (opsOf Tryz.f54 1) = cubic_law.T1 := by kernel_rfl
theorem cubic_law.bits1 : waitsOk cubic_law.T1.2 cubic_law.B1 = true := by kernel_rfl
set_option maxHeartbeats 8000000 in
set_option maxRecDepth 100000 in
theorem cubic_law.calls (a0_0 : Bool) (a0_1 : Int) (a0_2 : Int) (a0_3 : Int) (a0_4 : Int) (a0_5 : Int) (a1 : Int) (r : Int) (w : World) (h : cubic_law.f a0_0 a0_1 a0_2 a0_3 a0_4 a0_5 a1 = some r) :
  Calls Tryz.prog 54 #[.agg #[.bool a0_0, .int .i64 a0_1, .int .i64 a0_2, .int .i64 a0_3, .int .i64 a0_4, .int .i64 a0_5], .int .i64 a1] w fun e w' => e = .returned (.int .i64 r) ∧ Below w.heap.size w w' := by
 have hu25 := Tryz.underlying25; have HB := Aside0.mk (Below.refl w.heap.size w); have H : ((safe_SubS.f a1 a0_4).bind fun t316 => ((cubic_RiseS.f t316).bind fun t317 => ((safe_Add.f a0_3 t317).bind fun t318 => ((safe_ClampS.f t318 0 68719476736).bind fun t319 => (some t319))))) = some r := h; clear h; replace H := Option.bind_eq_some_iff.mp H; obtain ⟨t316, A30, H⟩ := H; replace H : ((cubic_RiseS.f t316).bind fun t317 => ((safe_Add.f a0_3 t317).bind fun t318 => ((safe_ClampS.f t318 0 68719476736).bind fun t319 => (some t319)))) = some r := H; have A3 := Aside0.mk A30; clear A30; replace H := Option.bind_eq_some_iff.mp H; obtain ⟨t317, A40, H⟩ := H; replace H : ((safe_Add.f a0_3 t317).bind fun t318 => ((safe_ClampS.f t318 0 68719476736).bind fun t319 => (some t319))) = some r := H; have A4 := Aside0.mk A40; clear A40; replace H := Option.bind_eq_some_iff.mp H; obtain ⟨t318, A50, H⟩ := H; replace H : ((safe_ClampS.f t318 0 68719476736).bind fun t319 => (some t319)) = some r := H; have A5 := Aside0.mk A50; clear A50; replace H := Option.bind_eq_some_iff.mp H; obtain ⟨t319, A60, H⟩ := H; replace H : (some t319) = some r := H; have A6 := Aside0.mk A60; clear A60; obtain rfl := Option.some.inj H
 go_enter Tryz.func54, Tryz.ntmps54
 try go_wp2_with (first | ((with_reducible refine gate_dst (N := 2) rfl ?_); refine box_event ?hg (N := 2) ?hd (cs := #[.bool a0_0, .int .i64 a0_1, .int .i64 a0_2, .int .i64 a0_3, .int .i64 a0_4, .int .i64 a0_5]) (t := 25) ?hr ?_; (case hd => rfl); (case hg => rfl); (case hr => first | (go_simp; done) | (go_simp; rfl)); intro gb315 hg w7 hbox hb; have BK315 := Aside0.mk (hbox); obtain ⟨GW315, nHB⟩ := geA hg hb; have GE315 := GW315; replace HB := nHB; clear nHB; clear hb hbox hg))
 replace BK315 := Aside0.mk (blk_drew BK315.out); replace HB := Aside0.mk (below_drew1 HB.out); refine start_ (n := 10) (S := fun w' => w'.cell? ⟨gb315, 0, none⟩ = some (.bool a0_0) ∧ w'.cell? ⟨gb315, 1, none⟩ = some (.int .i64 a0_1) ∧ w'.cell? ⟨gb315, 2, none⟩ = some (.int .i64 a0_2) ∧ w'.cell? ⟨gb315, 3, none⟩ = some (.int .i64 a0_3) ∧ w'.cell? ⟨gb315, 4, none⟩ = some (.int .i64 a0_4) ∧ w'.cell? ⟨gb315, 5, none⟩ = some (.int .i64 a0_5)) (ds := []) #[N,N,N,N,N,N,N,N,N,N] (by kernel_rfl) rfl rfl ⟨(blk_cell BK315.out 0).trans rfl, (blk_cell BK315.out 1).trans rfl, (blk_cell BK315.out 2).trans rfl, (blk_cell BK315.out 3).trans rfl, (blk_cell BK315.out 4).trans rfl, (blk_cell BK315.out 5).trans rfl⟩ (fun hHeld => ?_); refine with_tabW cubic_law.tab1 cubic_law.bits1 (fun HT_ HW_ => ?_)
 generalize w7.drew = w8 at BK315 HB hHeld ⊢
 refine pureA_ (i := 0) (N := some 5) #[Y,N,N,N,N,N,N,N,N,N] rfl rfl (any_of HT_.out (by kernel_rfl)) ?_
 refine pureA_ (i := 2) (N := some 7) #[Y,N,Y,N,N,N,N,N,N,N] rfl rfl (any_of HT_.out (by kernel_rfl)) ?_
 refine pureA_ (i := 3) (N := some 8) #[Y,N,Y,Y,N,N,N,N,N,N] rfl rfl (any_of HT_.out (by kernel_rfl)) ?_
 refine take_ (i := 1) (N := some 6) (v := ?_) (a' := ?_) #[Y,Y,Y,Y,N,N,N,N,N,N] rfl rfl (take_ofW HT_.out HW_.out (by kernel_rfl)) (fun _ _ _ h => h) (Or.inl ⟨by rfl, ?_⟩) hHeld ?_ ?_; rotate_left
 ·rintro w' ⟨s0, s1, s2, s3, s4, s5⟩; go_simp
  with_reducible rfl
 rotate_left
 ·simp only [Act.put, sA, sB, sC, i64_w, i32_w]
  rfl
 refine take_ (i := 4) (N := some 9) (v := ?_) (a' := ?_) #[Y,Y,Y,Y,Y,N,N,N,N,N] rfl rfl (take_ofW HT_.out HW_.out (by kernel_rfl)) (fun _ _ _ h => h) (Or.inl ⟨by rfl, ?_⟩) hHeld ?_ ?_; rotate_left
 ·rintro w' ⟨s0, s1, s2, s3, s4, s5⟩; go_simp
  with_reducible rfl
 rotate_left
 ·simp only [Act.put, sA, sB, sC, i64_w, i32_w]
  rfl
 refine one_ (i := 5) (N := some 10) #[Y,Y,Y,Y,Y,Y,N,N,N,N] rfl rfl (one_of HT_.out (by kernel_rfl)) (by decide) (fun K hK => ?_); refine goesA_ Tryz.func55 rfl #[.int .i64 a1, .int .i64 a0_4] (by rfl) rfl rfl ?_
 with_reducible refine (safe_SubS.calls a1 a0_4 t316 _ A3.out).mono ?_
 rintro e w9 ⟨rfl, hb⟩; refine ⟨_, rfl, ?_⟩; replace BK315 := bbZ BK315 hb; replace HB := Aside0.mk (below_step HB.out hb); clear hb; refine hK.out _ _ ⟨(blk_cell BK315.out 0).trans rfl, (blk_cell BK315.out 1).trans rfl, (blk_cell BK315.out 2).trans rfl, (blk_cell BK315.out 3).trans rfl, (blk_cell BK315.out 4).trans rfl, (blk_cell BK315.out 5).trans rfl⟩ (fun hHeld => ?_); clear hK K; refine normA_ (some 10) ?_
 refine one_ (i := 6) (N := some 11) #[Y,Y,Y,Y,Y,Y,Y,N,N,N] rfl rfl (one_of HT_.out (by kernel_rfl)) (by decide) (fun K hK => ?_); refine goesA_ Tryz.func113 rfl #[.int .i64 t316] (by rfl) rfl rfl ?_
 with_reducible refine (cubic_RiseS.calls t316 t317 _ A4.out).mono ?_
 rintro e w10 ⟨rfl, hb⟩; refine ⟨_, rfl, ?_⟩; replace BK315 := bbZ BK315 hb; replace HB := Aside0.mk (below_step HB.out hb); clear hb; refine hK.out _ _ ⟨(blk_cell BK315.out 0).trans rfl, (blk_cell BK315.out 1).trans rfl, (blk_cell BK315.out 2).trans rfl, (blk_cell BK315.out 3).trans rfl, (blk_cell BK315.out 4).trans rfl, (blk_cell BK315.out 5).trans rfl⟩ (fun hHeld => ?_); clear hK K; refine normA_ (some 11) ?_
 refine one_ (i := 7) (N := some 12) #[Y,Y,Y,Y,Y,Y,Y,Y,N,N] rfl rfl (one_of HT_.out (by kernel_rfl)) (by decide) (fun K hK => ?_); refine goesA_ Tryz.func24 rfl #[.int .i64 a0_3, .int .i64 t317] (by rfl) rfl rfl ?_
 with_reducible refine (safe_Add.calls a0_3 t317 t318 _ A5.out).mono ?_
 rintro e w11 ⟨rfl, hb⟩; refine ⟨_, rfl, ?_⟩; replace BK315 := bbZ BK315 hb; replace HB := Aside0.mk (below_step HB.out hb); clear hb; refine hK.out _ _ ⟨(blk_cell BK315.out 0).trans rfl, (blk_cell BK315.out 1).trans rfl, (blk_cell BK315.out 2).trans rfl, (blk_cell BK315.out 3).trans rfl, (blk_cell BK315.out 4).trans rfl, (blk_cell BK315.out 5).trans rfl⟩ (fun hHeld => ?_); clear hK K; refine normA_ (some 12) ?_
 refine one_ (i := 8) (N := some 13) #[Y,Y,Y,Y,Y,Y,Y,Y,Y,N] rfl rfl (one_of HT_.out (by kernel_rfl)) (by decide) (fun K hK => ?_); refine goesA_ Tryz.func22 rfl #[.int .i64 t318, .int .i64 0, .int .i64 68719476736] (by rfl) rfl rfl ?_
 with_reducible refine (safe_ClampS.calls t318 0 68719476736 t319 _ A6.out).mono ?_
 rintro e w12 ⟨rfl, hb⟩; refine ⟨_, rfl, ?_⟩; replace BK315 := bbZ BK315 hb; replace HB := Aside0.mk (below_step HB.out hb); clear hb; refine hK.out _ _ ⟨(blk_cell BK315.out 0).trans rfl, (blk_cell BK315.out 1).trans rfl, (blk_cell BK315.out 2).trans rfl, (blk_cell BK315.out 3).trans rfl, (blk_cell BK315.out 4).trans rfl, (blk_cell BK315.out 5).trans rfl⟩ (fun hHeld => ?_); clear hK K; refine normA_ (some 13) ?_
 refine pureA_ (i := 9) (N := some 4) #[Y,Y,Y,Y,Y,Y,Y,Y,Y,Y] rfl rfl (any_of HT_.out (by kernel_rfl)) ?_
 refine done_ (done_of HT_.out (by kernel_rfl)) ?_
 try go_wp2
 go_ret
 exact ⟨by first | rfl | (simp [errW_none, errW_some] <;> rfl) | (simp [*, errW_none, errW_some] <;> rfl), by repeat (first | (with_reducible first | exact HB.out | apply below_alloc | apply pw_below_drewN | apply below_drew1 | refine below_set ?_ GE315.out) | exact HB.out)⟩

/-! ### cubic_lawS: pure, behind function 54 -/
section
open Go.Proofs.YtfahbgkoldoflaaGreatDoor.Sp
noncomputable def cubic_lawS.f (on : Bool) (s : Int) (f : Int) (m : Int) (k : Int) (e : Int) (t : Int) : Option (Int) := need ((I m) ∧ (I k) ∧ (I t)) (some (clamp (near (m + riseQ (near (t - k)))) 0 68719476736))
theorem cubic_lawS.eq {on : Bool} {s : Int} {f : Int} {m : Int} {k : Int} {e : Int} {t : Int} (h1 : I m) (h2 : I k) (h3 : I t) : cubic_lawS.f on s f m k e t = some (clamp (near (m + riseQ (near (t - k)))) 0 68719476736) := need_pos ⟨h1, h2, h3⟩
theorem cubic_law.main {on : Bool} {s : Int} {f : Int} {m : Int} {k : Int} {e : Int} {t : Int} (h1 : I m) (h2 : I k) (h3 : I t) : cubic_law.f on s f m k e t = some (clamp (near (m + riseQ (near (t - k)))) 0 68719476736) := by
 unfold cubic_law.f
 rw [safe_SubS.eq h3 h2]
 simp only [Option.bind_some]
 rw [cubic_RiseS.eq (near_I _)]
 simp only [Option.bind_some]; have b := riseQ_bd (near (t - k))
 rw [safe_Add.eq h1 (by omega)]
 simp only [Option.bind_some]
 rw [safe_ClampS.eq (near_I _) (by omega) (by omega)]
 rfl
end
theorem cubic_lawS.calls (a0_0 : Bool) (a0_1 : Int) (a0_2 : Int) (a0_3 : Int) (a0_4 : Int) (a0_5 : Int) (a1 : Int) (r : Int) (w : World) (h : cubic_lawS.f a0_0 a0_1 a0_2 a0_3 a0_4 a0_5 a1 = some r) :
  Calls Tryz.prog 54 #[.agg #[.bool a0_0, .int .i64 a0_1, .int .i64 a0_2, .int .i64 a0_3, .int .i64 a0_4, .int .i64 a0_5], .int .i64 a1] w fun e w' => e = .returned (.int .i64 r) ∧ Below w.heap.size w w' := by
 obtain ⟨hc, h⟩ := Sp.need_some h; obtain ⟨h1, h2, h3⟩ := hc; exact cubic_law.calls a0_0 a0_1 a0_2 a0_3 a0_4 a0_5 a1 r w (by rw [cubic_law.main h1 h2 h3]; exact h)

/-! ### cubic_At: function 23 -/
noncomputable def cubic_At.f (a0_0 : Bool) (a0_1 : Int) (a0_2 : Int) (a0_3 : Int) (a0_4 : Int) (a0_5 : Int) (a1 : Int) : Option (Int) := (cubic_isS.f a0_0 a0_1 a0_2 a0_3 a0_4 a0_5).bind fun t321 => (if t321 = true then ((safe_SubS.f a1 a0_1).bind fun t322 => ((cubic_lawS.f a0_0 a0_1 a0_2 a0_3 a0_4 a0_5 t322).bind fun t323 => (some t323))) else (some 0))
set_option maxHeartbeats 8000000 in
set_option maxRecDepth 100000 in
theorem cubic_At.calls (a0_0 : Bool) (a0_1 : Int) (a0_2 : Int) (a0_3 : Int) (a0_4 : Int) (a0_5 : Int) (a1 : Int) (r : Int) (w : World) (h : cubic_At.f a0_0 a0_1 a0_2 a0_3 a0_4 a0_5 a1 = some r) (hL : Tens w) :
  Calls Tryz.prog 23 #[.agg #[.bool a0_0, .int .i64 a0_1, .int .i64 a0_2, .int .i64 a0_3, .int .i64 a0_4, .int .i64 a0_5], .int .i64 a1] w fun e w' => e = .returned (.int .i64 r) ∧ Below w.heap.size w w' := by
 have hu25 := Tryz.underlying25; have HB := Aside0.mk (Below.refl w.heap.size w); have H : ((cubic_isS.f a0_0 a0_1 a0_2 a0_3 a0_4 a0_5).bind fun t321 => (if t321 = true then ((safe_SubS.f a1 a0_1).bind fun t322 => ((cubic_lawS.f a0_0 a0_1 a0_2 a0_3 a0_4 a0_5 t322).bind fun t323 => (some t323))) else (some 0))) = some r := h; clear h; replace H := Option.bind_eq_some_iff.mp H; obtain ⟨t321, A30, H⟩ := H; replace H : (if t321 = true then ((safe_SubS.f a1 a0_1).bind fun t322 => ((cubic_lawS.f a0_0 a0_1 a0_2 a0_3 a0_4 a0_5 t322).bind fun t323 => (some t323))) else (some 0)) = some r := H; have A3 := Aside0.mk A30; clear A30
 by_cases c4 : t321 = true
 ·subst c4
  have H1 : ((safe_SubS.f a1 a0_1).bind fun t322 => ((cubic_lawS.f a0_0 a0_1 a0_2 a0_3 a0_4 a0_5 t322).bind fun t323 => (some t323))) = some r := by rw [if_pos rfl] at H; exact H
  clear H; have H := H1; clear H1; replace H := Option.bind_eq_some_iff.mp H; obtain ⟨t322, A50, H⟩ := H; replace H : ((cubic_lawS.f a0_0 a0_1 a0_2 a0_3 a0_4 a0_5 t322).bind fun t323 => (some t323)) = some r := H; have A5 := Aside0.mk A50; clear A50; replace H := Option.bind_eq_some_iff.mp H; obtain ⟨t323, A60, H⟩ := H; replace H : (some t323) = some r := H; have A6 := Aside0.mk A60; clear A60; obtain rfl := Option.some.inj H
  go_enter Tryz.func23, Tryz.ntmps23
  try go_wp2_with (first | ((with_reducible refine gate_dst (N := 2) rfl ?_); refine box_event ?hg (N := 2) ?hd (cs := #[.bool a0_0, .int .i64 a0_1, .int .i64 a0_2, .int .i64 a0_3, .int .i64 a0_4, .int .i64 a0_5]) (t := 25) ?hr ?_; (case hd => rfl); (case hg => rfl); (case hr => first | (go_simp; done) | (go_simp; rfl)); intro gb320 hg w7 hbox hb; have BK320 := Aside0.mk (hbox); obtain ⟨GW320, nHB⟩ := geA hg hb; have GE320 := GW320; replace HB := nHB; clear nHB; clear hb hbox hg; have hcz8_0 := czZ BK320 0 (.bool a0_0); have hcz8_1 := czZ BK320 1 (.int .i64 a0_1); have hcz8_2 := czZ BK320 2 (.int .i64 a0_2); have hcz8_3 := czZ BK320 3 (.int .i64 a0_3); have hcz8_4 := czZ BK320 4 (.int .i64 a0_4); have hcz8_5 := czZ BK320 5 (.int .i64 a0_5); have hfz8_0 := blk_frozen BK320.out 0; have hfz8_1 := blk_frozen BK320.out 1; have hfz8_2 := blk_frozen BK320.out 2; have hfz8_3 := blk_frozen BK320.out 3; have hfz8_4 := blk_frozen BK320.out 4; have hfz8_5 := blk_frozen BK320.out 5) | ((with_reducible refine gate_callee (f := 21) rfl ?_); refine goesLA_ (some 6) rfl rfl Tryz.func21 rfl #[.agg #[.bool a0_0, .int .i64 a0_1, .int .i64 a0_2, .int .i64 a0_3, .int .i64 a0_4, .int .i64 a0_5]] rfl ?_; (with_reducible refine (cubic_isS.calls a0_0 a0_1 a0_2 a0_3 a0_4 a0_5 true _ A3.out ?hT_).mono ?_); (case hT_ => exact tensB hL (by repeat (first | (with_reducible first | exact HB.out | apply below_alloc | apply pw_below_drewN | apply below_drew1 | refine below_set ?_ (Aside0.out (by assumption))) | exact HB.out))); rintro e w9 ⟨rfl, hb⟩; refine ⟨_, rfl, ?_⟩; replace BK320 := bdZ BK320 hb; replace HB := stA hb; clear hb))
  replace BK320 := Aside0.mk (blk_drew BK320.out); replace HB := Aside0.mk (below_drew1 HB.out); refine start_ (n := 7) (S := fun w' => w'.cell? ⟨gb320, 0, none⟩ = some (.bool a0_0) ∧ w'.cell? ⟨gb320, 1, none⟩ = some (.int .i64 a0_1) ∧ w'.cell? ⟨gb320, 2, none⟩ = some (.int .i64 a0_2) ∧ w'.cell? ⟨gb320, 3, none⟩ = some (.int .i64 a0_3) ∧ w'.cell? ⟨gb320, 4, none⟩ = some (.int .i64 a0_4) ∧ w'.cell? ⟨gb320, 5, none⟩ = some (.int .i64 a0_5)) (ds := []) #[N,N,N,N,N,N,N] (by kernel_rfl) rfl rfl ⟨(blk_cell BK320.out 0).trans rfl, (blk_cell BK320.out 1).trans rfl, (blk_cell BK320.out 2).trans rfl, (blk_cell BK320.out 3).trans rfl, (blk_cell BK320.out 4).trans rfl, (blk_cell BK320.out 5).trans rfl⟩ (fun hHeld => ?_)
  generalize w9.drew = w10 at BK320 HB hHeld ⊢
  refine pureA_ (i := 1) (N := some 9) #[N,Y,N,N,N,N,N] rfl rfl (by kernel_rfl) ?_
  refine pureA_ (i := 2) (N := some 10) #[N,Y,Y,N,N,N,N] rfl rfl (by kernel_rfl) ?_
  refine take_ (i := 0) (N := some 8) (v := ?_) (a' := ?_) #[Y,Y,Y,N,N,N,N] rfl rfl (by kernel_rfl) (fun _ _ _ h => h) (Or.inl ⟨by rfl, ?_⟩) hHeld ?_ ?_; rotate_left
  ·rintro w' ⟨s0, s1, s2, s3, s4, s5⟩; go_simp
   with_reducible rfl
  rotate_left
  ·simp only [Act.put, sA, sB, sC, i64_w, i32_w]
   rfl
  refine take_ (i := 3) (N := some 11) (v := ?_) (a' := ?_) #[Y,Y,Y,Y,N,N,N] rfl rfl (by kernel_rfl) (fun _ _ _ h => h) (Or.inl ⟨by rfl, ?_⟩) hHeld ?_ ?_; rotate_left
  ·rintro w' ⟨s0, s1, s2, s3, s4, s5⟩; go_simp
   with_reducible rfl
  rotate_left
  ·simp only [Act.put, sA, sB, sC, i64_w, i32_w]
   rfl
  refine one_ (i := 4) (N := some 12) #[Y,Y,Y,Y,Y,N,N] rfl rfl (by kernel_rfl) (by decide) (fun K hK => ?_); refine goesA_ Tryz.func55 rfl #[.int .i64 a1, .int .i64 a0_1] (by rfl) rfl rfl ?_
  with_reducible refine (safe_SubS.calls a1 a0_1 t322 _ A5.out).mono ?_
  rintro e w11 ⟨rfl, hb⟩; refine ⟨_, rfl, ?_⟩; replace BK320 := bbZ BK320 hb; replace HB := Aside0.mk (below_step HB.out hb); clear hb; refine hK.out _ _ ⟨(blk_cell BK320.out 0).trans rfl, (blk_cell BK320.out 1).trans rfl, (blk_cell BK320.out 2).trans rfl, (blk_cell BK320.out 3).trans rfl, (blk_cell BK320.out 4).trans rfl, (blk_cell BK320.out 5).trans rfl⟩ (fun hHeld => ?_); clear hK K; refine normA_ (some 12) ?_
  refine one_ (i := 5) (N := some 13) #[Y,Y,Y,Y,Y,Y,N] rfl rfl (by kernel_rfl) (by decide) (fun K hK => ?_); refine goesA_ Tryz.func54 rfl #[.agg #[.bool a0_0, .int .i64 a0_1, .int .i64 a0_2, .int .i64 a0_3, .int .i64 a0_4, .int .i64 a0_5], .int .i64 t322] (by rfl) rfl rfl ?_
  with_reducible refine (cubic_lawS.calls a0_0 a0_1 a0_2 a0_3 a0_4 a0_5 t322 t323 _ A6.out).mono ?_
  rintro e w12 ⟨rfl, hb⟩; refine ⟨_, rfl, ?_⟩; replace BK320 := bbZ BK320 hb; replace HB := Aside0.mk (below_step HB.out hb); clear hb; refine hK.out _ _ ⟨(blk_cell BK320.out 0).trans rfl, (blk_cell BK320.out 1).trans rfl, (blk_cell BK320.out 2).trans rfl, (blk_cell BK320.out 3).trans rfl, (blk_cell BK320.out 4).trans rfl, (blk_cell BK320.out 5).trans rfl⟩ (fun hHeld => ?_); clear hK K; refine normA_ (some 13) ?_
  refine pureA_ (i := 6) (N := some 4) #[Y,Y,Y,Y,Y,Y,Y] rfl rfl (by kernel_rfl) ?_
  refine done_ (by kernel_rfl) ?_
  try go_wp2
  go_ret
  exact ⟨by first | rfl | (simp [errW_none, errW_some] <;> rfl) | (simp [*, errW_none, errW_some] <;> rfl), by repeat (first | (with_reducible first | exact HB.out | apply below_alloc | apply pw_below_drewN | apply below_drew1 | refine below_set ?_ GE320.out) | exact HB.out)⟩
 ·replace c4 := Bool.eq_false_iff.mpr c4
  subst c4
  have H1 : (some 0) = some r := by rw [if_neg (show ¬ (false = true) by decide)] at H; exact H
  clear H; have H := H1; clear H1; obtain rfl := Option.some.inj H
  go_enter Tryz.func23, Tryz.ntmps23
  go_wp2_with (first | ((with_reducible refine gate_dst (N := 2) rfl ?_); refine box_event ?hg (N := 2) ?hd (cs := #[.bool a0_0, .int .i64 a0_1, .int .i64 a0_2, .int .i64 a0_3, .int .i64 a0_4, .int .i64 a0_5]) (t := 25) ?hr ?_; (case hd => rfl); (case hg => rfl); (case hr => first | (go_simp; done) | (go_simp; rfl)); intro gb320 hg w13 hbox hb; have BK320 := Aside0.mk (hbox); obtain ⟨GW320, nHB⟩ := geA hg hb; have GE320 := GW320; replace HB := nHB; clear nHB; clear hb hbox hg; have hcz14_0 := czZ BK320 0 (.bool a0_0); have hcz14_1 := czZ BK320 1 (.int .i64 a0_1); have hcz14_2 := czZ BK320 2 (.int .i64 a0_2); have hcz14_3 := czZ BK320 3 (.int .i64 a0_3); have hcz14_4 := czZ BK320 4 (.int .i64 a0_4); have hcz14_5 := czZ BK320 5 (.int .i64 a0_5); have hfz14_0 := blk_frozen BK320.out 0; have hfz14_1 := blk_frozen BK320.out 1; have hfz14_2 := blk_frozen BK320.out 2; have hfz14_3 := blk_frozen BK320.out 3; have hfz14_4 := blk_frozen BK320.out 4; have hfz14_5 := blk_frozen BK320.out 5) | ((with_reducible refine gate_callee (f := 21) rfl ?_); refine goesLA_ (some 6) rfl rfl Tryz.func21 rfl #[.agg #[.bool a0_0, .int .i64 a0_1, .int .i64 a0_2, .int .i64 a0_3, .int .i64 a0_4, .int .i64 a0_5]] rfl ?_; (with_reducible refine (cubic_isS.calls a0_0 a0_1 a0_2 a0_3 a0_4 a0_5 false _ A3.out ?hT_).mono ?_); (case hT_ => exact tensB hL (by repeat (first | (with_reducible first | exact HB.out | apply below_alloc | apply pw_below_drewN | apply below_drew1 | refine below_set ?_ (Aside0.out (by assumption))) | exact HB.out))); rintro e w15 ⟨rfl, hb⟩; refine ⟨_, rfl, ?_⟩; replace BK320 := bdZ BK320 hb; replace HB := stA hb; clear hb))
  go_ret
  exact ⟨by first | rfl | (simp [errW_none, errW_some] <;> rfl) | (simp [*, errW_none, errW_some] <;> rfl), by repeat (first | (with_reducible first | exact HB.out | apply below_alloc | apply pw_below_drewN | apply below_drew1 | refine below_set ?_ GE320.out) | exact HB.out)⟩

/-! ### cubic_AtS: pure, behind function 23 -/
section
open Go.Proofs.YtfahbgkoldoflaaGreatDoor.Sp
noncomputable def cubic_AtS.f (on : Bool) (s : Int) (f : Int) (m : Int) (k : Int) (e : Int) (now : Int) : Option (Int) := need ((I s) ∧ (I f) ∧ (I m) ∧ (I k) ∧ (I now)) (some (atQ on s f m k e now))
theorem cubic_AtS.eq {on : Bool} {s : Int} {f : Int} {m : Int} {k : Int} {e : Int} {now : Int} (h1 : I s) (h2 : I f) (h3 : I m) (h4 : I k) (h5 : I now) : cubic_AtS.f on s f m k e now = some (atQ on s f m k e now) := need_pos ⟨h1, h2, h3, h4, h5⟩
theorem cubic_At.main {on : Bool} {s : Int} {f : Int} {m : Int} {k : Int} {e : Int} {now : Int} (h1 : I s) (h2 : I f) (h3 : I m) (h4 : I k) (h5 : I now) : cubic_At.f on s f m k e now = some (atQ on s f m k e now) := by
 unfold cubic_At.f atQ
 rw [cubic_isS.eq h1 h2 h3]
 simp only [Option.bind_some]
 by_cases c : on = true ∧ eOk on s f m k e = true
 ·obtain ⟨rfl, c2⟩ := c; have kb := eOn_k (eOk_on.1 c2)
  rw [c2, if_pos (show (true && true) = true from rfl), if_pos (show true = true ∧ true = true from ⟨rfl, rfl⟩), safe_SubS.eq h5 h1]
  simp only [Option.bind_some]
  rw [cubic_lawS.eq h3 h4 (near_I _)]
  simp only [Option.bind_some]
  rw [near_clamp, riseQ_near]
  congr 1
  exact lawQ_near (m := m) (now - s) kb
 ·rw [if_neg c, if_neg (show ¬ (on && eOk on s f m k e) = true by simpa using c)]
end
theorem cubic_AtS.calls (a0_0 : Bool) (a0_1 : Int) (a0_2 : Int) (a0_3 : Int) (a0_4 : Int) (a0_5 : Int) (a1 : Int) (r : Int) (w : World) (h : cubic_AtS.f a0_0 a0_1 a0_2 a0_3 a0_4 a0_5 a1 = some r) (hL : Tens w) :
  Calls Tryz.prog 23 #[.agg #[.bool a0_0, .int .i64 a0_1, .int .i64 a0_2, .int .i64 a0_3, .int .i64 a0_4, .int .i64 a0_5], .int .i64 a1] w fun e w' => e = .returned (.int .i64 r) ∧ Below w.heap.size w w' := by
 obtain ⟨hc, h⟩ := Sp.need_some h; obtain ⟨h1, h2, h3, h4, h5⟩ := hc; exact cubic_At.calls a0_0 a0_1 a0_2 a0_3 a0_4 a0_5 a1 r w (by rw [cubic_At.main h1 h2 h3 h4 h5]; exact h) hL

/-! ### cubic_Target: function 9 -/
noncomputable def cubic_Target.j0 : Nat → Int → Int → Bool → Bool → Int → Int → Int → Int → Int → Option (Int)
 | 0, _, _, _, _, _, _, _, _, _ => none
 | k + 1, x1, x2, x13, x325000, x325001, x325002, x325003, x325004, x325005 => if x13 = true then (some x2) else ((cubic_AtS.f x325000 x325001 x325002 x325003 x325004 x325005 x1).bind fun t326 => ((safe_Add.f x2 (wrap64 (Int.tdiv x2 2))).bind fun t327 => ((safe_ClampS.f t326 x2 t327).bind fun t328 => (some t328))))
noncomputable def cubic_Target.f (k : Nat) (a0_0 : Bool) (a0_1 : Int) (a0_2 : Int) (a0_3 : Int) (a0_4 : Int) (a0_5 : Int) (a1 : Int) (a2 : Int) : Option (Int) := if a2 < 0 then (cubic_Target.j0 k a1 a2 true a0_0 a0_1 a0_2 a0_3 a0_4 a0_5) else ((cubic_isS.f a0_0 a0_1 a0_2 a0_3 a0_4 a0_5).bind fun t325 => (cubic_Target.j0 k a1 a2 (!t325) a0_0 a0_1 a0_2 a0_3 a0_4 a0_5))
set_option maxHeartbeats 8000000 in
set_option maxRecDepth 100000 in
theorem cubic_Target.calls (k : Nat) (a0_0 : Bool) (a0_1 : Int) (a0_2 : Int) (a0_3 : Int) (a0_4 : Int) (a0_5 : Int) (a1 : Int) (a2 : Int) (r : Int) (w : World) (h : cubic_Target.f k a0_0 a0_1 a0_2 a0_3 a0_4 a0_5 a1 a2 = some r) (hL : Tens w) :
  Calls Tryz.prog 9 #[.agg #[.bool a0_0, .int .i64 a0_1, .int .i64 a0_2, .int .i64 a0_3, .int .i64 a0_4, .int .i64 a0_5], .int .i64 a1, .int .i64 a2] w fun e w' => e = .returned (.int .i64 r) ∧ Below w.heap.size w w' := by
 have hu25 := Tryz.underlying25; have HB := Aside0.mk (Below.refl w.heap.size w); have H : (if a2 < 0 then (cubic_Target.j0 k a1 a2 true a0_0 a0_1 a0_2 a0_3 a0_4 a0_5) else ((cubic_isS.f a0_0 a0_1 a0_2 a0_3 a0_4 a0_5).bind fun t325 => (cubic_Target.j0 k a1 a2 (!t325) a0_0 a0_1 a0_2 a0_3 a0_4 a0_5))) = some r := h; clear h; have HC4 := Aside0.mk H; clear H
 go_enter Tryz.func9, Tryz.ntmps9
 go_upto_region 1 with (first | ((with_reducible refine gate_dst (N := 3) rfl ?_); refine box_event ?hg (N := 3) ?hd (cs := #[.bool a0_0, .int .i64 a0_1, .int .i64 a0_2, .int .i64 a0_3, .int .i64 a0_4, .int .i64 a0_5]) (t := 25) ?hr ?_; (case hd => rfl); (case hg => rfl); (case hr => first | (go_simp; done) | (go_simp; rfl)); intro gb324 hg w5 hbox hb; have BK324 := Aside0.mk (hbox); obtain ⟨GW324, nHB⟩ := geA hg hb; have GE324 := GW324; replace HB := nHB; clear nHB; clear hb hbox hg))
 (try simp only [Act.put, sA, sB, sC])
 go_cut [13] (fun v13 wc => ∃ (kq : Nat) (x13_3 : Bool), v13 = .bool x13_3 ∧ Aside0 (cubic_Target.j0 kq a1 a2 x13_3 a0_0 a0_1 a0_2 a0_3 a0_4 a0_5 = some r) ∧ Aside0 (kq ≤ k) ∧ Aside0 (wc.heap[gb324]? = some (.cells #[.bool a0_0, .int .i64 a0_1, .int .i64 a0_2, .int .i64 a0_3, .int .i64 a0_4, .int .i64 a0_5] 25 (0, 0))) ∧ Aside0 (Below w.heap.size w wc))
 case first =>
  have H := HC4.out; clear HC4
  by_cases c6 : a2 < 0
  ·rw [if_pos c6] at H
   have c6b0 : decide (a2 < 0) = true := decide_eq_true c6; clear c6
   (first | rw [c6b0] | (simp only [i64_w, i32_w]; rw [c6b0]) | skip)
   have H' := Aside0.mk H; clear H
   go_wp2
   go_meet
   case rel => exact ⟨_, (true), (by first | rfl | (simp; done) | (simp [*]; done)), H', ⟨by first | omega | exact Nat.le_refl _⟩, ⟨by (with_reducible repeat first | apply blk_drewN | apply blk_drew | apply blk_alloc); exact BK324.out⟩, ⟨by repeat (first | (with_reducible first | exact HB.out | apply below_alloc | apply pw_below_drewN | apply below_drew1 | refine below_set ?_ GE324.out) | exact HB.out)⟩⟩
  ·rw [if_neg c6] at H
   have c6b0 : decide (a2 < 0) = false := decide_eq_false c6; clear c6
   (first | rw [c6b0] | (simp only [i64_w, i32_w]; rw [c6b0]) | skip)
   replace H := Option.bind_eq_some_iff.mp H; obtain ⟨t325, A70, H⟩ := H; replace H : (cubic_Target.j0 k a1 a2 (!t325) a0_0 a0_1 a0_2 a0_3 a0_4 a0_5) = some r := H; have A7 := Aside0.mk A70; clear A70; have H' := Aside0.mk H; clear H; have hcz8_0 := czZ BK324 0 (.bool a0_0); have hcz8_1 := czZ BK324 1 (.int .i64 a0_1); have hcz8_2 := czZ BK324 2 (.int .i64 a0_2); have hcz8_3 := czZ BK324 3 (.int .i64 a0_3); have hcz8_4 := czZ BK324 4 (.int .i64 a0_4); have hcz8_5 := czZ BK324 5 (.int .i64 a0_5); have hfz8_0 := blk_frozen BK324.out 0; have hfz8_1 := blk_frozen BK324.out 1; have hfz8_2 := blk_frozen BK324.out 2; have hfz8_3 := blk_frozen BK324.out 3; have hfz8_4 := blk_frozen BK324.out 4; have hfz8_5 := blk_frozen BK324.out 5
   go_wp2_with (first | (go_at_call 21; (with_reducible refine (cubic_isS.calls a0_0 a0_1 a0_2 a0_3 a0_4 a0_5 t325 _ A7.out ?hT_).mono ?_); (case hT_ => exact tensB hL (by repeat (first | (with_reducible first | exact HB.out | apply below_alloc | apply pw_below_drewN | apply below_drew1 | refine below_set ?_ (Aside0.out (by assumption))) | exact HB.out))); rintro e w9 ⟨rfl, hb⟩; replace BK324 := bdZ BK324 hb; replace HB := stA hb; clear hb))
   go_meet
   case rel => exact ⟨_, (!t325), (by first | rfl | (simp; done) | (simp [*]; done)), H', ⟨by first | omega | exact Nat.le_refl _⟩, ⟨by (with_reducible repeat first | apply blk_drewN | apply blk_drew | apply blk_alloc); exact BK324.out⟩, ⟨by repeat (first | (with_reducible first | exact HB.out | apply below_alloc | apply pw_below_drewN | apply below_drew1 | refine below_set ?_ GE324.out) | exact HB.out)⟩⟩
 case rest =>
  clear HC4
  try clear p2
  try clear c6
  try clear c6b0
  try clear c9
  try clear hcz8_0
  try clear hcz8_1
  try clear hcz8_2
  try clear hcz8_3
  try clear hcz8_4
  try clear hcz8_5
  try clear hfz8_0
  try clear hfz8_1
  try clear hfz8_2
  try clear hfz8_3
  try clear hfz8_4
  try clear hfz8_5
  obtain ⟨kq, x13_3, rfl, HA, HJ3, BK324, HB⟩ := hcut
  cases kq with
  | zero => exact absurd HA.out (by simp [cubic_Target.j0])
  | succ kj3 =>
   have H := HA.out; clear HA; simp only [cubic_Target.j0] at H
   by_cases c10 : x13_3 = true
   ·subst c10
    have H1 : (some a2) = some r := by rw [if_pos rfl] at H; exact H
    clear H; have H := H1; clear H1; obtain rfl := Option.some.inj H
    go_wp2
    go_ret
    exact ⟨by first | rfl | (simp [errW_none, errW_some] <;> rfl) | (simp [*, errW_none, errW_some] <;> rfl), by repeat (first | (with_reducible first | exact HB.out | apply below_alloc | apply pw_below_drewN | apply below_drew1 | refine below_set ?_ GE324.out) | exact HB.out)⟩
   ·replace c10 := Bool.eq_false_iff.mpr c10
    subst c10
    have H1 : ((cubic_AtS.f a0_0 a0_1 a0_2 a0_3 a0_4 a0_5 a1).bind fun t326 => ((safe_Add.f a2 (wrap64 (Int.tdiv a2 2))).bind fun t327 => ((safe_ClampS.f t326 a2 t327).bind fun t328 => (some t328)))) = some r := by rw [if_neg (show ¬ (false = true) by decide)] at H; exact H
    clear H; have H := H1; clear H1; replace H := Option.bind_eq_some_iff.mp H; obtain ⟨t326, A110, H⟩ := H; replace H : ((safe_Add.f a2 (wrap64 (Int.tdiv a2 2))).bind fun t327 => ((safe_ClampS.f t326 a2 t327).bind fun t328 => (some t328))) = some r := H; have A11 := Aside0.mk A110; clear A110; replace H := Option.bind_eq_some_iff.mp H; obtain ⟨t327, A120, H⟩ := H; replace H : ((safe_ClampS.f t326 a2 t327).bind fun t328 => (some t328)) = some r := H; have A12 := Aside0.mk A120; clear A120; replace H := Option.bind_eq_some_iff.mp H; obtain ⟨t328, A130, H⟩ := H; replace H : (some t328) = some r := H; have A13 := Aside0.mk A130; clear A130; obtain rfl := Option.some.inj H; have hcz14_0 : wc.cell? ⟨gb324, 0, none⟩ = some (.bool a0_0) := (blk_cell BK324.out 0).trans rfl; have hcz14_1 : wc.cell? ⟨gb324, 1, none⟩ = some (.int .i64 a0_1) := (blk_cell BK324.out 1).trans rfl; have hcz14_2 : wc.cell? ⟨gb324, 2, none⟩ = some (.int .i64 a0_2) := (blk_cell BK324.out 2).trans rfl; have hcz14_3 : wc.cell? ⟨gb324, 3, none⟩ = some (.int .i64 a0_3) := (blk_cell BK324.out 3).trans rfl; have hcz14_4 : wc.cell? ⟨gb324, 4, none⟩ = some (.int .i64 a0_4) := (blk_cell BK324.out 4).trans rfl; have hcz14_5 : wc.cell? ⟨gb324, 5, none⟩ = some (.int .i64 a0_5) := (blk_cell BK324.out 5).trans rfl; have hfz14_0 := blk_frozen BK324.out 0; have hfz14_1 := blk_frozen BK324.out 1; have hfz14_2 := blk_frozen BK324.out 2; have hfz14_3 := blk_frozen BK324.out 3; have hfz14_4 := blk_frozen BK324.out 4; have hfz14_5 := blk_frozen BK324.out 5
    go_wp2_with (first | ((with_reducible refine gate_callee (f := 23) rfl ?_); refine goesLA_ (some 17) rfl rfl Tryz.func23 rfl #[.agg #[.bool a0_0, .int .i64 a0_1, .int .i64 a0_2, .int .i64 a0_3, .int .i64 a0_4, .int .i64 a0_5], .int .i64 a1] rfl ?_; (with_reducible refine (cubic_AtS.calls a0_0 a0_1 a0_2 a0_3 a0_4 a0_5 a1 t326 _ A11.out ?hT_).mono ?_); (case hT_ => exact tensB hL (by repeat (first | (with_reducible first | exact HB.out | apply below_alloc | apply pw_below_drewN | apply below_drew1 | refine below_set ?_ (Aside0.out (by assumption))) | exact HB.out))); rintro e w15 ⟨rfl, hb⟩; refine ⟨_, rfl, ?_⟩; replace BK324 := bdZ BK324 hb; replace HB := stA hb; clear hb) | ((with_reducible refine gate_callee (f := 24) rfl ?_); refine goesLA_ (some 22) rfl rfl Tryz.func24 rfl #[.int .i64 a2, .int .i64 (wrap64 (Int.tdiv a2 2))] rfl ?_; (with_reducible refine (safe_Add.calls a2 (wrap64 (Int.tdiv a2 2)) t327 _ A12.out).mono ?_); rintro e w16 ⟨rfl, hb⟩; refine ⟨_, rfl, ?_⟩; replace BK324 := bdZ BK324 hb; replace HB := stA hb; clear hb) | ((with_reducible refine gate_callee (f := 22) rfl ?_); refine goesLA_ (some 23) rfl rfl Tryz.func22 rfl #[.int .i64 t326, .int .i64 a2, .int .i64 t327] rfl ?_; (with_reducible refine (safe_ClampS.calls t326 a2 t327 t328 _ A13.out).mono ?_); rintro e w17 ⟨rfl, hb⟩; refine ⟨_, rfl, ?_⟩; replace BK324 := bdZ BK324 hb; replace HB := stA hb; clear hb))
    go_ret
    exact ⟨by first | rfl | (simp [errW_none, errW_some] <;> rfl) | (simp [*, errW_none, errW_some] <;> rfl), by repeat (first | (with_reducible first | exact HB.out | apply below_alloc | apply pw_below_drewN | apply below_drew1 | refine below_set ?_ GE324.out) | exact HB.out)⟩

/-! ### cubic_TargetS: pure, behind function 9 -/
section
open Go.Proofs.YtfahbgkoldoflaaGreatDoor.Sp
noncomputable def cubic_TargetS.f (on : Bool) (s : Int) (f : Int) (m : Int) (k : Int) (e : Int) (now : Int) (w : Int) : Option (Int) := need ((I s) ∧ (I f) ∧ (I m) ∧ (I k) ∧ (I now) ∧ (I w)) (some (targetQ on s f m k e now w))
theorem cubic_TargetS.eq {on : Bool} {s : Int} {f : Int} {m : Int} {k : Int} {e : Int} {now : Int} {w : Int} (h1 : I s) (h2 : I f) (h3 : I m) (h4 : I k) (h5 : I now) (h6 : I w) : cubic_TargetS.f on s f m k e now w = some (targetQ on s f m k e now w) := need_pos ⟨h1, h2, h3, h4, h5, h6⟩
theorem cubic_Target.main {on : Bool} {s : Int} {f : Int} {m : Int} {k : Int} {e : Int} {now : Int} {w : Int} (h1 : I s) (h2 : I f) (h3 : I m) (h4 : I k) (h5 : I now) (h6 : I w) : cubic_Target.f 1 on s f m k e now w = some (targetQ on s f m k e now w) := by
 unfold cubic_Target.f
 simp only [cubic_Target.j0]
 rw [cubic_isS.eq h1 h2 h3]
 simp only [Option.bind_some]
 unfold targetQ
 by_cases c1 : w < 0
 ·rw [if_pos c1, if_pos (show w < 0 ∨ ¬ (on = true ∧ eOk on s f m k e = true) from Or.inl c1)]; rfl
 ·rw [if_neg c1]
  by_cases c : on = true ∧ eOk on s f m k e = true
  ·have n : ¬ (w < 0 ∨ ¬ (on = true ∧ eOk on s f m k e = true)) := fun x => x.elim c1 (fun y => y c)
   have q : (on && eOk on s f m k e) = true := by simpa using c
   rw [if_neg n, q]
   have wd : RowKit.wrap64 (Int.tdiv w 2) = w / 2 := by rw [Int.tdiv_eq_ediv_of_nonneg (by omega), w64 (by omega)]
   have ab : I (atQ on s f m k e now) := by unfold atQ; rw [if_pos c]; have := lawQ_bd m k (now - s); omega
   rw [if_neg (by simp), cubic_AtS.eq h1 h2 h3 h4 h5, wd, safe_Add.eq h6 (by omega)]
   simp only [Option.bind_some]
   rw [safe_ClampS.eq ab h6 (near_I _)]
   rfl
  ·have n : w < 0 ∨ ¬ (on = true ∧ eOk on s f m k e = true) := Or.inr c
   have q : (on && eOk on s f m k e) = false := by
    cases x : (on && eOk on s f m k e)
    ·rfl
    ·exact absurd (by simpa using x) c
   rw [if_pos n, q]; rfl
end
theorem cubic_TargetS.calls (a0_0 : Bool) (a0_1 : Int) (a0_2 : Int) (a0_3 : Int) (a0_4 : Int) (a0_5 : Int) (a1 : Int) (a2 : Int) (r : Int) (w : World) (h : cubic_TargetS.f a0_0 a0_1 a0_2 a0_3 a0_4 a0_5 a1 a2 = some r) (hL : Tens w) :
  Calls Tryz.prog 9 #[.agg #[.bool a0_0, .int .i64 a0_1, .int .i64 a0_2, .int .i64 a0_3, .int .i64 a0_4, .int .i64 a0_5], .int .i64 a1, .int .i64 a2] w fun e w' => e = .returned (.int .i64 r) ∧ Below w.heap.size w w' := by
 obtain ⟨hc, h⟩ := Sp.need_some h; obtain ⟨h1, h2, h3, h4, h5, h6⟩ := hc; exact cubic_Target.calls 1 a0_0 a0_1 a0_2 a0_3 a0_4 a0_5 a1 a2 r w (by rw [cubic_Target.main h1 h2 h3 h4 h5 h6]; exact h) hL

/-! ### sawtoothref20_Few: function 10 -/
noncomputable def sawtoothref20_Few.l0 : Nat → List (List Int) → Int → Int → Option (Bool)
 | 0, _, _, _ => none
 | k + 1, x0, x1, x5 => if x5 < (x0.length : Int) then (if 0 ≤ x5 then (if ((rd_L1 x0 x5).length : Int) > 10 then (some false) else (sawtoothref20_Few.l0 k x0 x1 (wrap64 (x5 + 1)))) else (none)) else (some (decide ((x0.length : Int) ≤ x1)))
noncomputable def sawtoothref20_Few.f (k : Nat) (l0 : List (List Int)) (a1 : Int) : Option (Bool) := sawtoothref20_Few.l0 k l0 a1 0
set_option maxHeartbeats 8000000 in
set_option maxRecDepth 100000 in
theorem sawtoothref20_Few.calls (k : Nat) (A0 : Option Addr) (c0 : Nat) (l0 : List (List Int)) (a1 : Int) (r : Bool) (w : World) (hr0 : Kd.C (Kd.slice 3 (Kd.int .i64)) w A0 l0.length l0) (hc0 : l0.length ≤ c0) (h : sawtoothref20_Few.f k l0 a1 = some r) :
  Calls Tryz.prog 10 #[.slice A0 l0.length c0, .int .i64 a1] w fun e w' => e = .returned (.bool r) ∧ Drawn0 w w' := by
 have HR0 := Aside0.mk hr0; have HC0 := Aside0.mk hc0; clear hr0 hc0; have H : (sawtoothref20_Few.l0 k l0 a1 0) = some r := h; clear h; have H' := Aside0.mk H; clear H
 go_enter Tryz.func10, Tryz.ntmps10
 go_wp2
 go_loopg [5] k (fun kq v5 w' => ∃ (x5_1 : Int), v5 = .int .i64 x5_1 ∧ Aside0 (sawtoothref20_Few.l0 kq l0 a1 x5_1 = some r) ∧ Aside0 (kq ≤ k) ∧ Drawn0 w w')
 case atStart => exact ⟨(0), (by first | rfl | (simp; done) | (simp [*]; done)), H', ⟨Nat.le_refl _⟩, by repeat (first | exact Drawn0.refl _ | apply Drawn0.step)⟩
 case round =>
  clear H'
  try clear c1
  try clear p2
  obtain ⟨x5_1, rfl, HA, HK1, ⟨m1, rfl⟩⟩ := hrel
  cases gk with
  | zero => exact absurd HA.out (by simp [sawtoothref20_Few.l0])
  | succ k1 =>
   have H := HA.out; clear HA; simp only [sawtoothref20_Few.l0] at H
   by_cases c3 : x5_1 < (l0.length : Int)
   ·rw [if_pos c3] at H
    have c3b0 : decide (x5_1 < (l0.length : Int)) = true := decide_eq_true c3; clear c3
    by_cases c4 : 0 ≤ x5_1
    ·rw [if_pos c4] at H
     have c4b0 : decide (0 ≤ x5_1) = true := decide_eq_true c4; clear c4
     by_cases c5 : ((rd_L1 l0 x5_1).length : Int) > 10
     ·rw [if_pos c5] at H
      have c5b0 : decide (10 < ((rd_L1 l0 x5_1).length : Int)) = true := decide_eq_true c5; have c5b1 : decide (10 < (rd_L1 l0 x5_1).length) = true := decide_eq_true (by omega); clear c5; obtain rfl := Option.some.inj H; have p329 : 0 ≤ (x5_1 : Int) := of_decide_eq_true (by first | (with_reducible assumption) | assumption); have q329 : x5_1 < (l0.length : Int) := of_decide_eq_true (by first | (with_reducible assumption) | assumption); obtain ⟨ad329, A329_0, c329_0, e329, hx329_0, hl329_0, hi329_0⟩ := at_L1 HR0.out x5_1 p329 q329
      cases e329
      have HR329_0 := Aside0.mk hi329_0; have HC329_0 := Aside0.mk hl329_0; clear hi329_0 hl329_0; replace p329 := eq_true p329; replace q329 := eq_true q329
      go_wp2
      go_ret
      exact ⟨by first | rfl | (simp; done) | (simp [*]; done), by repeat (first | exact Drawn0.refl _ | apply Drawn0.step)⟩
     ·rw [if_neg c5] at H
      have c5b0 : decide (10 < ((rd_L1 l0 x5_1).length : Int)) = false := decide_eq_false c5; have c5b1 : decide (10 < (rd_L1 l0 x5_1).length) = false := decide_eq_false (by omega); clear c5; have H' := Aside0.mk H; clear H; have p329 : 0 ≤ (x5_1 : Int) := of_decide_eq_true (by first | (with_reducible assumption) | assumption); have q329 : x5_1 < (l0.length : Int) := of_decide_eq_true (by first | (with_reducible assumption) | assumption); obtain ⟨ad329, A329_0, c329_0, e329, hx329_0, hl329_0, hi329_0⟩ := at_L1 HR0.out x5_1 p329 q329
      cases e329
      have HR329_0 := Aside0.mk hi329_0; have HC329_0 := Aside0.mk hl329_0; clear hi329_0 hl329_0; replace p329 := eq_true p329; replace q329 := eq_true q329
      go_wp2
      go_roundg k1
      case measure => have := HK1.out; omega
      case rel => exact ⟨(wrap64 (x5_1 + 1)), (by first | rfl | (simp; done) | (simp [*]; done)), H', ⟨by have := HK1.out; omega⟩, by repeat (first | exact Drawn0.refl _ | apply Drawn0.step)⟩
    ·rw [if_neg c4] at H
     exact absurd H (by simp)
   ·rw [if_neg c3] at H
    have c3b0 : decide (x5_1 < (l0.length : Int)) = false := decide_eq_false c3; clear c3; obtain rfl := Option.some.inj H
    go_wp2
    go_ret
    exact ⟨by first | rfl | (simp; done) | (simp [*]; done), by repeat (first | exact Drawn0.refl _ | apply Drawn0.step)⟩

/-! ### frac_Bytes: function 14 -/
noncomputable def frac_Bytes.f (a0 : Int) (a1 : Int) : Option (Int × Int) := (frac_FloorS.f a0 a1 65536).bind fun bt330 => (some (bt330.1, bt330.2))
set_option maxHeartbeats 8000000 in
set_option maxRecDepth 100000 in
theorem frac_Bytes.calls (a0 : Int) (a1 : Int) (r1 : Int) (r2 : Int) (w : World) (h : frac_Bytes.f a0 a1 = some (r1, r2)) :
  Calls Tryz.prog 14 #[.int .i64 a0, .int .i64 a1] w fun e w' => e = .returned (.tuple #[.int .i64 r1, .int .i64 r2]) ∧ Below w.heap.size w w' := by
 have HB := Aside0.mk (Below.refl w.heap.size w); have H : ((frac_FloorS.f a0 a1 65536).bind fun bt330 => (some (bt330.1, bt330.2))) = some (r1, r2) := h; clear h; replace H := Option.bind_eq_some_iff.mp H; obtain ⟨⟨t330, t331⟩, A30, H⟩ := H; replace H : (some (t330, t331)) = some (r1, r2) := H; have A3 := Aside0.mk A30; clear A30; simp only [Option.some.injEq, Prod.mk.injEq] at H; obtain ⟨rfl, rfl⟩ := H
 go_enter Tryz.func14, Tryz.ntmps14
 go_wp2_with (first | ((with_reducible refine gate_callee (f := 45) rfl ?_); refine goesLA_ (some 8) rfl rfl Tryz.func45 rfl #[.int .i64 a0, .int .i64 a1, .int .i64 65536] rfl ?_; (with_reducible refine (frac_FloorS.calls a0 a1 65536 t330 t331 _ A3.out).mono ?_); rintro e w4 ⟨rfl, hb⟩; refine ⟨_, rfl, ?_⟩; replace HB := stA hb; clear hb))
 go_ret2
 exact ⟨by first | rfl | (simp [errW_none, errW_some] <;> rfl) | (simp [*, errW_none, errW_some] <;> rfl), by repeat (first | (with_reducible first | exact HB.out | apply below_alloc | apply pw_below_drewN | apply below_drew1) | exact HB.out)⟩

/-! ### frac_BytesS: pure, behind function 14 -/
noncomputable def frac_BytesS.f (a c : Int) : Option (Int × Int) := Sp.need (Sp.I a ∧ Sp.I c) (Sp.floorQ a c 65536)
theorem frac_BytesS.eq {a c : Int} (h1 : Sp.I a) (h2 : Sp.I c) : frac_BytesS.f a c = Sp.floorQ a c 65536 := Sp.need_pos ⟨h1, h2⟩
theorem frac_BytesS.calls (a0 a1 r1 r2 : Int) (w : World) (h : frac_BytesS.f a0 a1 = some (r1, r2)) :
  Calls Tryz.prog 14 #[.int .i64 a0, .int .i64 a1] w fun e w' => e = .returned (.tuple #[.int .i64 r1, .int .i64 r2]) ∧ Below w.heap.size w w' := by
 obtain ⟨hc, h⟩ := Sp.need_some h; refine frac_Bytes.calls a0 a1 r1 r2 w ?_
 unfold frac_Bytes.f
 rw [frac_FloorS.eq (by omega) (by omega) (by omega), h]
 rfl

-- NOT PRINTED: function 59 (guide_bounds)

/-! ### guide_Check: function 25 -/
noncomputable def guide_Check.f (a b c d e f h : Int) : Option Int := some (Sp.chkQ a b c d e f h)
section
open Go.Shelf
attribute [local go_sem] Oper.semAt_some
abbrev guide_Pair := (Int × Int) × (Int × Int)
def guide_encs (x : guide_Pair) : Array Value := #[.agg #[.int .i64 x.1.1, .int .i64 x.1.2], .agg #[.int .i64 x.2.1, .int .i64 x.2.2]]
def guide_list (a b c d e f h : Int) : List guide_Pair := [((a, 0), (1, 9000)), ((b, 0), (4, 1048576)), ((c, 0), (2, b)), ((d, 0), (1, 1000000)), ((e, 0), (1, f)), ((f, 0), (1, 1099511627776)), ((h, 0), (1, 1000))]
def guide_Kp (n₀ : Nat) (A B : World) : Prop := ∀ b cs t fr, n₀ ≤ b → A.heap[b]? = some (.cells cs t fr) → B.heap[b]? = some (.cells cs t fr)
theorem guide_alloc {W : World} {b : Nat} {x : Obj} (h : W.heap[b]? = some x) (o : Obj) : (W.alloc o).heap[b]? = some x := (Below.heap_alloc W o b (Array.getElem?_eq_some_iff.1 h).1).trans h
set_option maxRecDepth 100000 in
set_option maxHeartbeats 4000000 in
theorem guide_iter (F : Fence) (n : Nat) (h39 : F.fn 115) (hro : F.round = none) (hn : 1 ≤ n) (l g n₀ : Nat) (a b c d e f h : Int) (J Jx : List guide_Pair → World → Prop) (W : World)
  (hY : ∀ pre x W1, J pre W1 → pre.length < 7 → YieldAt F (n - 1) Tryz.prog l (guide_encs x) W1 fun en W' => (en = .returned (.bool true) ∧ J (pre ++ [x]) W' ∧ guide_Kp n₀ W1 W') ∨ (en = .returned (.bool false) ∧ Jx (pre ++ [x]) W'))
  (hJ : AbidesFrom W.heap.size J) (h0 : J [] W)
  (hb0 : W.heap[g]? = some (.cells #[.int .i64 a, .int .i64 b, .int .i64 c, .int .i64 d, .int .i64 e, .int .i64 f, .int .i64 h] 33 (0, 0))) (hg : n₀ ≤ W.heap.size) :
  CallsIn F n Tryz.prog 115 #[.func (.yield l) #[] #[], .pointer (some ⟨g, 0, none⟩)] W fun en W' => (∃ v, en = .returned v) ∧ ((∃ ys, ys = guide_list a b c d e f h ∧ J ys W') ∨ (∃ pre, pre <+: guide_list a b c d e f h ∧ Jx pre W')) := by
 have BK := Aside0.mk hb0; have z0 := czZ BK 0 (.int .i64 a); have z1 := czZ BK 1 (.int .i64 b); have z2 := czZ BK 2 (.int .i64 c); have z3 := czZ BK 3 (.int .i64 d); have z4 := czZ BK 4 (.int .i64 e); have z5 := czZ BK 5 (.int .i64 f); have z6 := czZ BK 6 (.int .i64 h); clear hb0; refine callsIn_of_wp Tryz.func115 rfl h39 ?_ hro; simp only [Tryz.ntmps115, List.size_toArray, List.length_cons, List.length_nil, Nat.reduceAdd, Nat.reduceSub, Array.replicate_succ, Array.replicate_zero, List.push_toArray, List.append_toArray, List.nil_append, List.cons_append]
 gi_wp2
 gi_loopw [48] (fun v wr => ∃ k : Nat, k ≤ 7 ∧ v = .int .i64 k ∧ J ((guide_list a b c d e f h).take k) wr ∧ Aside0 (wr.heap[W.heap.size]? = some (.cells #[.int .i64 a, .int .i64 0, .int .i64 1, .int .i64 9000, .int .i64 b, .int .i64 0, .int .i64 4, .int .i64 1048576, .int .i64 c, .int .i64 0, .int .i64 2, .int .i64 b, .int .i64 d, .int .i64 0, .int .i64 1, .int .i64 1000000, .int .i64 e, .int .i64 0, .int .i64 1, .int .i64 f, .int .i64 f, .int .i64 0, .int .i64 1, .int .i64 1099511627776, .int .i64 h, .int .i64 0, .int .i64 1, .int .i64 1000] 166 (0, 0))))
  (fun v _ => 7 - (intOf v).toNat)
 case atStart =>
  exact ⟨0, by omega, rfl, hJ _ _ _ none h0 (World.grownBy_alloc W _ none) (fun r e => by cases e), ⟨World.alloc_heap_new W _⟩⟩
 case round =>
  obtain ⟨k, hk, rfl, hJs, SK⟩ := hrel
  have hcases : k = 0 ∨ k = 1 ∨ k = 2 ∨ k = 3 ∨ k = 4 ∨ k = 5 ∨ k = 6 ∨ k = 7 := by omega
  rcases hcases with rfl | rfl | rfl | rfl | rfl | rfl | rfl | rfl
  ·have s0 := czZ SK 0 (.int .i64 a); have s1 := czZ SK 1 (.int .i64 0); have s2 := czZ SK 2 (.int .i64 1); have s3 := czZ SK 3 (.int .i64 9000); have hJ1 := hJ _ _ _ none hJs (World.grownBy_alloc wr (.cells #[.int .i64 a, .int .i64 0, .int .i64 1, .int .i64 9000] 166) none) (fun r e => by cases e); obtain ⟨fn, tmps, assign, body, hy, hR⟩ := hY _ ((a, 0), (1, 9000)) _ hJ1 (by simp [guide_list]); simp only [guide_encs] at hy
   gi_wp2
   refine hR.mono ?_; rintro en W3 (⟨rfl, hJ3, hk3⟩ | ⟨rfl, hJx3⟩)
   ·have SK3 := hk3 _ _ _ _ hg (guide_alloc SK.out _); clear hy hR SK hJs hJ1 s0 s1 s2 s3 z0 z1 z2 z3 z4 z5 z6
    gi_wp2
    go_roundw
    case rel => exact ⟨1, by omega, rfl, by simpa [guide_list] using hJ3, ⟨SK3⟩⟩
    case measure => simp [intOf]
   ·clear hy hR SK hJs hJ1 s0 s1 s2 s3 z0 z1 z2 z3 z4 z5 z6
    gi_wp2
    refine bodyPost_ret (results_none rfl _ _ _) rfl ?_; exact ⟨⟨_, rfl⟩, .inr ⟨_, ⟨(guide_list a b c d e f h).drop 1, by simp [guide_list]⟩, hJx3⟩⟩
  ·have s0 := czZ SK 4 (.int .i64 b); have s1 := czZ SK 5 (.int .i64 0); have s2 := czZ SK 6 (.int .i64 4); have s3 := czZ SK 7 (.int .i64 1048576); have hJ1 := hJ _ _ _ none hJs (World.grownBy_alloc wr (.cells #[.int .i64 b, .int .i64 0, .int .i64 4, .int .i64 1048576] 166) none) (fun r e => by cases e); obtain ⟨fn, tmps, assign, body, hy, hR⟩ := hY _ ((b, 0), (4, 1048576)) _ hJ1 (by simp [guide_list]); simp only [guide_encs] at hy
   gi_wp2
   refine hR.mono ?_; rintro en W3 (⟨rfl, hJ3, hk3⟩ | ⟨rfl, hJx3⟩)
   ·have SK3 := hk3 _ _ _ _ hg (guide_alloc SK.out _); clear hy hR SK hJs hJ1 s0 s1 s2 s3 z0 z1 z2 z3 z4 z5 z6
    gi_wp2
    go_roundw
    case rel => exact ⟨2, by omega, rfl, by simpa [guide_list] using hJ3, ⟨SK3⟩⟩
    case measure => simp [intOf]
   ·clear hy hR SK hJs hJ1 s0 s1 s2 s3 z0 z1 z2 z3 z4 z5 z6
    gi_wp2
    refine bodyPost_ret (results_none rfl _ _ _) rfl ?_; exact ⟨⟨_, rfl⟩, .inr ⟨_, ⟨(guide_list a b c d e f h).drop 2, by simp [guide_list]⟩, hJx3⟩⟩
  ·have s0 := czZ SK 8 (.int .i64 c); have s1 := czZ SK 9 (.int .i64 0); have s2 := czZ SK 10 (.int .i64 2); have s3 := czZ SK 11 (.int .i64 b); have hJ1 := hJ _ _ _ none hJs (World.grownBy_alloc wr (.cells #[.int .i64 c, .int .i64 0, .int .i64 2, .int .i64 b] 166) none) (fun r e => by cases e); obtain ⟨fn, tmps, assign, body, hy, hR⟩ := hY _ ((c, 0), (2, b)) _ hJ1 (by simp [guide_list]); simp only [guide_encs] at hy
   gi_wp2
   refine hR.mono ?_; rintro en W3 (⟨rfl, hJ3, hk3⟩ | ⟨rfl, hJx3⟩)
   ·have SK3 := hk3 _ _ _ _ hg (guide_alloc SK.out _); clear hy hR SK hJs hJ1 s0 s1 s2 s3 z0 z1 z2 z3 z4 z5 z6
    gi_wp2
    go_roundw
    case rel => exact ⟨3, by omega, rfl, by simpa [guide_list] using hJ3, ⟨SK3⟩⟩
    case measure => simp [intOf]
   ·clear hy hR SK hJs hJ1 s0 s1 s2 s3 z0 z1 z2 z3 z4 z5 z6
    gi_wp2
    refine bodyPost_ret (results_none rfl _ _ _) rfl ?_; exact ⟨⟨_, rfl⟩, .inr ⟨_, ⟨(guide_list a b c d e f h).drop 3, by simp [guide_list]⟩, hJx3⟩⟩
  ·have s0 := czZ SK 12 (.int .i64 d); have s1 := czZ SK 13 (.int .i64 0); have s2 := czZ SK 14 (.int .i64 1); have s3 := czZ SK 15 (.int .i64 1000000); have hJ1 := hJ _ _ _ none hJs (World.grownBy_alloc wr (.cells #[.int .i64 d, .int .i64 0, .int .i64 1, .int .i64 1000000] 166) none) (fun r e => by cases e); obtain ⟨fn, tmps, assign, body, hy, hR⟩ := hY _ ((d, 0), (1, 1000000)) _ hJ1 (by simp [guide_list]); simp only [guide_encs] at hy
   gi_wp2
   refine hR.mono ?_; rintro en W3 (⟨rfl, hJ3, hk3⟩ | ⟨rfl, hJx3⟩)
   ·have SK3 := hk3 _ _ _ _ hg (guide_alloc SK.out _); clear hy hR SK hJs hJ1 s0 s1 s2 s3 z0 z1 z2 z3 z4 z5 z6
    gi_wp2
    go_roundw
    case rel => exact ⟨4, by omega, rfl, by simpa [guide_list] using hJ3, ⟨SK3⟩⟩
    case measure => simp [intOf]
   ·clear hy hR SK hJs hJ1 s0 s1 s2 s3 z0 z1 z2 z3 z4 z5 z6
    gi_wp2
    refine bodyPost_ret (results_none rfl _ _ _) rfl ?_; exact ⟨⟨_, rfl⟩, .inr ⟨_, ⟨(guide_list a b c d e f h).drop 4, by simp [guide_list]⟩, hJx3⟩⟩
  ·have s0 := czZ SK 16 (.int .i64 e); have s1 := czZ SK 17 (.int .i64 0); have s2 := czZ SK 18 (.int .i64 1); have s3 := czZ SK 19 (.int .i64 f); have hJ1 := hJ _ _ _ none hJs (World.grownBy_alloc wr (.cells #[.int .i64 e, .int .i64 0, .int .i64 1, .int .i64 f] 166) none) (fun r e => by cases e); obtain ⟨fn, tmps, assign, body, hy, hR⟩ := hY _ ((e, 0), (1, f)) _ hJ1 (by simp [guide_list]); simp only [guide_encs] at hy
   gi_wp2
   refine hR.mono ?_; rintro en W3 (⟨rfl, hJ3, hk3⟩ | ⟨rfl, hJx3⟩)
   ·have SK3 := hk3 _ _ _ _ hg (guide_alloc SK.out _); clear hy hR SK hJs hJ1 s0 s1 s2 s3 z0 z1 z2 z3 z4 z5 z6
    gi_wp2
    go_roundw
    case rel => exact ⟨5, by omega, rfl, by simpa [guide_list] using hJ3, ⟨SK3⟩⟩
    case measure => simp [intOf]
   ·clear hy hR SK hJs hJ1 s0 s1 s2 s3 z0 z1 z2 z3 z4 z5 z6
    gi_wp2
    refine bodyPost_ret (results_none rfl _ _ _) rfl ?_; exact ⟨⟨_, rfl⟩, .inr ⟨_, ⟨(guide_list a b c d e f h).drop 5, by simp [guide_list]⟩, hJx3⟩⟩
  ·have s0 := czZ SK 20 (.int .i64 f); have s1 := czZ SK 21 (.int .i64 0); have s2 := czZ SK 22 (.int .i64 1); have s3 := czZ SK 23 (.int .i64 1099511627776); have hJ1 := hJ _ _ _ none hJs (World.grownBy_alloc wr (.cells #[.int .i64 f, .int .i64 0, .int .i64 1, .int .i64 1099511627776] 166) none) (fun r e => by cases e); obtain ⟨fn, tmps, assign, body, hy, hR⟩ := hY _ ((f, 0), (1, 1099511627776)) _ hJ1 (by simp [guide_list]); simp only [guide_encs] at hy
   gi_wp2
   refine hR.mono ?_; rintro en W3 (⟨rfl, hJ3, hk3⟩ | ⟨rfl, hJx3⟩)
   ·have SK3 := hk3 _ _ _ _ hg (guide_alloc SK.out _); clear hy hR SK hJs hJ1 s0 s1 s2 s3 z0 z1 z2 z3 z4 z5 z6
    gi_wp2
    go_roundw
    case rel => exact ⟨6, by omega, rfl, by simpa [guide_list] using hJ3, ⟨SK3⟩⟩
    case measure => simp [intOf]
   ·clear hy hR SK hJs hJ1 s0 s1 s2 s3 z0 z1 z2 z3 z4 z5 z6
    gi_wp2
    refine bodyPost_ret (results_none rfl _ _ _) rfl ?_; exact ⟨⟨_, rfl⟩, .inr ⟨_, ⟨(guide_list a b c d e f h).drop 6, by simp [guide_list]⟩, hJx3⟩⟩
  ·have s0 := czZ SK 24 (.int .i64 h); have s1 := czZ SK 25 (.int .i64 0); have s2 := czZ SK 26 (.int .i64 1); have s3 := czZ SK 27 (.int .i64 1000); have hJ1 := hJ _ _ _ none hJs (World.grownBy_alloc wr (.cells #[.int .i64 h, .int .i64 0, .int .i64 1, .int .i64 1000] 166) none) (fun r e => by cases e); obtain ⟨fn, tmps, assign, body, hy, hR⟩ := hY _ ((h, 0), (1, 1000)) _ hJ1 (by simp [guide_list]); simp only [guide_encs] at hy
   gi_wp2
   refine hR.mono ?_; rintro en W3 (⟨rfl, hJ3, hk3⟩ | ⟨rfl, hJx3⟩)
   ·have SK3 := hk3 _ _ _ _ hg (guide_alloc SK.out _); clear hy hR SK hJs hJ1 s0 s1 s2 s3 z0 z1 z2 z3 z4 z5 z6
    gi_wp2
    go_roundw
    case rel => exact ⟨7, by omega, rfl, by simpa [guide_list] using hJ3, ⟨SK3⟩⟩
    case measure => simp [intOf]
   ·clear hy hR SK hJs hJ1 s0 s1 s2 s3 z0 z1 z2 z3 z4 z5 z6
    gi_wp2
    refine bodyPost_ret (results_none rfl _ _ _) rfl ?_; exact ⟨⟨_, rfl⟩, .inr ⟨_, ⟨(guide_list a b c d e f h).drop 7, by simp [guide_list]⟩, hJx3⟩⟩
  ·clear SK z0 z1 z2 z3 z4 z5 z6
   gi_wp2
   go_end0
   exact ⟨⟨_, rfl⟩, .inl ⟨_, rfl, by simpa [guide_list] using hJs⟩⟩
theorem guide_stops (F : Fence) (n : Nat) (h39 : F.fn 115) (hro : F.round = none) (hn : 1 ≤ n) (g n₀ : Nat) (a b c d e f h : Int) (w : World) (hg : n₀ ≤ w.heap.size) (hb0 : w.heap[g]? = some (.cells #[.int .i64 a, .int .i64 b, .int .i64 c, .int .i64 d, .int .i64 e, .int .i64 f, .int .i64 h] 33 (0, 0))) :
  SeqStopsK F n Tryz.prog 115 #[.pointer (some ⟨g, 0, none⟩)] guide_encs (guide_Kp n₀) (fun ys => ys = guide_list a b c d e f h) (fun pre => pre <+: guide_list a b c d e f h) 7 w := fun l J Jx W hW hJ _ hY h0 =>
 guide_iter F n h39 hro hn l g n₀ a b c d e f h J Jx W hY hJ h0 ((hW.block g (Array.getElem?_eq_some_iff.1 hb0).1).trans hb0) (Nat.le_trans hg hW.size)
theorem guide_Kp_t {n₀ : Nat} {A B C : World} (h1 : guide_Kp n₀ A B) (h2 : guide_Kp n₀ B C) : guide_Kp n₀ A C := fun b cs t fr hb h => h2 b cs t fr hb (h1 b cs t fr hb h)
theorem guide_Kp_b {n₀ B : Nat} (W : World) (l : Nat) (o o' : Obj) (_ : B ≤ l) (hl : W.heap[l]? = some o) (ho : o.isCells = false) (_ : o.isWalk = false) : guide_Kp n₀ W (W.putObj l o') := fun b cs t fr _ h => by
 refine ((grownBy_putObj' W l o').block b (Array.getElem?_eq_some_iff.1 h).1 (fun e => ?_)).trans h
 cases e
 rw [hl] at h
 cases h
 cases ho
theorem guide_Kp_alloc {n₀ : Nat} (W : World) (o : Obj) : guide_Kp n₀ W (W.alloc o) := fun b cs t fr _ h => guide_alloc h o
theorem guide_cells_own {β : Type} (B B0 : Nat) (cs : Array Value) (t : TypeId) (fr : Nat × Nat) : OwnFrom B (fun (_ : β) W => W.heap[B0]? = some (.cells cs t fr)) := fun s X Y row hs hg hrow =>
 (hg.block B0 (Array.getElem?_eq_some_iff.1 hs).1 (fun e' => by obtain ⟨_, o, ho, hc⟩ := hrow B0 e'.symm; rw [hs] at ho; cases ho; cases hc)).trans hs
theorem guide_bounds_in (F : Fence) (n : Nat) (h27 : F.fn 59) (hro : F.round = none) (a b c d e f h : Int) (w : World) :
  CallsIn F n Tryz.prog 59 #[.agg #[.int .i64 a, .int .i64 b, .int .i64 c, .int .i64 d, .int .i64 e, .int .i64 f, .int .i64 h]] w fun en w' => en = .returned (.func (.func 115) #[] #[.pointer (some ⟨w.heap.size, 0, none⟩)]) ∧ w' = w.alloc (.cells #[.int .i64 a, .int .i64 b, .int .i64 c, .int .i64 d, .int .i64 e, .int .i64 f, .int .i64 h] 33) := by
 refine callsIn_of_wp Tryz.func59 rfl h27 ?_ hro; simp only [Tryz.ntmps59, List.size_toArray, List.length_cons, List.length_nil, Nat.reduceAdd, Nat.reduceSub, Array.replicate_succ, Array.replicate_zero, List.push_toArray, List.append_toArray, List.nil_append, List.cons_append]
 gi_wp2
 go_ret
 exact ⟨rfl, rfl⟩
theorem guide_result {tmps : Array Value} {W : World} {g : Nat} {v : Int} (hp : tmps.getD 2 undef = .pointer (some ⟨g, 0, none⟩)) (hc : W.cell? ⟨g, 0, none⟩ = some (.int .i64 v)) : (results Tryz.f25 tmps).run Tryz.prog W = .ok (.int .i64 v) W := by
 have hp' : tmps[2]?.getD undef = .pointer (some ⟨g, 0, none⟩) := by simpa using hp
 simp [results, show Tryz.f25.results = #[.cell 2 26] from rfl, hp', asAddr]
 go_simp
def guide_bad (x : guide_Pair) : Prop := x.1.1 < x.2.1 ∨ x.2.2 < x.1.1
def guide_any (l : List guide_Pair) : Prop := ∃ x ∈ l, guide_bad x
def guide_none (l : List guide_Pair) : Prop := ∀ x ∈ l, ¬ guide_bad x
theorem guide_any_snoc {pre : List guide_Pair} {x : guide_Pair} (h : guide_bad x) : guide_any (pre ++ [x]) := ⟨x, List.mem_append_right _ (List.mem_singleton.2 rfl), h⟩
theorem guide_none_snoc {pre : List guide_Pair} {x : guide_Pair} (hp : guide_none pre) (h : ¬ guide_bad x) : guide_none (pre ++ [x]) := fun y hy => by
 rcases List.mem_append.1 hy with z | z
 ·exact hp y z
 ·rw [List.mem_singleton.1 z]; exact h
theorem guide_any_sub {pre l : List guide_Pair} (h : guide_any pre) (hp : pre <+: l) : guide_any l := by
 obtain ⟨x, hx, hb⟩ := h; exact ⟨x, hp.subset hx, hb⟩
set_option maxRecDepth 100000 in
set_option maxHeartbeats 4000000 in
theorem guide_Check_in (F : Fence) (n : Nat) (h11 : F.fn 25) (h27 : F.fn 59) (h39 : F.fn 115) (hro : F.round = none) (hn : 3 ≤ n) (a b c d e f h v : Int) (hv1 : guide_none (guide_list a b c d e f h) → v = 0) (hv2 : guide_any (guide_list a b c d e f h) → v = 210) (w : World) :
  CallsIn F n Tryz.prog 25 #[.agg #[.int .i64 a, .int .i64 b, .int .i64 c, .int .i64 d, .int .i64 e, .int .i64 f, .int .i64 h]] w fun en w' => en = .returned (.int .i64 v) ∧ Below w.heap.size w w' := by
 have h1 : 1 ≤ n := by omega
 refine callsIn_of_wp_marks Tryz.func25 rfl h11 ?_ hro; simp only [Tryz.ntmps25, List.size_toArray, List.length_cons, List.length_nil, Nat.reduceAdd, Nat.reduceSub, Array.replicate_succ, Array.replicate_zero, List.push_toArray, List.append_toArray, List.nil_append, List.cons_append]
 gi_wp2_with (gi_at_call 59; refine (guide_bounds_in F (n - 1) h27 hro a b c d e f h _).mono ?_; rintro en w' ⟨rfl, rfl⟩)
 have bS := (Boxed.new (w.alloc (.cells #[.int .i64 a, .int .i64 b, .int .i64 c, .int .i64 d, .int .i64 e, .int .i64 f, .int .i64 h] 33)) 26 (.int .i64 0)).alloc (.cells #[.int .i64 a, .int .i64 b, .int .i64 c, .int .i64 d, .int .i64 e, .int .i64 f, .int .i64 h] 33); have bC := World.alloc_heap_new ((w.alloc (.cells #[.int .i64 a, .int .i64 b, .int .i64 c, .int .i64 d, .int .i64 e, .int .i64 f, .int .i64 h] 33)).alloc (.cells #[.int .i64 0] 26)) (.cells #[.int .i64 a, .int .i64 b, .int .i64 c, .int .i64 d, .int .i64 e, .int .i64 f, .int .i64 h] 33); have hB0 : Below w.heap.size w (((w.alloc (.cells #[.int .i64 a, .int .i64 b, .int .i64 c, .int .i64 d, .int .i64 e, .int .i64 f, .int .i64 h] 33)).alloc (.cells #[.int .i64 0] 26)).alloc (.cells #[.int .i64 a, .int .i64 b, .int .i64 c, .int .i64 d, .int .i64 e, .int .i64 f, .int .i64 h] 33)) := (((Below.refl _ w).alloc (Nat.le_refl _) _).alloc (by simp) _).alloc (by simp; omega) _
 have hsz : (((w.alloc (.cells #[.int .i64 a, .int .i64 b, .int .i64 c, .int .i64 d, .int .i64 e, .int .i64 f, .int .i64 h] 33)).alloc (.cells #[.int .i64 0] 26)).alloc (.cells #[.int .i64 a, .int .i64 b, .int .i64 c, .int .i64 d, .int .i64 e, .int .i64 f, .int .i64 h] 33)).heap.size = w.heap.size + 3 := by simp
 simp only [World.size_alloc] at bS bC
 obtain ⟨W0, hW0⟩ : ∃ W0, ((w.alloc (.cells #[.int .i64 a, .int .i64 b, .int .i64 c, .int .i64 d, .int .i64 e, .int .i64 f, .int .i64 h] 33)).alloc (.cells #[.int .i64 0] 26)).alloc (.cells #[.int .i64 a, .int .i64 b, .int .i64 c, .int .i64 d, .int .i64 e, .int .i64 f, .int .i64 h] 33) = W0 := ⟨_, rfl⟩
 rw [hW0] at bS bC hB0 hsz ⊢
 clear hW0; refine wpIn_rangeFunc_ownH hro h1 (gf := 115) (lb := #[.pointer (some ⟨w.heap.size + 1 + 1, 0, none⟩)]) rfl h39 (enters_of Tryz.func115 (by kernel_rfl) rfl)
  (guide_stops F (n - 1) h39 hro (by omega) (w.heap.size + 1 + 1) (w.heap.size + 1 + 1) a b c d e f h W0 (by omega) bC) guide_Kp_t guide_Kp_b (Below.refl _ _) (fun _ => rfl)
  (fun pre W => (Boxed W (w.heap.size + 1) 26 (.int .i64 0) ∧ guide_none pre) ∧ Below w.heap.size w W)
  (fun c pre W => ((c = .ret ∧ guide_any pre) ∧ Boxed W (w.heap.size + 1) 26 (.int .i64 210)) ∧ Below w.heap.size w W)
  (OwnFrom.and (OwnFrom.and (Own.from (boxed_own _ _ _) _) (ownFrom_pure _ _)) (ownFrom_below (Nat.le_refl _) (by omega)))
  (fun c => OwnFrom.and (OwnFrom.and (ownFrom_pure _ _) (Own.from (boxed_own _ _ _) _)) (ownFrom_below (Nat.le_refl _) (by omega)))
  ⟨⟨bS, fun x hx => by cases hx⟩, hB0⟩
  (fun x a' W => ∃ B1 B2, (W.heap[B1]? = some (.cells #[.int .i64 x.1.1, .int .i64 x.1.2] 111 (0, 0)) ∧ W.heap[B2]? = some (.cells #[.int .i64 x.2.1, .int .i64 x.2.2] 111 (0, 0))) ∧ a' = { tmps := #[.agg #[.int .i64 a, .int .i64 b, .int .i64 c, .int .i64 d, .int .i64 e, .int .i64 f, .int .i64 h], .pointer (some ⟨w.heap.size, 0, none⟩), .pointer (some ⟨w.heap.size + 1, 0, none⟩), .pointer (some ⟨B1, 0, none⟩), .pointer (some ⟨B2, 0, none⟩), .agg #[.int .i64 a, .int .i64 b, .int .i64 c, .int .i64 d, .int .i64 e, .int .i64 f, .int .i64 h], .func (.func 115) #[] #[.pointer (some ⟨w.heap.size + 1 + 1, 0, none⟩)], .agg #[.int .i64 x.1.1, .int .i64 x.1.2], .agg #[.int .i64 x.2.1, .int .i64 x.2.2], undef, undef, undef, undef, undef, undef, undef, undef, undef, undef, undef, undef], defers := [] })
  (fun x a' _ X Y row hs hg hr => by obtain ⟨B1, B2, ⟨h1, h2⟩, h3⟩ := hs; exact ⟨B1, B2, ⟨guide_cells_own _ B1 _ _ _ () X Y row h1 hg hr, guide_cells_own _ B2 _ _ _ () X Y row h2 hg hr⟩, h3⟩)
  ?assign ?body ?done ?stop
 case assign =>
  rintro l pre x W K ⟨⟨bS1, hgood⟩, hB1⟩ hK; obtain ⟨⟨p, q⟩, ⟨r, s⟩⟩ := x; simp only [guide_encs]
  gi_wp2
  refine hK _ _ (((KeepsOthers.alloc _ _).trans (KeepsOthers.alloc _ _)).from _) (guide_Kp_t (guide_Kp_alloc _ _) (guide_Kp_alloc _ _)) ⟨⟨(bS1.alloc _).alloc _, hgood⟩, (hB1.alloc hB1.size _).alloc (by have := hB1.size; simp; omega) _⟩ ⟨W.heap.size, W.heap.size + 1, ⟨guide_alloc (World.alloc_heap_new W _) _, ?_⟩, rfl⟩; have := World.alloc_heap_new (W.alloc (.cells #[.int .i64 p, .int .i64 q] 111)) (.cells #[.int .i64 r, .int .i64 s] 111)
  simpa using this
 case body =>
  rintro l pre x a' W hl ⟨r0, hr0⟩ ⟨⟨bS1, hgood⟩, hB1⟩ ⟨B1, B2, ⟨c1, c2⟩, rfl⟩ hlt; obtain ⟨⟨p, q⟩, ⟨r, s⟩⟩ := x; have C1 := Aside0.mk c1; have C2 := Aside0.mk c2; have y0 := czZ C1 0 (.int .i64 p); have y1 := czZ C1 1 (.int .i64 q); have y2 := czZ C2 0 (.int .i64 r); have y3 := czZ C2 1 (.int .i64 s); have cS := bS1.cell; have fS := bS1.frozen; clear c1 c2
  by_cases k1 : p < r
  ·have k1' := decide_eq_true k1
   gi_wp2
   exact ⟨(KeepsOthers.setCell _ _ _).from _, ⟨⟨rfl, guide_any_snoc (Or.inl k1)⟩, bS1.set _⟩, hB1.setCell (p := ⟨w.heap.size + 1, 0, none⟩) (by simp) _⟩
  ·have k1' := decide_eq_false k1
   by_cases k2 : s < p
   ·have k2' := decide_eq_true k2
    gi_wp2
    exact ⟨(KeepsOthers.setCell _ _ _).from _, ⟨⟨rfl, guide_any_snoc (Or.inr k2)⟩, bS1.set _⟩, hB1.setCell (p := ⟨w.heap.size + 1, 0, none⟩) (by simp) _⟩
   ·have k2' := decide_eq_false k2
    have nb : ¬ guide_bad ((p, q), (r, s)) := fun z => z.elim k1 k2
    clear k1 k2
    gi_wp2
    exact ⟨KeepsFrom.refl _ _, fun _ _ _ _ _ h => h, ⟨bS1, guide_none_snoc hgood nb⟩, hB1⟩
 case done =>
  rintro D ys W hD rfl ⟨⟨bS1, hgood⟩, hB1⟩ hK; have e0 := hv1 hgood
  subst e0
  have cS := bS1.cell; have fS := bS1.frozen
  gi_wp2
  refine ⟨by simp, .inl ⟨_, _, rfl, run_takeDeferred ((KeepsOthers.setCell _ _ _).same D _ hK rfl), ?_⟩⟩; refine ⟨_, guide_result rfl ((bS1.set (.int .i64 0)).kept (grownBy_putObj' _ D _) (fun e => by cases e; omega)).cell, rfl, ?_⟩; exact (hB1.setCell (p := ⟨w.heap.size + 1, 0, none⟩) (by simp) _).trans (belowK_b (w := w) (Nat.le_refl _) _ D _ _ (by omega) ((KeepsOthers.setCell _ _ _).same D _ hK rfl) rfl rfl)
 case stop =>
  rintro D c0 pre W hD hp ⟨⟨⟨rfl, hbad⟩, bS1⟩, hB1⟩ hK; have e0 := hv2 (guide_any_sub hbad hp)
  subst e0
  have cS := bS1.cell
  gi_wp2
  refine ⟨by simp, .inl ⟨_, _, rfl, run_takeDeferred hK, ?_⟩⟩; refine ⟨_, guide_result rfl (bS1.kept (grownBy_putObj' _ D _) (fun e => by cases e; omega)).cell, rfl, ?_⟩; exact hB1.trans (belowK_b (w := w) (Nat.le_refl _) _ D _ _ (by omega) hK rfl rfl)
theorem guide_Check_w (a b c d e f h v : Int) (hv1 : guide_none (guide_list a b c d e f h) → v = 0) (hv2 : guide_any (guide_list a b c d e f h) → v = 210) (w : World) :
  Calls Tryz.prog 25 #[.agg #[.int .i64 a, .int .i64 b, .int .i64 c, .int .i64 d, .int .i64 e, .int .i64 f, .int .i64 h]] w fun en w' => en = .returned (.int .i64 v) ∧ Below w.heap.size w w' :=
 (callsIn_wide (n := 3)).1 (guide_Check_in Fence.wide 3 trivial trivial trivial rfl (Nat.le_refl _) a b c d e f h v hv1 hv2 w)
end
theorem guide_Check.calls (a0_0 a0_1 a0_2 a0_3 a0_4 a0_5 a0_6 r : Int) (w : World) (h : guide_Check.f a0_0 a0_1 a0_2 a0_3 a0_4 a0_5 a0_6 = some r) :
  Calls Tryz.prog 25 #[.agg #[.int .i64 a0_0, .int .i64 a0_1, .int .i64 a0_2, .int .i64 a0_3, .int .i64 a0_4, .int .i64 a0_5, .int .i64 a0_6]] w fun e w' => e = .returned (.int .i64 r) ∧ Below w.heap.size w w' := by
 obtain rfl := Option.some.inj h; refine guide_Check_w a0_0 a0_1 a0_2 a0_3 a0_4 a0_5 a0_6 _ (fun hn => Sp.chkQ_ok ?_) (fun ha => Sp.chkQ_bad ?_) w
 ·have m : ∀ x, x ∈ guide_list a0_0 a0_1 a0_2 a0_3 a0_4 a0_5 a0_6 → ¬ guide_bad x := hn; simp only [guide_list, List.mem_cons, List.not_mem_nil, or_false, forall_eq_or_imp, forall_eq, guide_bad] at m
  unfold Sp.cfgOk
  omega
 ·obtain ⟨x, hx, hb⟩ := ha; simp only [guide_list, List.mem_cons, List.not_mem_nil, or_false] at hx
  unfold Sp.cfgOk
  rcases hx with rfl | rfl | rfl | rfl | rfl | rfl | rfl <;> (simp only [guide_bad] at hb; omega)

/-! ### guide_First: function 26 -/
noncomputable def guide_First.f (a0_0 : Int) (a0_1 : Int) (a0_2 : Int) (a0_3 : Int) (a0_4 : Int) (a0_5 : Int) (a0_6 : Int) : Option (Int) := (guide_Check.f a0_0 a0_1 a0_2 a0_3 a0_4 a0_5 a0_6).bind fun t333 => (if t333 = 0 then (some (wrap64 (a0_2 * 65536))) else (some 131072))
set_option maxHeartbeats 8000000 in
set_option maxRecDepth 100000 in
theorem guide_First.calls (a0_0 : Int) (a0_1 : Int) (a0_2 : Int) (a0_3 : Int) (a0_4 : Int) (a0_5 : Int) (a0_6 : Int) (r : Int) (w : World) (h : guide_First.f a0_0 a0_1 a0_2 a0_3 a0_4 a0_5 a0_6 = some r) :
  Calls Tryz.prog 26 #[.agg #[.int .i64 a0_0, .int .i64 a0_1, .int .i64 a0_2, .int .i64 a0_3, .int .i64 a0_4, .int .i64 a0_5, .int .i64 a0_6]] w fun e w' => e = .returned (.int .i64 r) ∧ Below w.heap.size w w' := by
 have hu33 := Tryz.underlying33; have HB := Aside0.mk (Below.refl w.heap.size w); have H : ((guide_Check.f a0_0 a0_1 a0_2 a0_3 a0_4 a0_5 a0_6).bind fun t333 => (if t333 = 0 then (some (wrap64 (a0_2 * 65536))) else (some 131072))) = some r := h; clear h; replace H := Option.bind_eq_some_iff.mp H; obtain ⟨t333, A20, H⟩ := H; replace H : (if t333 = 0 then (some (wrap64 (a0_2 * 65536))) else (some 131072)) = some r := H; have A2 := Aside0.mk A20; clear A20
 by_cases c3 : t333 = 0
 ·rw [if_pos c3] at H
  have c3b0 : (t333 == 0) = true := beq_iff_eq.mpr c3; have c3b1 : (t333 != 0) = false := bne_eq_false_iff_eq.mpr c3; clear c3; obtain rfl := Option.some.inj H
  go_enter Tryz.func26, Tryz.ntmps26
  go_wp2_with (first | ((with_reducible refine gate_dst (N := 1) rfl ?_); refine box_event ?hg (N := 1) ?hd (cs := #[.int .i64 a0_0, .int .i64 a0_1, .int .i64 a0_2, .int .i64 a0_3, .int .i64 a0_4, .int .i64 a0_5, .int .i64 a0_6]) (t := 33) ?hr ?_; (case hd => rfl); (case hg => rfl); (case hr => first | (go_simp; done) | (go_simp; rfl)); intro gb332 hg w4 hbox hb; have BK332 := Aside0.mk (hbox); obtain ⟨GW332, nHB⟩ := geA hg hb; have GE332 := GW332; replace HB := nHB; clear nHB; clear hb hbox hg; have hcz5_0 := czZ BK332 0 (.int .i64 a0_0); have hcz5_1 := czZ BK332 1 (.int .i64 a0_1); have hcz5_2 := czZ BK332 2 (.int .i64 a0_2); have hcz5_3 := czZ BK332 3 (.int .i64 a0_3); have hcz5_4 := czZ BK332 4 (.int .i64 a0_4); have hcz5_5 := czZ BK332 5 (.int .i64 a0_5); have hcz5_6 := czZ BK332 6 (.int .i64 a0_6); have hfz5_0 := blk_frozen BK332.out 0; have hfz5_1 := blk_frozen BK332.out 1; have hfz5_2 := blk_frozen BK332.out 2; have hfz5_3 := blk_frozen BK332.out 3; have hfz5_4 := blk_frozen BK332.out 4; have hfz5_5 := blk_frozen BK332.out 5; have hfz5_6 := blk_frozen BK332.out 6) | ((with_reducible refine gate_callee (f := 25) rfl ?_); refine goesLA_ (some 4) rfl rfl Tryz.func25 rfl #[.agg #[.int .i64 a0_0, .int .i64 a0_1, .int .i64 a0_2, .int .i64 a0_3, .int .i64 a0_4, .int .i64 a0_5, .int .i64 a0_6]] rfl ?_; (with_reducible refine (guide_Check.calls a0_0 a0_1 a0_2 a0_3 a0_4 a0_5 a0_6 t333 _ A2.out).mono ?_); rintro e w6 ⟨rfl, hb⟩; refine ⟨_, rfl, ?_⟩; replace BK332 := bdZ BK332 hb; replace HB := stA hb; clear hb; have hcz7_0 := czZ BK332 0 (.int .i64 a0_0); have hcz7_1 := czZ BK332 1 (.int .i64 a0_1); have hcz7_2 := czZ BK332 2 (.int .i64 a0_2); have hcz7_3 := czZ BK332 3 (.int .i64 a0_3); have hcz7_4 := czZ BK332 4 (.int .i64 a0_4); have hcz7_5 := czZ BK332 5 (.int .i64 a0_5); have hcz7_6 := czZ BK332 6 (.int .i64 a0_6); have hfz7_0 := blk_frozen BK332.out 0; have hfz7_1 := blk_frozen BK332.out 1; have hfz7_2 := blk_frozen BK332.out 2; have hfz7_3 := blk_frozen BK332.out 3; have hfz7_4 := blk_frozen BK332.out 4; have hfz7_5 := blk_frozen BK332.out 5; have hfz7_6 := blk_frozen BK332.out 6))
  go_ret
  exact ⟨by first | rfl | (simp [errW_none, errW_some] <;> rfl) | (simp [*, errW_none, errW_some] <;> rfl), by repeat (first | (with_reducible first | exact HB.out | apply below_alloc | apply pw_below_drewN | apply below_drew1 | refine below_set ?_ GE332.out) | exact HB.out)⟩
 ·rw [if_neg c3] at H
  have c3b0 : (t333 == 0) = false := beq_eq_false_iff_ne.mpr c3; have c3b1 : (t333 != 0) = true := bne_iff_ne.mpr c3; obtain rfl := Option.some.inj H
  go_enter Tryz.func26, Tryz.ntmps26
  go_wp2_with (first | ((with_reducible refine gate_dst (N := 1) rfl ?_); refine box_event ?hg (N := 1) ?hd (cs := #[.int .i64 a0_0, .int .i64 a0_1, .int .i64 a0_2, .int .i64 a0_3, .int .i64 a0_4, .int .i64 a0_5, .int .i64 a0_6]) (t := 33) ?hr ?_; (case hd => rfl); (case hg => rfl); (case hr => first | (go_simp; done) | (go_simp; rfl)); intro gb332 hg w8 hbox hb; have BK332 := Aside0.mk (hbox); obtain ⟨GW332, nHB⟩ := geA hg hb; have GE332 := GW332; replace HB := nHB; clear nHB; clear hb hbox hg; have hcz9_0 := czZ BK332 0 (.int .i64 a0_0); have hcz9_1 := czZ BK332 1 (.int .i64 a0_1); have hcz9_2 := czZ BK332 2 (.int .i64 a0_2); have hcz9_3 := czZ BK332 3 (.int .i64 a0_3); have hcz9_4 := czZ BK332 4 (.int .i64 a0_4); have hcz9_5 := czZ BK332 5 (.int .i64 a0_5); have hcz9_6 := czZ BK332 6 (.int .i64 a0_6); have hfz9_0 := blk_frozen BK332.out 0; have hfz9_1 := blk_frozen BK332.out 1; have hfz9_2 := blk_frozen BK332.out 2; have hfz9_3 := blk_frozen BK332.out 3; have hfz9_4 := blk_frozen BK332.out 4; have hfz9_5 := blk_frozen BK332.out 5; have hfz9_6 := blk_frozen BK332.out 6) | ((with_reducible refine gate_callee (f := 25) rfl ?_); refine goesLA_ (some 4) rfl rfl Tryz.func25 rfl #[.agg #[.int .i64 a0_0, .int .i64 a0_1, .int .i64 a0_2, .int .i64 a0_3, .int .i64 a0_4, .int .i64 a0_5, .int .i64 a0_6]] rfl ?_; (with_reducible refine (guide_Check.calls a0_0 a0_1 a0_2 a0_3 a0_4 a0_5 a0_6 t333 _ A2.out).mono ?_); rintro e w10 ⟨rfl, hb⟩; refine ⟨_, rfl, ?_⟩; replace BK332 := bdZ BK332 hb; replace HB := stA hb; clear hb))
  go_ret
  exact ⟨by first | rfl | (simp [errW_none, errW_some] <;> rfl) | (simp [*, errW_none, errW_some] <;> rfl), by repeat (first | (with_reducible first | exact HB.out | apply below_alloc | apply pw_below_drewN | apply below_drew1 | refine below_set ?_ GE332.out) | exact HB.out)⟩

/-! ### clock_Check: function 61 -/
noncomputable def clock_Check.f (a0 : Int) : Option (Bool) := if a0 ≥ 0 then (some (decide (a0 ≤ 1099511627776))) else (some false)
set_option maxHeartbeats 8000000 in
set_option maxRecDepth 100000 in
theorem clock_Check.calls (a0 : Int) (r : Bool) (w : World) (h : clock_Check.f a0 = some r) :
  Calls Tryz.prog 61 #[.int .i64 a0] w fun e w' => e = .returned (.bool r) ∧ Drawn0 w w' := by
 have H : (if a0 ≥ 0 then (some (decide (a0 ≤ 1099511627776))) else (some false)) = some r := h; clear h
 by_cases c2 : a0 ≥ 0
 ·rw [if_pos c2] at H
  have c2b0 : decide (0 ≤ a0) = true := decide_eq_true c2; clear c2; obtain rfl := Option.some.inj H
  go_enter Tryz.func61, Tryz.ntmps61
  go_wp2
  go_ret
  exact ⟨by first | rfl | (simp; done) | (simp [*]; done), by repeat (first | exact Drawn0.refl _ | apply Drawn0.step)⟩
 ·rw [if_neg c2] at H
  have c2b0 : decide (0 ≤ a0) = false := decide_eq_false c2; clear c2; obtain rfl := Option.some.inj H
  go_enter Tryz.func61, Tryz.ntmps61
  go_wp2
  go_ret
  exact ⟨by first | rfl | (simp; done) | (simp [*]; done), by repeat (first | exact Drawn0.refl _ | apply Drawn0.step)⟩

/-! ### clock_Step: function 33 -/
noncomputable def clock_Step.f (a b : Int) : Option (Int × Int) := Sp.need (Sp.I a ∧ Sp.I b) (some (if 0 ≤ b ∧ b ≤ 1099511627776 then (if b < a then (a, 50) else (b, 0)) else (a, 51)))
theorem clock_Step.eq {a b : Int} (h1 : Sp.I a) (h2 : Sp.I b) : clock_Step.f a b = some (if 0 ≤ b ∧ b ≤ 1099511627776 then (if b < a then (a, 50) else (b, 0)) else (a, 51)) := Sp.need_pos ⟨h1, h2⟩
set_option maxHeartbeats 1000000 in
set_option maxRecDepth 100000 in
theorem clock_Step.walk (a b : Int) (c d : Bool) (HC : Aside0 (clock_Check.f b = some c)) (hd : decide (b < a) = d) (w : World) :
  Calls Tryz.prog 33 #[.int .i64 a, .int .i64 b] w fun e w' => e = .returned (.tuple #[.int .i64 (if c = true then (if d = true then a else b) else a), .int .i64 (if c = true then (if d = true then 50 else 0) else 51)]) ∧ Below w.heap.size w w' := by
 have hmf : ∀ (fn : Fn) (first cap : Array Value) (w : World), (Instr.makeFunc fn first cap).run Tryz.prog w = .ok (.func fn first cap) w := fun _ _ _ _ => rfl
 cases c
 ·go_enter Tryz.func33, Tryz.ntmps33
  go_wp2_with (first | (go_at_call 61; refine (clock_Check.calls b false _ HC.out).mono ?_; rintro e w' ⟨rfl, ⟨nd, rfl⟩⟩) | go_in)
  go_ret2
  exact ⟨rfl, by repeat (first | exact Below.refl _ _ | apply below_alloc | apply pw_below_drewN)⟩
 ·cases d
  ·go_enter Tryz.func33, Tryz.ntmps33
   go_wp2_with (first | (go_at_call 61; refine (clock_Check.calls b true _ HC.out).mono ?_; rintro e w' ⟨rfl, ⟨nd, rfl⟩⟩) | go_in)
   go_ret2
   exact ⟨rfl, by repeat (first | exact Below.refl _ _ | apply below_alloc | apply pw_below_drewN)⟩
  ·go_enter Tryz.func33, Tryz.ntmps33
   go_wp2_with (first | (go_at_call 61; refine (clock_Check.calls b true _ HC.out).mono ?_; rintro e w' ⟨rfl, ⟨nd, rfl⟩⟩) | go_in)
   go_ret2
   exact ⟨rfl, by repeat (first | exact Below.refl _ _ | apply below_alloc | apply pw_below_drewN)⟩
theorem clock_Step.calls (a b r1 r2 : Int) (w : World) (h : clock_Step.f a b = some (r1, r2)) :
  Calls Tryz.prog 33 #[.int .i64 a, .int .i64 b] w fun e w' => e = .returned (.tuple #[.int .i64 r1, .int .i64 r2]) ∧ Below w.heap.size w w' := by
 obtain ⟨hc, h⟩ := Sp.need_some h
 have HC : clock_Check.f b = some (decide (0 ≤ b ∧ b ≤ 1099511627776)) := by
  unfold clock_Check.f
  by_cases h0 : b ≥ 0
  ·simp [h0]
  ·have h1 : ¬ (0 ≤ b ∧ b ≤ 1099511627776) := by omega
   rw [if_neg h0, decide_eq_false h1]
 refine (clock_Step.walk a b _ _ ⟨HC⟩ rfl w).mono ?_; rintro e w' ⟨rfl, hb⟩; refine ⟨?_, hb⟩
 by_cases p : 0 ≤ b ∧ b ≤ 1099511627776 <;> by_cases q : b < a <;> simp [p, q] at h ⊢ <;> simp [h]

/-! ### bucket_Check: function 71 -/
noncomputable def bucket_Check.f (a0_0 : Int) (a0_1 : Int) : Option (Bool) := (clock_Check.f a0_0).bind fun t335 => (if t335 = true then (if a0_1 ≥ 0 then (some (decide (a0_1 ≤ 1152921504606846976))) else (some false)) else (some false))
set_option maxHeartbeats 8000000 in
set_option maxRecDepth 100000 in
theorem bucket_Check.calls (a0_0 : Int) (a0_1 : Int) (r : Bool) (w : World) (h : bucket_Check.f a0_0 a0_1 = some r) :
  Calls Tryz.prog 71 #[.agg #[.int .i64 a0_0, .int .i64 a0_1]] w fun e w' => e = .returned (.bool r) ∧ Below w.heap.size w w' := by
 have hu46 := Tryz.underlying46; have HB := Aside0.mk (Below.refl w.heap.size w); have H : ((clock_Check.f a0_0).bind fun t335 => (if t335 = true then (if a0_1 ≥ 0 then (some (decide (a0_1 ≤ 1152921504606846976))) else (some false)) else (some false))) = some r := h; clear h; replace H := Option.bind_eq_some_iff.mp H; obtain ⟨t335, A20, H⟩ := H; replace H : (if t335 = true then (if a0_1 ≥ 0 then (some (decide (a0_1 ≤ 1152921504606846976))) else (some false)) else (some false)) = some r := H; have A2 := Aside0.mk A20; clear A20
 by_cases c3 : t335 = true
 ·subst c3
  have H1 : (if a0_1 ≥ 0 then (some (decide (a0_1 ≤ 1152921504606846976))) else (some false)) = some r := by rw [if_pos rfl] at H; exact H
  clear H; have H := H1; clear H1
  by_cases c4 : a0_1 ≥ 0
  ·rw [if_pos c4] at H
   have c4b0 : decide (0 ≤ a0_1) = true := decide_eq_true c4; clear c4; obtain rfl := Option.some.inj H
   go_enter Tryz.func71, Tryz.ntmps71
   go_wp2_with (first | ((with_reducible refine gate_dst (N := 1) rfl ?_); refine box_event ?hg (N := 1) ?hd (cs := #[.int .i64 a0_0, .int .i64 a0_1]) (t := 46) ?hr ?_; (case hd => rfl); (case hg => rfl); (case hr => first | (go_simp; done) | (go_simp; rfl)); intro gb334 hg w5 hbox hb; have BK334 := Aside0.mk (hbox); obtain ⟨GW334, nHB⟩ := geA hg hb; have GE334 := GW334; replace HB := nHB; clear nHB; clear hb hbox hg; have hcz6_0 := czZ BK334 0 (.int .i64 a0_0); have hcz6_1 := czZ BK334 1 (.int .i64 a0_1); have hfz6_0 := blk_frozen BK334.out 0; have hfz6_1 := blk_frozen BK334.out 1) | ((with_reducible refine gate_callee (f := 61) rfl ?_); refine goesLA_ (some 5) rfl rfl Tryz.func61 rfl #[.int .i64 a0_0] rfl ?_; (with_reducible refine (clock_Check.calls a0_0 true _ A2.out).mono ?_); rintro e w' ⟨rfl, ⟨nd, rfl⟩⟩; refine ⟨_, rfl, ?_⟩))
   go_ret
   exact ⟨by first | rfl | (simp [errW_none, errW_some] <;> rfl) | (simp [*, errW_none, errW_some] <;> rfl), by repeat (first | (with_reducible first | exact HB.out | apply below_alloc | apply pw_below_drewN | apply below_drew1 | refine below_set ?_ GE334.out) | exact HB.out)⟩
  ·rw [if_neg c4] at H
   have c4b0 : decide (0 ≤ a0_1) = false := decide_eq_false c4; clear c4; obtain rfl := Option.some.inj H
   go_enter Tryz.func71, Tryz.ntmps71
   go_wp2_with (first | ((with_reducible refine gate_dst (N := 1) rfl ?_); refine box_event ?hg (N := 1) ?hd (cs := #[.int .i64 a0_0, .int .i64 a0_1]) (t := 46) ?hr ?_; (case hd => rfl); (case hg => rfl); (case hr => first | (go_simp; done) | (go_simp; rfl)); intro gb334 hg w7 hbox hb; have BK334 := Aside0.mk (hbox); obtain ⟨GW334, nHB⟩ := geA hg hb; have GE334 := GW334; replace HB := nHB; clear nHB; clear hb hbox hg; have hcz8_0 := czZ BK334 0 (.int .i64 a0_0); have hcz8_1 := czZ BK334 1 (.int .i64 a0_1); have hfz8_0 := blk_frozen BK334.out 0; have hfz8_1 := blk_frozen BK334.out 1) | ((with_reducible refine gate_callee (f := 61) rfl ?_); refine goesLA_ (some 5) rfl rfl Tryz.func61 rfl #[.int .i64 a0_0] rfl ?_; (with_reducible refine (clock_Check.calls a0_0 true _ A2.out).mono ?_); rintro e w' ⟨rfl, ⟨nd, rfl⟩⟩; refine ⟨_, rfl, ?_⟩))
   go_ret
   exact ⟨by first | rfl | (simp [errW_none, errW_some] <;> rfl) | (simp [*, errW_none, errW_some] <;> rfl), by repeat (first | (with_reducible first | exact HB.out | apply below_alloc | apply pw_below_drewN | apply below_drew1 | refine below_set ?_ GE334.out) | exact HB.out)⟩
 ·replace c3 := Bool.eq_false_iff.mpr c3
  subst c3
  have H1 : (some false) = some r := by rw [if_neg (show ¬ (false = true) by decide)] at H; exact H
  clear H; have H := H1; clear H1; obtain rfl := Option.some.inj H
  go_enter Tryz.func71, Tryz.ntmps71
  go_wp2_with (first | ((with_reducible refine gate_dst (N := 1) rfl ?_); refine box_event ?hg (N := 1) ?hd (cs := #[.int .i64 a0_0, .int .i64 a0_1]) (t := 46) ?hr ?_; (case hd => rfl); (case hg => rfl); (case hr => first | (go_simp; done) | (go_simp; rfl)); intro gb334 hg w9 hbox hb; have BK334 := Aside0.mk (hbox); obtain ⟨GW334, nHB⟩ := geA hg hb; have GE334 := GW334; replace HB := nHB; clear nHB; clear hb hbox hg; have hcz10_0 := czZ BK334 0 (.int .i64 a0_0); have hcz10_1 := czZ BK334 1 (.int .i64 a0_1); have hfz10_0 := blk_frozen BK334.out 0; have hfz10_1 := blk_frozen BK334.out 1) | ((with_reducible refine gate_callee (f := 61) rfl ?_); refine goesLA_ (some 5) rfl rfl Tryz.func61 rfl #[.int .i64 a0_0] rfl ?_; (with_reducible refine (clock_Check.calls a0_0 false _ A2.out).mono ?_); rintro e w' ⟨rfl, ⟨nd, rfl⟩⟩; refine ⟨_, rfl, ?_⟩))
  go_ret
  exact ⟨by first | rfl | (simp [errW_none, errW_some] <;> rfl) | (simp [*, errW_none, errW_some] <;> rfl), by repeat (first | (with_reducible first | exact HB.out | apply below_alloc | apply pw_below_drewN | apply below_drew1 | refine below_set ?_ GE334.out) | exact HB.out)⟩

/-! ### bucket_CheckS: pure, behind function 71 -/
section
open Go.Proofs.YtfahbgkoldoflaaGreatDoor.Sp
noncomputable def bucket_CheckS.f (t : Int) (h : Int) : Option (Bool) := some (bOk t h)
theorem bucket_CheckS.eq {t : Int} {h : Int}  : bucket_CheckS.f t h = some (bOk t h) := rfl
theorem bucket_Check.main {t : Int} {h : Int}  : bucket_Check.f t h = some (bOk t h) := by
 unfold bucket_Check.f clock_Check.f bOk
 by_cases c1 : 0 ≤ t <;> by_cases c2 : t ≤ 1099511627776 <;> by_cases c3 : 0 ≤ h <;> simp [c1, c2, c3]
end
theorem bucket_CheckS.calls (a0_0 : Int) (a0_1 : Int) (r : Bool) (w : World) (h : bucket_CheckS.f a0_0 a0_1 = some r) :
  Calls Tryz.prog 71 #[.agg #[.int .i64 a0_0, .int .i64 a0_1]] w fun e w' => e = .returned (.bool r) ∧ Below w.heap.size w w' := by
 exact bucket_Check.calls a0_0 a0_1 r w (by rw [bucket_Check.main ]; exact h)

/-! ### bucket_taken: function 73 -/
noncomputable def bucket_taken.f (a0 : Int) : Option (Int) := (safe_ClampS.f a0 0 1099511627776).bind fun t336 => (some t336)
set_option maxHeartbeats 8000000 in
set_option maxRecDepth 100000 in
theorem bucket_taken.calls (a0 : Int) (r : Int) (w : World) (h : bucket_taken.f a0 = some r) :
  Calls Tryz.prog 73 #[.int .i64 a0] w fun e w' => e = .returned (.int .i64 r) ∧ Below w.heap.size w w' := by
 have HB := Aside0.mk (Below.refl w.heap.size w); have H : ((safe_ClampS.f a0 0 1099511627776).bind fun t336 => (some t336)) = some r := h; clear h; replace H := Option.bind_eq_some_iff.mp H; obtain ⟨t336, A20, H⟩ := H; replace H : (some t336) = some r := H; have A2 := Aside0.mk A20; clear A20; obtain rfl := Option.some.inj H
 go_enter Tryz.func73, Tryz.ntmps73
 go_wp2_with (first | ((with_reducible refine gate_callee (f := 22) rfl ?_); refine goesLA_ (some 4) rfl rfl Tryz.func22 rfl #[.int .i64 a0, .int .i64 0, .int .i64 1099511627776] rfl ?_; (with_reducible refine (safe_ClampS.calls a0 0 1099511627776 t336 _ A2.out).mono ?_); rintro e w3 ⟨rfl, hb⟩; refine ⟨_, rfl, ?_⟩; replace HB := stA hb; clear hb))
 go_ret
 exact ⟨by first | rfl | (simp [errW_none, errW_some] <;> rfl) | (simp [*, errW_none, errW_some] <;> rfl), by repeat (first | (with_reducible first | exact HB.out | apply below_alloc | apply pw_below_drewN | apply below_drew1) | exact HB.out)⟩

end Go.Proofs.YtfahbgkoldoflaaGreatDoor.Px
