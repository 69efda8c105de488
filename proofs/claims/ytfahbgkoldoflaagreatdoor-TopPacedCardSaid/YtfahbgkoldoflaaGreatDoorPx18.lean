/- Printed by px.py, over the kit's print. Conditions: none beside the theorems' own. -/
import Derived.Test.YtfahbgkoldoflaaGreatDoorEng0
import Derived.ScopeJumps
import Derived.WalkMore
import Derived.Test.YtfahbgkoldoflaaGreatDoorPx0
import Derived.Test.YtfahbgkoldoflaaGreatDoorPx6
import Derived.Test.YtfahbgkoldoflaaGreatDoorPx12
import Derived.Test.YtfahbgkoldoflaaGreatDoorPx16
import Derived.Test.YtfahbgkoldoflaaGreatDoorPx17
import Derived.Test.YtfahbgkoldoflaaGreatDoorSpec
namespace Go.Proofs.YtfahbgkoldoflaaGreatDoor.Px
open Go.RowKit Go.Proofs.YtfahbgkoldoflaaGreatDoorW.PrintWords Go.Proofs.YtfahbgkoldoflaaGreatDoorW.PrintLast Go.Proofs.YtfahbgkoldoflaaGreatDoorW.PrintMore
attribute [local go_sem] max2_int min2_int max_two min_two max_three min_three max_four min_four
set_option linter.unusedVariables false
set_option linter.unusedSimpArgs false

/-! ### rto_Base: function 146 -/
noncomputable def rto_Base.j0 : Nat → Bool → Bool → Int → Int → Int → Int → Int → Int → Int → Int → Int → Option (Int)
 | 0, _, _, _, _, _, _, _, _, _, _, _ => none
 | k + 1, x12, x423000, x423001, x423002, x424000, x424001, x424002, x424003, x424004, x424005, x424006 => if x12 = true then (some 1000000) else ((rtt_Mean.f x423000 x423001 x423002).bind fun t425 => ((rto_within.f x424003).bind fun t426 => (some (wrap64 (t425 + (mx t426 x423002))))))
noncomputable def rto_Base.f (k : Nat) (a0_0 : Bool) (a0_1 : Int) (a0_2 : Int) (a1_0 : Int) (a1_1 : Int) (a1_2 : Int) (a1_3 : Int) (a1_4 : Int) (a1_5 : Int) (a1_6 : Int) : Option (Int) := if a0_0 = true then ((rtt_Check.f a0_0 a0_1 a0_2).bind fun t424 => (rto_Base.j0 k (!t424) a0_0 a0_1 a0_2 a1_0 a1_1 a1_2 a1_3 a1_4 a1_5 a1_6)) else (rto_Base.j0 k true a0_0 a0_1 a0_2 a1_0 a1_1 a1_2 a1_3 a1_4 a1_5 a1_6)
def rto_Base.T3 : Bool × List (List Nat × List Nat) := (true, [([], []), ([0], [0]), ([], []), ([2], [2]), ([3, 1], [3]), ([], []), ([5], [5]), ([4, 6], [4, 6]), ([1, 7], [1, 7]), ([8, 4, 0, 1, 2, 3, 4, 5, 6, 7, 8], [8])])
def rto_Base.B3 : List Nat := [0, 1, 0, 4, 15, 0, 32, 127, 255, 511]
theorem rto_Base.tab3 : rtab .any (opsOf Tryz.f146 3) = rto_Base.T3 := by kernel_rfl
theorem rto_Base.bits3 : waitsOk rto_Base.T3.2 rto_Base.B3 = true := by kernel_rfl
set_option maxHeartbeats 8000000 in
set_option maxRecDepth 100000 in
theorem rto_Base.calls (k : Nat) (a0_0 : Bool) (a0_1 : Int) (a0_2 : Int) (a1_0 : Int) (a1_1 : Int) (a1_2 : Int) (a1_3 : Int) (a1_4 : Int) (a1_5 : Int) (a1_6 : Int) (r : Int) (w : World) (h : rto_Base.f k a0_0 a0_1 a0_2 a1_0 a1_1 a1_2 a1_3 a1_4 a1_5 a1_6 = some r) :
  Calls Tryz.prog 146 #[.agg #[.bool a0_0, .int .i64 a0_1, .int .i64 a0_2], .agg #[.int .i64 a1_0, .int .i64 a1_1, .int .i64 a1_2, .int .i64 a1_3, .int .i64 a1_4, .int .i64 a1_5, .int .i64 a1_6]] w fun e w' => e = .returned (.int .i64 r) ∧ Below w.heap.size w w' := by
 have hu39 := Tryz.underlying39; have hu33 := Tryz.underlying33; have HB := Aside0.mk (Below.refl w.heap.size w); have H : (if a0_0 = true then ((rtt_Check.f a0_0 a0_1 a0_2).bind fun t424 => (rto_Base.j0 k (!t424) a0_0 a0_1 a0_2 a1_0 a1_1 a1_2 a1_3 a1_4 a1_5 a1_6)) else (rto_Base.j0 k true a0_0 a0_1 a0_2 a1_0 a1_1 a1_2 a1_3 a1_4 a1_5 a1_6)) = some r := h; clear h; have HC3 := Aside0.mk H; clear H
 go_enter Tryz.func146, Tryz.ntmps146
 go_upto_region 1 with (first | ((with_reducible refine gate_dst (N := 2) rfl ?_); refine box_event ?hg (N := 2) ?hd (cs := #[.bool a0_0, .int .i64 a0_1, .int .i64 a0_2]) (t := 39) ?hr ?_; (case hd => rfl); (case hg => rfl); (case hr => first | (go_simp; done) | (go_simp; rfl)); intro gb422 hg w4 hbox hb; have BK422 := Aside0.mk (hbox); obtain ⟨GW422, nHB⟩ := geA hg hb; have GE422 := GW422; replace HB := nHB; clear nHB; clear hb hbox hg) | ((with_reducible refine gate_dst (N := 3) rfl ?_); refine box_event ?hg (N := 3) ?hd (cs := #[.int .i64 a1_0, .int .i64 a1_1, .int .i64 a1_2, .int .i64 a1_3, .int .i64 a1_4, .int .i64 a1_5, .int .i64 a1_6]) (t := 33) ?hr ?_; (case hd => rfl); (case hg => rfl); (case hr => first | (go_simp; done) | (go_simp; rfl)); intro gb423 hg w5 hbox hb; have BK423 := Aside0.mk (hbox); obtain ⟨GW423, nHB⟩ := geA hg hb; have GE423 := GW423; obtain ⟨NB422_423, NB423_422, nBK⟩ := nbA BK422 hg hb; replace BK422 := nBK; clear nBK; replace HB := nHB; clear nHB; clear hb hbox hg))
 (try simp only [Act.put, sA, sB, sC])
 go_cut [12] (fun v12 wc => ∃ (kq : Nat) (x12_2 : Bool), v12 = .bool x12_2 ∧ Aside0 (rto_Base.j0 kq x12_2 a0_0 a0_1 a0_2 a1_0 a1_1 a1_2 a1_3 a1_4 a1_5 a1_6 = some r) ∧ Aside0 (kq ≤ k) ∧ Aside0 (wc.heap[gb422]? = some (.cells #[.bool a0_0, .int .i64 a0_1, .int .i64 a0_2] 39 (0, 0))) ∧ Aside0 (wc.heap[gb423]? = some (.cells #[.int .i64 a1_0, .int .i64 a1_1, .int .i64 a1_2, .int .i64 a1_3, .int .i64 a1_4, .int .i64 a1_5, .int .i64 a1_6] 33 (0, 0))) ∧ Aside0 (Below w.heap.size w wc))
 case first =>
  have H := HC3.out; clear HC3
  by_cases c6 : a0_0 = true
  ·subst c6
   have H1 : ((rtt_Check.f true a0_1 a0_2).bind fun t424 => (rto_Base.j0 k (!t424) true a0_1 a0_2 a1_0 a1_1 a1_2 a1_3 a1_4 a1_5 a1_6)) = some r := by rw [if_pos rfl] at H; exact H
   clear H; have H := H1; clear H1; replace H := Option.bind_eq_some_iff.mp H; obtain ⟨t424, A70, H⟩ := H; replace H : (rto_Base.j0 k (!t424) true a0_1 a0_2 a1_0 a1_1 a1_2 a1_3 a1_4 a1_5 a1_6) = some r := H; have A7 := Aside0.mk A70; clear A70; have H' := Aside0.mk H; clear H; have hnb8 := NB422_423.out; have hnc8 := NB423_422.out; have hcz9_0 := czZ BK422 0 (.bool true); have hcz9_1 := czZ BK422 1 (.int .i64 a0_1); have hcz9_2 := czZ BK422 2 (.int .i64 a0_2); have hfz9_0 := blk_frozen BK422.out 0; have hfz9_1 := blk_frozen BK422.out 1; have hfz9_2 := blk_frozen BK422.out 2
   go_wp2_with (first | (go_at_call 66; (with_reducible refine (rtt_Check.calls true a0_1 a0_2 t424 _ A7.out).mono ?_); rintro e w10 ⟨rfl, hb⟩; replace BK422 := bdZ BK422 hb; replace BK423 := bdZ BK423 hb; replace HB := stA hb; clear hb))
   go_meet
   case rel => exact ⟨_, (!t424), (by first | rfl | (simp; done) | (simp [*]; done)), H', ⟨by first | omega | exact Nat.le_refl _⟩, ⟨by (with_reducible repeat first | apply blk_drewN | apply blk_drew | apply blk_alloc); exact BK422.out⟩, ⟨by (with_reducible repeat first | apply blk_drewN | apply blk_drew | apply blk_alloc); exact BK423.out⟩, ⟨by repeat (first | (with_reducible first | exact HB.out | apply below_alloc | apply pw_below_drewN | apply below_drew1 | refine below_set ?_ (Aside0.out (by assumption))) | exact HB.out)⟩⟩
  ·replace c6 := Bool.eq_false_iff.mpr c6
   subst c6
   have H1 : (rto_Base.j0 k true false a0_1 a0_2 a1_0 a1_1 a1_2 a1_3 a1_4 a1_5 a1_6) = some r := by rw [if_neg (show ¬ (false = true) by decide)] at H; exact H
   clear H; have H := H1; clear H1; have H' := Aside0.mk H; clear H; have hnb11 := NB422_423.out; have hnc11 := NB423_422.out; have hcz12_0 := czZ BK422 0 (.bool false); have hcz12_1 := czZ BK422 1 (.int .i64 a0_1); have hcz12_2 := czZ BK422 2 (.int .i64 a0_2); have hfz12_0 := blk_frozen BK422.out 0; have hfz12_1 := blk_frozen BK422.out 1; have hfz12_2 := blk_frozen BK422.out 2
   go_wp2
   go_meet
   case rel => exact ⟨_, (true), (by first | rfl | (simp; done) | (simp [*]; done)), H', ⟨by first | omega | exact Nat.le_refl _⟩, ⟨by (with_reducible repeat first | apply blk_drewN | apply blk_drew | apply blk_alloc); exact BK422.out⟩, ⟨by (with_reducible repeat first | apply blk_drewN | apply blk_drew | apply blk_alloc); exact BK423.out⟩, ⟨by repeat (first | (with_reducible first | exact HB.out | apply below_alloc | apply pw_below_drewN | apply below_drew1 | refine below_set ?_ (Aside0.out (by assumption))) | exact HB.out)⟩⟩
 case rest =>
  clear HC3
  try clear c1
  try clear p2
  try clear c6
  try clear c8
  try clear c11
  try clear hcz12_0
  try clear hcz12_1
  try clear hcz12_2
  try clear hcz9_0
  try clear hcz9_1
  try clear hcz9_2
  try clear hfz12_0
  try clear hfz12_1
  try clear hfz12_2
  try clear hfz9_0
  try clear hfz9_1
  try clear hfz9_2
  obtain ⟨kq, x12_2, rfl, HA, HJ2, BK422, BK423, HB⟩ := hcut
  cases kq with
  | zero => exact absurd HA.out (by simp [rto_Base.j0])
  | succ kj2 =>
   have H := HA.out; clear HA; simp only [rto_Base.j0] at H
   by_cases c13 : x12_2 = true
   ·subst c13
    have H1 : (some 1000000) = some r := by rw [if_pos rfl] at H; exact H
    clear H; have H := H1; clear H1; obtain rfl := Option.some.inj H
    go_wp2
    go_ret
    exact ⟨by first | rfl | (simp [errW_none, errW_some] <;> rfl) | (simp [*, errW_none, errW_some] <;> rfl), by repeat (first | (with_reducible first | exact HB.out | apply below_alloc | apply pw_below_drewN | apply below_drew1 | refine below_set ?_ (Aside0.out (by assumption))) | exact HB.out)⟩
   ·replace c13 := Bool.eq_false_iff.mpr c13
    subst c13
    have H1 : ((rtt_Mean.f a0_0 a0_1 a0_2).bind fun t425 => ((rto_within.f a1_3).bind fun t426 => (some (wrap64 (t425 + (mx t426 a0_2)))))) = some r := by rw [if_neg (show ¬ (false = true) by decide)] at H; exact H
    clear H; have H := H1; clear H1; replace H := Option.bind_eq_some_iff.mp H; obtain ⟨t425, A140, H⟩ := H; replace H : ((rto_within.f a1_3).bind fun t426 => (some (wrap64 (t425 + (mx t426 a0_2))))) = some r := H; have A14 := Aside0.mk A140; clear A140; replace H := Option.bind_eq_some_iff.mp H; obtain ⟨t426, A150, H⟩ := H; replace H : (some (wrap64 (t425 + (mx t426 a0_2)))) = some r := H; have A15 := Aside0.mk A150; clear A150
    obtain ⟨ji16, hji16⟩ : ∃ j_ : Int, (mx t426 a0_2) = j_ := ⟨_, rfl⟩
    replace H : (some (wrap64 (t425 + (ji16)))) = some r := by first | (rw [hji16] at H; exact H) | (simp only [hji16] at H ⊢; exact H)
    (try rw [hji16] at A14)
    (try rw [hji16] at A15)
    have hji16_ : (if t426 < a0_2 then a0_2 else t426) = ji16 := hji16; obtain rfl := Option.some.inj H
    try go_wp2
    replace BK422 := Aside0.mk (blk_drew BK422.out); replace BK423 := Aside0.mk (blk_drew BK423.out); replace HB := Aside0.mk (below_drew1 HB.out); refine start_ (n := 10) (S := fun w' => w'.cell? ⟨gb422, 0, none⟩ = some (.bool a0_0) ∧ w'.cell? ⟨gb422, 1, none⟩ = some (.int .i64 a0_1) ∧ w'.cell? ⟨gb422, 2, none⟩ = some (.int .i64 a0_2) ∧ w'.cell? ⟨gb423, 0, none⟩ = some (.int .i64 a1_0) ∧ w'.cell? ⟨gb423, 1, none⟩ = some (.int .i64 a1_1) ∧ w'.cell? ⟨gb423, 2, none⟩ = some (.int .i64 a1_2) ∧ w'.cell? ⟨gb423, 3, none⟩ = some (.int .i64 a1_3) ∧ w'.cell? ⟨gb423, 4, none⟩ = some (.int .i64 a1_4) ∧ w'.cell? ⟨gb423, 5, none⟩ = some (.int .i64 a1_5) ∧ w'.cell? ⟨gb423, 6, none⟩ = some (.int .i64 a1_6)) (ds := []) #[N,N,N,N,N,N,N,N,N,N] (by kernel_rfl) rfl rfl ⟨(blk_cell BK422.out 0).trans rfl, (blk_cell BK422.out 1).trans rfl, (blk_cell BK422.out 2).trans rfl, (blk_cell BK423.out 0).trans rfl, (blk_cell BK423.out 1).trans rfl, (blk_cell BK423.out 2).trans rfl, (blk_cell BK423.out 3).trans rfl, (blk_cell BK423.out 4).trans rfl, (blk_cell BK423.out 5).trans rfl, (blk_cell BK423.out 6).trans rfl⟩ (fun hHeld => ?_); refine with_tabW rto_Base.tab3 rto_Base.bits3 (fun HT_ HW_ => ?_)
    generalize wc.drew = w17 at BK422 BK423 HB hHeld ⊢
    refine pureA_ (i := 2) (N := some 15) #[N,N,Y,N,N,N,N,N,N,N] rfl rfl (any_of HT_.out (by kernel_rfl)) ?_
    refine pureA_ (i := 5) (N := some 18) #[N,N,Y,N,N,Y,N,N,N,N] rfl rfl (any_of HT_.out (by kernel_rfl)) ?_
    refine take_ (i := 0) (N := some 13) (v := ?_) (a' := ?_) #[Y,N,Y,N,N,Y,N,N,N,N] rfl rfl (take_ofW HT_.out HW_.out (by kernel_rfl)) (fun _ _ _ h => h) (Or.inl ⟨by rfl, ?_⟩) hHeld ?_ ?_; rotate_left
    ·rintro w' ⟨s0, s1, s2, s3, s4, s5, s6, s7, s8, s9⟩; go_simp
     with_reducible rfl
    rotate_left
    ·simp only [Act.put, sA, sB, sC, i64_w, i32_w]
     rfl
    refine take_ (i := 3) (N := some 16) (v := ?_) (a' := ?_) #[Y,N,Y,Y,N,Y,N,N,N,N] rfl rfl (take_ofW HT_.out HW_.out (by kernel_rfl)) (fun _ _ _ h => h) (Or.inl ⟨by rfl, ?_⟩) hHeld ?_ ?_; rotate_left
    ·rintro w' ⟨s0, s1, s2, s3, s4, s5, s6, s7, s8, s9⟩; go_simp
     with_reducible rfl
    rotate_left
    ·simp only [Act.put, sA, sB, sC, i64_w, i32_w]
     rfl
    refine take_ (i := 6) (N := some 19) (v := ?_) (a' := ?_) #[Y,N,Y,Y,N,Y,Y,N,N,N] rfl rfl (take_ofW HT_.out HW_.out (by kernel_rfl)) (fun _ _ _ h => h) (Or.inl ⟨by rfl, ?_⟩) hHeld ?_ ?_; rotate_left
    ·rintro w' ⟨s0, s1, s2, s3, s4, s5, s6, s7, s8, s9⟩; go_simp
     with_reducible rfl
    rotate_left
    ·simp only [Act.put, sA, sB, sC, i64_w, i32_w]
     rfl
    refine one_ (i := 1) (N := some 14) #[Y,Y,Y,Y,N,Y,Y,N,N,N] rfl rfl (one_of HT_.out (by kernel_rfl)) (by decide) (fun K hK => ?_); refine goesA_ Tryz.func142 rfl #[.agg #[.bool a0_0, .int .i64 a0_1, .int .i64 a0_2]] (by rfl) rfl rfl ?_
    with_reducible refine (rtt_Mean.calls a0_0 a0_1 a0_2 t425 _ A14.out).mono ?_
    rintro e w18 ⟨rfl, hb⟩; refine ⟨_, rfl, ?_⟩; replace BK422 := bbZ BK422 hb; replace BK423 := bbZ BK423 hb; replace HB := Aside0.mk (below_step HB.out hb); clear hb; refine hK.out _ _ ⟨(blk_cell BK422.out 0).trans rfl, (blk_cell BK422.out 1).trans rfl, (blk_cell BK422.out 2).trans rfl, (blk_cell BK423.out 0).trans rfl, (blk_cell BK423.out 1).trans rfl, (blk_cell BK423.out 2).trans rfl, (blk_cell BK423.out 3).trans rfl, (blk_cell BK423.out 4).trans rfl, (blk_cell BK423.out 5).trans rfl, (blk_cell BK423.out 6).trans rfl⟩ (fun hHeld => ?_); clear hK K; refine normA_ (some 14) ?_
    refine one_ (i := 4) (N := some 17) #[Y,Y,Y,Y,Y,Y,Y,N,N,N] rfl rfl (one_of HT_.out (by kernel_rfl)) (by decide) (fun K hK => ?_); refine goesA_ Tryz.func144 rfl #[.int .i64 a1_3] (by rfl) rfl rfl ?_
    with_reducible refine (rto_within.calls a1_3 t426 _ A15.out).mono ?_
    rintro e w19 ⟨rfl, hb⟩; refine ⟨_, rfl, ?_⟩; replace BK422 := bbZ BK422 hb; replace BK423 := bbZ BK423 hb; replace HB := Aside0.mk (below_step HB.out hb); clear hb; refine hK.out _ _ ⟨(blk_cell BK422.out 0).trans rfl, (blk_cell BK422.out 1).trans rfl, (blk_cell BK422.out 2).trans rfl, (blk_cell BK423.out 0).trans rfl, (blk_cell BK423.out 1).trans rfl, (blk_cell BK423.out 2).trans rfl, (blk_cell BK423.out 3).trans rfl, (blk_cell BK423.out 4).trans rfl, (blk_cell BK423.out 5).trans rfl, (blk_cell BK423.out 6).trans rfl⟩ (fun hHeld => ?_); clear hK K; refine normA_ (some 17) ?_
    refine pureA_ (i := 7) (N := some 20) #[Y,Y,Y,Y,Y,Y,Y,Y,N,N] rfl rfl (any_of HT_.out (by kernel_rfl)) ?_
    refine pureA_ (i := 8) (N := some 21) #[Y,Y,Y,Y,Y,Y,Y,Y,Y,N] rfl rfl (any_of HT_.out (by kernel_rfl)) ?_
    refine pureA_ (i := 9) (N := some 4) #[Y,Y,Y,Y,Y,Y,Y,Y,Y,Y] rfl rfl (any_of HT_.out (by kernel_rfl)) ?_
    refine done_ (done_of HT_.out (by kernel_rfl)) ?_
    try go_wp2
    go_ret
    exact ⟨by first | rfl | (simp [errW_none, errW_some] <;> rfl) | (simp only [← hji16]; first | rfl | (simp [errW_none, errW_some] <;> rfl)) | (simp [*, errW_none, errW_some] <;> rfl), by repeat (first | (with_reducible first | exact HB.out | apply below_alloc | apply pw_below_drewN | apply below_drew1 | refine below_set ?_ (Aside0.out (by assumption))) | exact HB.out)⟩

/-! A scope whose label is jumped to from ahead. -/
section
variable {P : Program} {a : Act} {w : World} {Q : Exit → Act → World → Prop} {J : Act → World → Prop}
theorem scopeF_1 {c rest : Code} (l : Nat) (hf : findLabel c l = some rest) (h : c.wp P (Exit.jump l (fun a w => rest.wp P (Exit.jump l (fun _ _ => False) Q) a w) Q) a w) : (Code.scope c).wp P Q a w :=
 wp_scope_jumps l (fun a w => rest.wp P (Exit.jump l (fun _ _ => False) Q) a w) (fun _ _ => 0) hf h (fun a w hJ => wp_mono hJ (fun e a' w' hq => by cases e <;> first | exact hq | exact ⟨hq.1, hq.2.elim⟩))
theorem jumpG_1 {l : Nat} (h : J a w) : Exit.jump l J Q (.goto l) a w := ⟨rfl, h⟩
theorem jumpR_1 {l : Nat} (h : Q .ret a w) : Exit.jump l J Q .ret a w := h
theorem jumpN_1 {l : Nat} (h : Q .normal a w) : Exit.jump l J Q .normal a w := h
end
/-! ### rto_Of: function 101 -/
noncomputable def rto_Of.l0 : Nat → Int → Int → Int → Int → Option (Int)
 | 0, _, _, _, _ => none
 | k + 1, x7, x8, x22, x23 => if x23 < x22 then (if x8 = x7 then (some x8) else (rto_Of.l0 k x7 (mn (wrap64 (2 * x8)) x7) x22 (wrap64 (x23 + 1)))) else (some x8)
noncomputable def rto_Of.f (k : Nat) (a0_0 : Bool) (a0_1 : Int) (a0_2 : Int) (a1_0 : Int) (a1_1 : Int) (a1_2 : Int) (a1_3 : Int) (a1_4 : Int) (a1_5 : Int) (a1_6 : Int) (a2 : Int) : Option (Int) := (rto_within.f a1_5).bind fun t429 => ((rto_Base.f k a0_0 a0_1 a0_2 a1_0 a1_1 a1_2 a1_3 a1_4 a1_5 a1_6).bind fun t430 => ((rto_within.f a1_4).bind fun t431 => (rto_Of.l0 k t429 (mn (mx t430 t431) t429) (mx a2 0) 0)))
def rto_Of.T2 : Bool × List (List Nat × List Nat) := (true, [([], []), ([], []), ([0, 1], [0, 1]), ([], []), ([3], [3]), ([4, 2], [4]), ([2, 5], [2, 5]), ([], []), ([6, 7], [6, 7]), ([8, 5, 0, 1, 2, 3, 4, 5, 6, 7, 8], [8])])
def rto_Of.B2 : List Nat := [0, 0, 3, 0, 8, 31, 63, 0, 255, 511]
theorem rto_Of.tab2 : rtab .any (opsOf Tryz.f101 2) = rto_Of.T2 := by kernel_rfl
theorem rto_Of.bits2 : waitsOk rto_Of.T2.2 rto_Of.B2 = true := by kernel_rfl
set_option maxHeartbeats 8000000 in
set_option maxRecDepth 100000 in
theorem rto_Of.calls (k : Nat) (a0_0 : Bool) (a0_1 : Int) (a0_2 : Int) (a1_0 : Int) (a1_1 : Int) (a1_2 : Int) (a1_3 : Int) (a1_4 : Int) (a1_5 : Int) (a1_6 : Int) (a2 : Int) (r : Int) (w : World) (h : rto_Of.f k a0_0 a0_1 a0_2 a1_0 a1_1 a1_2 a1_3 a1_4 a1_5 a1_6 a2 = some r) :
  Calls Tryz.prog 101 #[.agg #[.bool a0_0, .int .i64 a0_1, .int .i64 a0_2], .agg #[.int .i64 a1_0, .int .i64 a1_1, .int .i64 a1_2, .int .i64 a1_3, .int .i64 a1_4, .int .i64 a1_5, .int .i64 a1_6], .int .i64 a2] w fun e w' => e = .returned (.int .i64 r) ∧ Below w.heap.size w w' := by
 have hu39 := Tryz.underlying39; have hu33 := Tryz.underlying33; have HB := Aside0.mk (Below.refl w.heap.size w); have H : ((rto_within.f a1_5).bind fun t429 => ((rto_Base.f k a0_0 a0_1 a0_2 a1_0 a1_1 a1_2 a1_3 a1_4 a1_5 a1_6).bind fun t430 => ((rto_within.f a1_4).bind fun t431 => (rto_Of.l0 k t429 (mn (mx t430 t431) t429) (mx a2 0) 0)))) = some r := h; clear h; replace H := Option.bind_eq_some_iff.mp H; obtain ⟨t429, A40, H⟩ := H; replace H : ((rto_Base.f k a0_0 a0_1 a0_2 a1_0 a1_1 a1_2 a1_3 a1_4 a1_5 a1_6).bind fun t430 => ((rto_within.f a1_4).bind fun t431 => (rto_Of.l0 k t429 (mn (mx t430 t431) t429) (mx a2 0) 0))) = some r := H; have A4 := Aside0.mk A40; clear A40; replace H := Option.bind_eq_some_iff.mp H; obtain ⟨t430, A50, H⟩ := H; replace H : ((rto_within.f a1_4).bind fun t431 => (rto_Of.l0 k t429 (mn (mx t430 t431) t429) (mx a2 0) 0)) = some r := H; have A5 := Aside0.mk A50; clear A50; replace H := Option.bind_eq_some_iff.mp H; obtain ⟨t431, A60, H⟩ := H; replace H : (rto_Of.l0 k t429 (mn (mx t430 t431) t429) (mx a2 0) 0) = some r := H; have A6 := Aside0.mk A60; clear A60
 obtain ⟨ji7, hji7⟩ : ∃ j_ : Int, (mx t430 t431) = j_ := ⟨_, rfl⟩
 replace H : (rto_Of.l0 k t429 (mn (ji7) t429) (mx a2 0) 0) = some r := by first | (rw [hji7] at H; exact H) | (simp only [hji7] at H ⊢; exact H)
 (try rw [hji7] at A4)
 (try rw [hji7] at A5)
 (try rw [hji7] at A6)
 have hji7_ : (if t430 < t431 then t431 else t430) = ji7 := hji7
 obtain ⟨ji8, hji8⟩ : ∃ j_ : Int, (mn (ji7) t429) = j_ := ⟨_, rfl⟩
 replace H : (rto_Of.l0 k t429 ji8 (mx a2 0) 0) = some r := by first | (rw [hji8] at H; exact H) | (simp only [hji8] at H ⊢; exact H)
 (try rw [hji8] at A4)
 (try rw [hji8] at A5)
 (try rw [hji8] at A6)
 have hji8_ : (if t429 < (ji7) then t429 else (ji7)) = ji8 := hji8
 obtain ⟨ji9, hji9⟩ : ∃ j_ : Int, (mx a2 0) = j_ := ⟨_, rfl⟩
 replace H : (rto_Of.l0 k t429 ji8 ji9 0) = some r := by first | (rw [hji9] at H; exact H) | (simp only [hji9] at H ⊢; exact H)
 (try rw [hji9] at A4)
 (try rw [hji9] at A5)
 (try rw [hji9] at A6)
 (try (have hji9l : 0 ≤ ji9 := by (rw [← hji9]; unfold mx; (repeat' split) <;> omega)))
 (try (have hji9m : 0 ≤ ji9 := by omega))
 have hji9_ : (if a2 < 0 then 0 else a2) = ji9 := hji9; have H' := Aside0.mk H; clear H
 go_enter Tryz.func101, Tryz.ntmps101
 try go_wp2_with (first | (with_reducible refine scopeF_1 0 rfl ?_) | (with_reducible refine wp_label ?_) | (with_reducible refine wp_goto ?_) | (with_reducible refine jumpG_1 ?_) | (with_reducible refine jumpR_1 ?_) | (with_reducible refine jumpN_1 ?_) | ((with_reducible refine gate_dst (N := 3) rfl ?_); refine box_event ?hg (N := 3) ?hd (cs := #[.bool a0_0, .int .i64 a0_1, .int .i64 a0_2]) (t := 39) ?hr ?_; (case hd => rfl); (case hg => rfl); (case hr => first | (go_simp; done) | (go_simp; rfl)); intro gb427 hg w10 hbox hb; have BK427 := Aside0.mk (hbox); obtain ⟨GW427, nHB⟩ := geA hg hb; have GE427 := GW427; replace HB := nHB; clear nHB; clear hb hbox hg) | ((with_reducible refine gate_dst (N := 4) rfl ?_); refine box_event ?hg (N := 4) ?hd (cs := #[.int .i64 a1_0, .int .i64 a1_1, .int .i64 a1_2, .int .i64 a1_3, .int .i64 a1_4, .int .i64 a1_5, .int .i64 a1_6]) (t := 33) ?hr ?_; (case hd => rfl); (case hg => rfl); (case hr => first | (go_simp; done) | (go_simp; rfl)); intro gb428 hg w11 hbox hb; have BK428 := Aside0.mk (hbox); obtain ⟨GW428, nHB⟩ := geA hg hb; have GE428 := GW428; obtain ⟨NB427_428, NB428_427, nBK⟩ := nbA BK427 hg hb; replace BK427 := nBK; clear nBK; replace HB := nHB; clear nHB; clear hb hbox hg; have hnb12 := NB428_427.out; have hnc12 := NB427_428.out; have hcz13_0 := czZ BK428 0 (.int .i64 a1_0); have hcz13_1 := czZ BK428 1 (.int .i64 a1_1); have hcz13_2 := czZ BK428 2 (.int .i64 a1_2); have hcz13_3 := czZ BK428 3 (.int .i64 a1_3); have hcz13_4 := czZ BK428 4 (.int .i64 a1_4); have hcz13_5 := czZ BK428 5 (.int .i64 a1_5); have hcz13_6 := czZ BK428 6 (.int .i64 a1_6); have hfz13_0 := blk_frozen BK428.out 0; have hfz13_1 := blk_frozen BK428.out 1; have hfz13_2 := blk_frozen BK428.out 2; have hfz13_3 := blk_frozen BK428.out 3; have hfz13_4 := blk_frozen BK428.out 4; have hfz13_5 := blk_frozen BK428.out 5; have hfz13_6 := blk_frozen BK428.out 6) | ((with_reducible refine gate_callee (f := 144) rfl ?_); refine goesLA_ (some 11) rfl rfl Tryz.func144 rfl #[.int .i64 a1_5] rfl ?_; (with_reducible refine (rto_within.calls a1_5 t429 _ A4.out).mono ?_); rintro e w14 ⟨rfl, hb⟩; refine ⟨_, rfl, ?_⟩; replace BK427 := bdZ BK427 hb; replace BK428 := bdZ BK428 hb; replace HB := stA hb; clear hb))
 replace BK427 := Aside0.mk (blk_drew BK427.out); replace BK428 := Aside0.mk (blk_drew BK428.out); replace HB := Aside0.mk (below_drew1 HB.out); refine start_ (n := 10) (S := fun w' => w'.cell? ⟨gb427, 0, none⟩ = some (.bool a0_0) ∧ w'.cell? ⟨gb427, 1, none⟩ = some (.int .i64 a0_1) ∧ w'.cell? ⟨gb427, 2, none⟩ = some (.int .i64 a0_2) ∧ w'.cell? ⟨gb428, 0, none⟩ = some (.int .i64 a1_0) ∧ w'.cell? ⟨gb428, 1, none⟩ = some (.int .i64 a1_1) ∧ w'.cell? ⟨gb428, 2, none⟩ = some (.int .i64 a1_2) ∧ w'.cell? ⟨gb428, 3, none⟩ = some (.int .i64 a1_3) ∧ w'.cell? ⟨gb428, 4, none⟩ = some (.int .i64 a1_4) ∧ w'.cell? ⟨gb428, 5, none⟩ = some (.int .i64 a1_5) ∧ w'.cell? ⟨gb428, 6, none⟩ = some (.int .i64 a1_6)) (ds := []) #[N,N,N,N,N,N,N,N,N,N] (by kernel_rfl) rfl rfl ⟨(blk_cell BK427.out 0).trans rfl, (blk_cell BK427.out 1).trans rfl, (blk_cell BK427.out 2).trans rfl, (blk_cell BK428.out 0).trans rfl, (blk_cell BK428.out 1).trans rfl, (blk_cell BK428.out 2).trans rfl, (blk_cell BK428.out 3).trans rfl, (blk_cell BK428.out 4).trans rfl, (blk_cell BK428.out 5).trans rfl, (blk_cell BK428.out 6).trans rfl⟩ (fun hHeld => ?_); refine with_tabW rto_Of.tab2 rto_Of.bits2 (fun HT_ HW_ => ?_)
 generalize w14.drew = w15 at BK427 BK428 HB hHeld ⊢
 refine pureA_ (i := 3) (N := some 15) #[N,N,N,Y,N,N,N,N,N,N] rfl rfl (any_of HT_.out (by kernel_rfl)) ?_
 refine pureA_ (i := 7) (N := some 19) #[N,N,N,Y,N,N,N,Y,N,N] rfl rfl (any_of HT_.out (by kernel_rfl)) ?_
 refine take_ (i := 0) (N := some 12) (v := ?_) (a' := ?_) #[Y,N,N,Y,N,N,N,Y,N,N] rfl rfl (take_ofW HT_.out HW_.out (by kernel_rfl)) (fun _ _ _ h => h) (Or.inl ⟨by rfl, ?_⟩) hHeld ?_ ?_; rotate_left
 ·rintro w' ⟨s0, s1, s2, s3, s4, s5, s6, s7, s8, s9⟩; go_simp
  with_reducible rfl
 rotate_left
 ·simp only [Act.put, sA, sB, sC, i64_w, i32_w]
  rfl
 refine take_ (i := 1) (N := some 13) (v := ?_) (a' := ?_) #[Y,Y,N,Y,N,N,N,Y,N,N] rfl rfl (take_ofW HT_.out HW_.out (by kernel_rfl)) (fun _ _ _ h => h) (Or.inl ⟨by rfl, ?_⟩) hHeld ?_ ?_; rotate_left
 ·rintro w' ⟨s0, s1, s2, s3, s4, s5, s6, s7, s8, s9⟩; go_simp
  with_reducible rfl
 rotate_left
 ·simp only [Act.put, sA, sB, sC, i64_w, i32_w]
  rfl
 refine take_ (i := 4) (N := some 16) (v := ?_) (a' := ?_) #[Y,Y,N,Y,Y,N,N,Y,N,N] rfl rfl (take_ofW HT_.out HW_.out (by kernel_rfl)) (fun _ _ _ h => h) (Or.inl ⟨by rfl, ?_⟩) hHeld ?_ ?_; rotate_left
 ·rintro w' ⟨s0, s1, s2, s3, s4, s5, s6, s7, s8, s9⟩; go_simp
  with_reducible rfl
 rotate_left
 ·simp only [Act.put, sA, sB, sC, i64_w, i32_w]
  rfl
 refine one_ (i := 2) (N := some 14) #[Y,Y,Y,Y,Y,N,N,Y,N,N] rfl rfl (one_of HT_.out (by kernel_rfl)) (by decide) (fun K hK => ?_); refine goesA_ Tryz.func146 rfl #[.agg #[.bool a0_0, .int .i64 a0_1, .int .i64 a0_2], .agg #[.int .i64 a1_0, .int .i64 a1_1, .int .i64 a1_2, .int .i64 a1_3, .int .i64 a1_4, .int .i64 a1_5, .int .i64 a1_6]] (by rfl) rfl rfl ?_
 with_reducible refine (rto_Base.calls k a0_0 a0_1 a0_2 a1_0 a1_1 a1_2 a1_3 a1_4 a1_5 a1_6 t430 _ A5.out).mono ?_
 rintro e w16 ⟨rfl, hb⟩; refine ⟨_, rfl, ?_⟩; replace BK427 := bbZ BK427 hb; replace BK428 := bbZ BK428 hb; replace HB := Aside0.mk (below_step HB.out hb); clear hb; refine hK.out _ _ ⟨(blk_cell BK427.out 0).trans rfl, (blk_cell BK427.out 1).trans rfl, (blk_cell BK427.out 2).trans rfl, (blk_cell BK428.out 0).trans rfl, (blk_cell BK428.out 1).trans rfl, (blk_cell BK428.out 2).trans rfl, (blk_cell BK428.out 3).trans rfl, (blk_cell BK428.out 4).trans rfl, (blk_cell BK428.out 5).trans rfl, (blk_cell BK428.out 6).trans rfl⟩ (fun hHeld => ?_); clear hK K; refine normA_ (some 14) ?_
 refine one_ (i := 5) (N := some 17) #[Y,Y,Y,Y,Y,Y,N,Y,N,N] rfl rfl (one_of HT_.out (by kernel_rfl)) (by decide) (fun K hK => ?_); refine goesA_ Tryz.func144 rfl #[.int .i64 a1_4] (by rfl) rfl rfl ?_
 with_reducible refine (rto_within.calls a1_4 t431 _ A6.out).mono ?_
 rintro e w17 ⟨rfl, hb⟩; refine ⟨_, rfl, ?_⟩; replace BK427 := bbZ BK427 hb; replace BK428 := bbZ BK428 hb; replace HB := Aside0.mk (below_step HB.out hb); clear hb; refine hK.out _ _ ⟨(blk_cell BK427.out 0).trans rfl, (blk_cell BK427.out 1).trans rfl, (blk_cell BK427.out 2).trans rfl, (blk_cell BK428.out 0).trans rfl, (blk_cell BK428.out 1).trans rfl, (blk_cell BK428.out 2).trans rfl, (blk_cell BK428.out 3).trans rfl, (blk_cell BK428.out 4).trans rfl, (blk_cell BK428.out 5).trans rfl, (blk_cell BK428.out 6).trans rfl⟩ (fun hHeld => ?_); clear hK K; refine normA_ (some 17) ?_
 refine pureA_ (i := 6) (N := some 18) #[Y,Y,Y,Y,Y,Y,Y,Y,N,N] rfl rfl (any_of HT_.out (by kernel_rfl)) ?_
 refine pureA_ (i := 8) (N := some 20) #[Y,Y,Y,Y,Y,Y,Y,Y,Y,N] rfl rfl (any_of HT_.out (by kernel_rfl)) ?_
 refine pureA_ (i := 9) (N := some 8) #[Y,Y,Y,Y,Y,Y,Y,Y,Y,Y] rfl rfl (any_of HT_.out (by kernel_rfl)) ?_
 refine done_ (done_of HT_.out (by kernel_rfl)) ?_
 try go_wp2_with (first | (with_reducible refine wp_label ?_) | (with_reducible refine jumpG_1 ?_) | (with_reducible refine jumpR_1 ?_) | (with_reducible refine jumpN_1 ?_))
 go_loopg [8, 23] k (fun kq v8 v23 w' => ∃ (x8_1 : Int) (x23_1 : Int), v8 = .int .i64 x8_1 ∧ v23 = .int .i64 x23_1 ∧ Aside0 (rto_Of.l0 kq t429 x8_1 ji9 x23_1 = some r) ∧ Aside0 (kq ≤ k) ∧ Aside0 (w'.heap[gb427]? = some (.cells #[.bool a0_0, .int .i64 a0_1, .int .i64 a0_2] 39 (0, 0))) ∧ Aside0 (w'.heap[gb428]? = some (.cells #[.int .i64 a1_0, .int .i64 a1_1, .int .i64 a1_2, .int .i64 a1_3, .int .i64 a1_4, .int .i64 a1_5, .int .i64 a1_6] 33 (0, 0))) ∧ Aside0 (Below w.heap.size w w'))
 case atStart => exact ⟨(ji8), (0), (by first | rfl | (simp; done) | (simp only [← hji8] <;> (first | rfl | simp)) | (simp [*]; done)), (by first | rfl | (simp; done) | (simp [*]; done)), H', ⟨Nat.le_refl _⟩, ⟨by (with_reducible repeat first | apply blk_drewN | apply blk_drew | apply blk_alloc); exact BK427.out⟩, ⟨by (with_reducible repeat first | apply blk_drewN | apply blk_drew | apply blk_alloc); exact BK428.out⟩, ⟨by repeat (first | (with_reducible first | exact HB.out | apply below_alloc | apply pw_below_drewN | apply below_drew1 | refine below_set ?_ (Aside0.out (by assumption))) | exact HB.out)⟩⟩
 case round =>
  clear H'
  try clear c1
  try clear p2
  try clear c10
  try clear c12
  try clear c14
  try clear hcz13_0
  try clear hcz13_1
  try clear hcz13_2
  try clear hcz13_3
  try clear hcz13_4
  try clear hcz13_5
  try clear hcz13_6
  try clear hfz13_0
  try clear hfz13_1
  try clear hfz13_2
  try clear hfz13_3
  try clear hfz13_4
  try clear hfz13_5
  try clear hfz13_6
  obtain ⟨x8_1, x23_1, rfl, rfl, HA, HK1, BK427, BK428, HB⟩ := hrel
  cases gk with
  | zero => exact absurd HA.out (by simp [rto_Of.l0])
  | succ k1 =>
   have H := HA.out; clear HA; simp only [rto_Of.l0] at H
   by_cases c18 : x23_1 < ji9
   ·rw [if_pos c18] at H
    have c18b0 : decide (x23_1 < ji9) = true := decide_eq_true c18; clear c18
    by_cases c19 : x8_1 = t429
    ·rw [if_pos c19] at H
     have c19b0 : (x8_1 == t429) = true := beq_iff_eq.mpr c19; have c19b1 : (x8_1 != t429) = false := bne_eq_false_iff_eq.mpr c19; clear c19; obtain rfl := Option.some.inj H
     go_wp2_with (first | (with_reducible refine wp_label ?_) | (with_reducible refine jumpR_1 ?_) | (with_reducible refine jumpN_1 ?_))
     (try with_reducible refine jumpR_1 ?_); go_ret
     exact ⟨by first | rfl | (simp [errW_none, errW_some] <;> rfl) | (simp only [← hji7, ← hji8, ← hji9]; first | rfl | (simp [errW_none, errW_some] <;> rfl)) | (simp [*, errW_none, errW_some] <;> rfl), by repeat (first | (with_reducible first | exact HB.out | apply below_alloc | apply pw_below_drewN | apply below_drew1 | refine below_set ?_ (Aside0.out (by assumption))) | exact HB.out)⟩
    ·rw [if_neg c19] at H
     have c19b0 : (x8_1 == t429) = false := beq_eq_false_iff_ne.mpr c19; have c19b1 : (x8_1 != t429) = true := bne_iff_ne.mpr c19
     obtain ⟨ji20, hji20⟩ : ∃ j_ : Int, (mn (wrap64 (2 * x8_1)) t429) = j_ := ⟨_, rfl⟩
     replace H : (rto_Of.l0 k1 t429 ji20 ji9 (wrap64 (x23_1 + 1))) = some r := by first | (rw [hji20] at H; exact H) | (simp only [hji20] at H ⊢; exact H)
     have hji20_ : (if t429 < (wrap64 (2 * x8_1)) then t429 else (wrap64 (2 * x8_1))) = ji20 := hji20; have H' := Aside0.mk H; clear H
     go_wp2_with (first | (with_reducible refine wp_label ?_) | (with_reducible refine jumpR_1 ?_) | (with_reducible refine jumpN_1 ?_))
     go_roundg k1
     case measure => have := HK1.out; omega
     case rel => exact ⟨(ji20), (wrap64 (x23_1 + 1)), (by first | rfl | (simp; done) | (simp only [← hji20] <;> (first | rfl | simp)) | (simp [*]; done)), (by first | rfl | (simp; done) | (simp [*]; done)), H', ⟨by have := HK1.out; omega⟩, ⟨by (with_reducible repeat first | apply blk_drewN | apply blk_drew | apply blk_alloc); exact BK427.out⟩, ⟨by (with_reducible repeat first | apply blk_drewN | apply blk_drew | apply blk_alloc); exact BK428.out⟩, ⟨by repeat (first | (with_reducible first | exact HB.out | apply below_alloc | apply pw_below_drewN | apply below_drew1 | refine below_set ?_ (Aside0.out (by assumption))) | exact HB.out)⟩⟩
   ·rw [if_neg c18] at H
    have c18b0 : decide (x23_1 < ji9) = false := decide_eq_false c18; clear c18; obtain rfl := Option.some.inj H
    go_wp2_with (first | (with_reducible refine wp_label ?_) | (with_reducible refine jumpR_1 ?_) | (with_reducible refine jumpN_1 ?_))
    (try with_reducible refine jumpR_1 ?_); go_ret
    exact ⟨by first | rfl | (simp [errW_none, errW_some] <;> rfl) | (simp only [← hji7, ← hji8, ← hji9]; first | rfl | (simp [errW_none, errW_some] <;> rfl)) | (simp [*, errW_none, errW_some] <;> rfl), by repeat (first | (with_reducible first | exact HB.out | apply below_alloc | apply pw_below_drewN | apply below_drew1 | refine below_set ?_ (Aside0.out (by assumption))) | exact HB.out)⟩

/-! ### rto_Back: function 96 -/
noncomputable def rto_Back.f (k : Nat) (a0_0 : Bool) (a0_1 : Int) (a0_2 : Int) (a1_0 : Int) (a1_1 : Int) (a1_2 : Int) (a1_3 : Int) (a1_4 : Int) (a1_5 : Int) (a1_6 : Int) (a2 : Int) : Option (Int) := if a2 < 0 then (some 0) else ((rto_Of.f k a0_0 a0_1 a0_2 a1_0 a1_1 a1_2 a1_3 a1_4 a1_5 a1_6 a2).bind fun t434 => ((rto_within.f a1_5).bind fun t435 => (if t434 = t435 then (some a2) else (some (wrap64 (a2 + 1))))))
set_option maxHeartbeats 4000000 in
set_option maxRecDepth 100000 in
theorem rto_Back.calls (k : Nat) (a0_0 : Bool) (a0_1 : Int) (a0_2 : Int) (a1_0 : Int) (a1_1 : Int) (a1_2 : Int) (a1_3 : Int) (a1_4 : Int) (a1_5 : Int) (a1_6 : Int) (a2 : Int) (r : Int) (w : World) (h : rto_Back.f k a0_0 a0_1 a0_2 a1_0 a1_1 a1_2 a1_3 a1_4 a1_5 a1_6 a2 = some r) :
  Calls Tryz.prog 96 #[.agg #[.bool a0_0, .int .i64 a0_1, .int .i64 a0_2], .agg #[.int .i64 a1_0, .int .i64 a1_1, .int .i64 a1_2, .int .i64 a1_3, .int .i64 a1_4, .int .i64 a1_5, .int .i64 a1_6], .int .i64 a2] w fun e w' => e = .returned (.int .i64 r) ∧ Below w.heap.size w w' := by
  have H := Aside0.mk (Bx.start w)
  by_cases p1 : a2 < 0
  · obtain rfl : (0 : Int) = r := Option.some.inj ((if_pos p1).symm.trans h)
    have c1 := decide_eq_true p1
    clear p1 h
    go_enter Tryz.func96, Tryz.ntmps96
    go_wp2_with (first
      | ((with_reducible refine gate_dst (N := 3) rfl ?_); refine bxB 3 39 (.tmp 0) H ?_; clear H; intro b3 _ H)
      | ((with_reducible refine gate_dst (N := 4) rfl ?_); refine bxB 4 33 (.tmp 1) H ?_; clear H; intro b4 _ H)
      | fail)
    go_ret
    exact ⟨rfl, H.out.lo⟩
  have h := (if_neg p1).symm.trans h
  obtain ⟨t, hT, h⟩ := Option.bind_eq_some_iff.1 h
  obtain ⟨u, hU, h⟩ := Option.bind_eq_some_iff.1 h
  have HT := Aside0.mk hT
  have HU := Aside0.mk hU
  have c1 := decide_eq_false p1
  clear p1 hT hU
  go_enter Tryz.func96, Tryz.ntmps96
  go_upto_region 3 with (first
    | ((with_reducible refine gate_dst (N := 3) rfl ?_); refine bxB 3 39 (.tmp 0) H ?_; clear H; intro b3 _ H)
    | ((with_reducible refine gate_dst (N := 4) rfl ?_); refine bxB 4 33 (.tmp 1) H ?_; clear H; intro b4 _ H)
    | fail)
  refine rgB #[N,N,N,N,N,N,N,N] [] H ?_; clear H; intro _ H
  refine rB 0 (some 9) #[Y,N,N,N,N,N,N,N] 0 Tryz.underlying39 H ?_
  refine rB 1 (some 10) #[Y,Y,N,N,N,N,N,N] 1 Tryz.underlying33 H ?_
  refine pG 2 (some 11) #[Y,Y,Y,N,N,N,N,N] ?_
  refine pG 4 (some 13) #[Y,Y,Y,N,Y,N,N,N] ?_
  refine lB (v := .int .i64 a1_5) 5 (some 14) #[Y,Y,Y,N,Y,Y,N,N] 1 5 l3 H ?_
  refine cB 3 (some 12) #[Y,Y,Y,Y,Y,Y,N,N] Tryz.func101 H (rto_Of.calls k a0_0 a0_1 a0_2 a1_0 a1_1 a1_2 a1_3 a1_4 a1_5 a1_6 a2 t _ HT.out) ?_; clear H; intro _ H
  refine cB 6 (some 15) #[Y,Y,Y,Y,Y,Y,Y,N] Tryz.func144 H ((rto_within.calls a1_5 u _ HU.out).mono fun e w' h => ⟨h.1, by first | exact h.2 | (obtain ⟨_, n, rfl⟩ := h; exact pw_below_drewN (Below.refl _ _) n)⟩) ?_; clear H; intro _ H
  by_cases p2 : t = u
  · obtain rfl : a2 = r := Option.some.inj ((if_pos p2).symm.trans h)
    have c2 : (t == u) = true := beq_iff_eq.mpr p2
    clear p2 h
    refine pG (v := .bool true) 7 (some 16) #[Y,Y,Y,Y,Y,Y,Y,Y] ?_ (hy := Or.inl ⟨by rfl, fun w' => by go_simp⟩)
    refine done_ (by kernel_rfl) ?_
    go_wp2
    go_ret
    exact ⟨rfl, H.out.lo⟩
  · obtain rfl : wrap64 (a2 + 1) = r := Option.some.inj ((if_neg p2).symm.trans h)
    have c2 : (t == u) = false := beq_eq_false_iff_ne.mpr p2
    clear p2 h
    refine pG (v := .bool false) 7 (some 16) #[Y,Y,Y,Y,Y,Y,Y,Y] ?_ (hy := Or.inl ⟨by rfl, fun w' => by go_simp⟩)
    refine done_ (by kernel_rfl) ?_
    go_wp2
    go_ret
    exact ⟨rfl, H.out.lo⟩

/-! ### cut_of: function 167 -/
noncomputable def cut_of.f (a0 : Int) : Option (Int) := (safe_ClampS.f a0 131072 68719476736).bind fun t436 => (some t436)
set_option maxHeartbeats 8000000 in
set_option maxRecDepth 100000 in
theorem cut_of.calls (a0 : Int) (r : Int) (w : World) (h : cut_of.f a0 = some r) :
  Calls Tryz.prog 167 #[.int .i64 a0] w fun e w' => e = .returned (.int .i64 r) ∧ Below w.heap.size w w' := by
 have HB := Aside0.mk (Below.refl w.heap.size w); have H : ((safe_ClampS.f a0 131072 68719476736).bind fun t436 => (some t436)) = some r := h; clear h; replace H := Option.bind_eq_some_iff.mp H; obtain ⟨t436, A20, H⟩ := H; replace H : (some t436) = some r := H; have A2 := Aside0.mk A20; clear A20; obtain rfl := Option.some.inj H
 go_enter Tryz.func167, Tryz.ntmps167
 go_wp2_with (first | ((with_reducible refine gate_callee (f := 22) rfl ?_); refine goesLA_ (some 4) rfl rfl Tryz.func22 rfl #[.int .i64 a0, .int .i64 131072, .int .i64 68719476736] rfl ?_; (with_reducible refine (safe_ClampS.calls a0 131072 68719476736 t436 _ A2.out).mono ?_); rintro e w3 ⟨rfl, hb⟩; refine ⟨_, rfl, ?_⟩; replace HB := stA hb; clear hb))
 go_ret
 exact ⟨by first | rfl | (simp [errW_none, errW_some] <;> rfl) | (simp [*, errW_none, errW_some] <;> rfl), by repeat (first | (with_reducible first | exact HB.out | apply below_alloc | apply pw_below_drewN | apply below_drew1) | exact HB.out)⟩

/-! ### cut_ofS: pure, behind function 167 -/
noncomputable def cut_ofS.f (a : Int) : Option Int := Sp.need (Sp.I a) (some (Sp.win a))
theorem cut_ofS.eq {a : Int} (h1 : Sp.I a) : cut_ofS.f a = some (Sp.win a) := Sp.need_pos h1
section
open Go.Proofs.YtfahbgkoldoflaaGreatDoor.Sp
theorem cut_of.main {a : Int} (h1 : Sp.I a) : cut_of.f a = some (Sp.win a) := by
 unfold cut_of.f
 rw [safe_ClampS.eq h1 (by omega) (by omega)]
 rfl
end
theorem cut_ofS.calls (a r : Int) (w : World) (h : cut_ofS.f a = some r) :
  Calls Tryz.prog 167 #[.int .i64 a] w fun e w' => e = .returned (.int .i64 r) ∧ Below w.heap.size w w' := by
 obtain ⟨hc, h⟩ := Sp.need_some h; have h1 := hc; exact cut_of.calls a r w (by rw [cut_of.main h1]; exact h)

/-! ### cut_window_tenths: function 175 -/
noncomputable def cut_window_tenths.f (a0 : Int) (a1 : Int) : Option (Int) := (frac_FloorS.f a0 a1 10).bind fun bt437 => ((cut_ofS.f bt437.1).bind fun t439 => (some t439))
set_option maxHeartbeats 8000000 in
set_option maxRecDepth 100000 in
theorem cut_window_tenths.calls (a0 : Int) (a1 : Int) (r : Int) (w : World) (h : cut_window_tenths.f a0 a1 = some r) :
  Calls Tryz.prog 175 #[.int .i64 a0, .int .i64 a1] w fun e w' => e = .returned (.int .i64 r) ∧ Below w.heap.size w w' := by
 have HB := Aside0.mk (Below.refl w.heap.size w); have H : ((frac_FloorS.f a0 a1 10).bind fun bt437 => ((cut_ofS.f bt437.1).bind fun t439 => (some t439))) = some r := h; clear h; replace H := Option.bind_eq_some_iff.mp H; obtain ⟨⟨t437, t438⟩, A30, H⟩ := H; replace H : ((cut_ofS.f t437).bind fun t439 => (some t439)) = some r := H; have A3 := Aside0.mk A30; clear A30; replace H := Option.bind_eq_some_iff.mp H; obtain ⟨t439, A40, H⟩ := H; replace H : (some t439) = some r := H; have A4 := Aside0.mk A40; clear A40; obtain rfl := Option.some.inj H
 go_enter Tryz.func175, Tryz.ntmps175
 go_wp2_with (first | ((with_reducible refine gate_callee (f := 45) rfl ?_); refine goesLA_ (some 10) rfl rfl Tryz.func45 rfl #[.int .i64 a0, .int .i64 a1, .int .i64 10] rfl ?_; (with_reducible refine (frac_FloorS.calls a0 a1 10 t437 t438 _ A3.out).mono ?_); rintro e w5 ⟨rfl, hb⟩; refine ⟨_, rfl, ?_⟩; replace HB := stA hb; clear hb) | ((with_reducible refine gate_callee (f := 167) rfl ?_); refine goesLA_ (some 14) rfl rfl Tryz.func167 rfl #[.int .i64 t437] rfl ?_; (with_reducible refine (cut_ofS.calls t437 t439 _ A4.out).mono ?_); rintro e w6 ⟨rfl, hb⟩; refine ⟨_, rfl, ?_⟩; replace HB := stA hb; clear hb))
 go_ret
 exact ⟨by first | rfl | (simp [errW_none, errW_some] <;> rfl) | (simp [*, errW_none, errW_some] <;> rfl), by repeat (first | (with_reducible first | exact HB.out | apply below_alloc | apply pw_below_drewN | apply below_drew1) | exact HB.out)⟩

/-! ### cut_window_least: function 173 -/
noncomputable def cut_window_least.f (a0 : Int) : Option (Int) := (cut_window_tenths.f a0 7).bind fun t440 => (some t440)
set_option maxHeartbeats 8000000 in
set_option maxRecDepth 100000 in
theorem cut_window_least.calls (a0 : Int) (r : Int) (w : World) (h : cut_window_least.f a0 = some r) :
  Calls Tryz.prog 173 #[.int .i64 a0] w fun e w' => e = .returned (.int .i64 r) ∧ Below w.heap.size w w' := by
 have HB := Aside0.mk (Below.refl w.heap.size w); have H : ((cut_window_tenths.f a0 7).bind fun t440 => (some t440)) = some r := h; clear h; replace H := Option.bind_eq_some_iff.mp H; obtain ⟨t440, A20, H⟩ := H; replace H : (some t440) = some r := H; have A2 := Aside0.mk A20; clear A20; obtain rfl := Option.some.inj H
 go_enter Tryz.func173, Tryz.ntmps173
 go_wp2_with (first | ((with_reducible refine gate_callee (f := 175) rfl ?_); refine goesLA_ (some 4) rfl rfl Tryz.func175 rfl #[.int .i64 a0, .int .i64 7] rfl ?_; (with_reducible refine (cut_window_tenths.calls a0 7 t440 _ A2.out).mono ?_); rintro e w3 ⟨rfl, hb⟩; refine ⟨_, rfl, ?_⟩; replace HB := stA hb; clear hb))
 go_ret
 exact ⟨by first | rfl | (simp [errW_none, errW_some] <;> rfl) | (simp [*, errW_none, errW_some] <;> rfl), by repeat (first | (with_reducible first | exact HB.out | apply below_alloc | apply pw_below_drewN | apply below_drew1) | exact HB.out)⟩

/-! ### cut_window_leastS: pure, behind function 173 -/
noncomputable def cut_window_leastS.f (a : Int) : Option Int := Sp.need (Sp.I a) (some (Sp.leastW a))
theorem cut_window_leastS.eq {a : Int} (h1 : Sp.I a) : cut_window_leastS.f a = some (Sp.leastW a) := Sp.need_pos h1
section
open Go.Proofs.YtfahbgkoldoflaaGreatDoor.Sp
theorem cut_window_least.main {a : Int} (h1 : Sp.I a) : cut_window_least.f a = some (Sp.leastW a) := by
 unfold cut_window_least.f cut_window_tenths.f
 rw [frac_FloorS.eq h1 (by omega) (by omega), floorQ_in (by omega) (by omega)]
 simp only [Option.bind_some]
 rw [cut_ofS.eq (by omega)]
 rfl
end
theorem cut_window_leastS.calls (a r : Int) (w : World) (h : cut_window_leastS.f a = some r) :
  Calls Tryz.prog 173 #[.int .i64 a] w fun e w' => e = .returned (.int .i64 r) ∧ Below w.heap.size w w' := by
 obtain ⟨hc, h⟩ := Sp.need_some h; have h1 := hc; exact cut_window_least.calls a r w (by rw [cut_window_least.main h1]; exact h)

/-! ### cut_Least: function 165 -/
noncomputable def cut_Least.f (a0 : Int) : Option (Int) := (cut_ofS.f a0).bind fun t441 => ((cut_window_leastS.f t441).bind fun t442 => (some t442))
set_option maxHeartbeats 8000000 in
set_option maxRecDepth 100000 in
theorem cut_Least.calls (a0 : Int) (r : Int) (w : World) (h : cut_Least.f a0 = some r) :
  Calls Tryz.prog 165 #[.int .i64 a0] w fun e w' => e = .returned (.int .i64 r) ∧ Below w.heap.size w w' := by
 have HB := Aside0.mk (Below.refl w.heap.size w); have H : ((cut_ofS.f a0).bind fun t441 => ((cut_window_leastS.f t441).bind fun t442 => (some t442))) = some r := h; clear h; replace H := Option.bind_eq_some_iff.mp H; obtain ⟨t441, A20, H⟩ := H; replace H : ((cut_window_leastS.f t441).bind fun t442 => (some t442)) = some r := H; have A2 := Aside0.mk A20; clear A20; replace H := Option.bind_eq_some_iff.mp H; obtain ⟨t442, A30, H⟩ := H; replace H : (some t442) = some r := H; have A3 := Aside0.mk A30; clear A30; obtain rfl := Option.some.inj H
 go_enter Tryz.func165, Tryz.ntmps165
 go_wp2_with (first | ((with_reducible refine gate_callee (f := 167) rfl ?_); refine goesLA_ (some 4) rfl rfl Tryz.func167 rfl #[.int .i64 a0] rfl ?_; (with_reducible refine (cut_ofS.calls a0 t441 _ A2.out).mono ?_); rintro e w4 ⟨rfl, hb⟩; refine ⟨_, rfl, ?_⟩; replace HB := stA hb; clear hb) | ((with_reducible refine gate_callee (f := 173) rfl ?_); refine goesLA_ (some 5) rfl rfl Tryz.func173 rfl #[.int .i64 t441] rfl ?_; (with_reducible refine (cut_window_leastS.calls t441 t442 _ A3.out).mono ?_); rintro e w5 ⟨rfl, hb⟩; refine ⟨_, rfl, ?_⟩; replace HB := stA hb; clear hb))
 go_ret
 exact ⟨by first | rfl | (simp [errW_none, errW_some] <;> rfl) | (simp [*, errW_none, errW_some] <;> rfl), by repeat (first | (with_reducible first | exact HB.out | apply below_alloc | apply pw_below_drewN | apply below_drew1) | exact HB.out)⟩

/-! ### cut_LeastS: pure, behind function 165 -/
noncomputable def cut_LeastS.f (a : Int) : Option Int := Sp.need (Sp.I a) (some (Sp.leastW (Sp.win a)))
theorem cut_LeastS.eq {a : Int} (h1 : Sp.I a) : cut_LeastS.f a = some (Sp.leastW (Sp.win a)) := Sp.need_pos h1
section
open Go.Proofs.YtfahbgkoldoflaaGreatDoor.Sp
theorem cut_Least.main {a : Int} (h1 : Sp.I a) : cut_Least.f a = some (Sp.leastW (Sp.win a)) := by
 unfold cut_Least.f
 rw [cut_ofS.eq h1]
 simp only [Option.bind_some]; have := win_bd a
 rw [cut_window_leastS.eq (by omega)]
 rfl
end
theorem cut_LeastS.calls (a r : Int) (w : World) (h : cut_LeastS.f a = some r) :
  Calls Tryz.prog 165 #[.int .i64 a] w fun e w' => e = .returned (.int .i64 r) ∧ Below w.heap.size w w' := by
 obtain ⟨hc, h⟩ := Sp.need_some h; have h1 := hc; exact cut_Least.calls a r w (by rw [cut_Least.main h1]; exact h)

/-! ### epoch_Fast: function 166 -/
noncomputable def epoch_Fast.f (a0 : Int) (a1 : Int) : Option (Int) := if a1 ≥ a0 then (some a1) else ((frac_FloorS.f (mx a1 0) 17 20).bind fun bt443 => (some bt443.1))
set_option maxHeartbeats 8000000 in
set_option maxRecDepth 100000 in
theorem epoch_Fast.calls (a0 : Int) (a1 : Int) (r : Int) (w : World) (h : epoch_Fast.f a0 a1 = some r) :
  Calls Tryz.prog 166 #[.int .i64 a0, .int .i64 a1] w fun e w' => e = .returned (.int .i64 r) ∧ Below w.heap.size w w' := by
 have HB := Aside0.mk (Below.refl w.heap.size w); have H : (if a1 ≥ a0 then (some a1) else ((frac_FloorS.f (mx a1 0) 17 20).bind fun bt443 => (some bt443.1))) = some r := h; clear h
 by_cases c3 : a1 ≥ a0
 ·rw [if_pos c3] at H
  have c3b0 : decide (a0 ≤ a1) = true := decide_eq_true c3; clear c3; obtain rfl := Option.some.inj H
  go_enter Tryz.func166, Tryz.ntmps166
  go_wp2
  go_ret
  exact ⟨by first | rfl | (simp [errW_none, errW_some] <;> rfl) | (simp [*, errW_none, errW_some] <;> rfl), by repeat (first | (with_reducible first | exact HB.out | apply below_alloc | apply pw_below_drewN | apply below_drew1) | exact HB.out)⟩
 ·rw [if_neg c3] at H
  have c3b0 : decide (a0 ≤ a1) = false := decide_eq_false c3; clear c3
  obtain ⟨ji4, hji4⟩ : ∃ j_ : Int, (mx a1 0) = j_ := ⟨_, rfl⟩
  replace H : ((frac_FloorS.f (ji4) 17 20).bind fun bt443 => (some bt443.1)) = some r := by first | (rw [hji4] at H; exact H) | (simp only [hji4] at H ⊢; exact H)
  (try (have hji4l : 0 ≤ ji4 := by (rw [← hji4]; unfold mx; (repeat' split) <;> omega)))
  (try (have hji4m : 0 ≤ ji4 := by omega))
  have hji4_ : (if a1 < 0 then 0 else a1) = ji4 := hji4; replace H := Option.bind_eq_some_iff.mp H; obtain ⟨⟨t443, t444⟩, A50, H⟩ := H; replace H : (some t443) = some r := H; have A5 := Aside0.mk A50; clear A50; obtain rfl := Option.some.inj H
  go_enter Tryz.func166, Tryz.ntmps166
  go_wp2_with (first | ((with_reducible refine gate_callee (f := 45) rfl ?_); refine goesL_ (some 14) rfl rfl Tryz.func45 (by kernel_rfl) rfl #[.int .i64 ji4, .int .i64 17, .int .i64 20] rfl (by (try simp only [List.map_toArray, List.map_cons, List.map_nil]); first | done | (simp only [hji4]; rfl) | rfl | (simp only [List.length_drop, List.length_take]; rfl)) ?_; (with_reducible refine (frac_FloorS.calls ji4 17 20 t443 t444 _ A5.out).mono ?_); rintro e w6 ⟨rfl, hb⟩; refine ⟨_, rfl, ?_⟩; replace HB := stA hb; clear hb))
  go_ret
  exact ⟨by first | rfl | (simp [errW_none, errW_some] <;> rfl) | (simp only [← hji4]; first | rfl | (simp [errW_none, errW_some] <;> rfl)) | (simp [*, errW_none, errW_some] <;> rfl), by repeat (first | (with_reducible first | exact HB.out | apply below_alloc | apply pw_below_drewN | apply below_drew1) | exact HB.out)⟩

/-! ### epoch_FastS: pure, behind function 166 -/
noncomputable def epoch_FastS.f (a b : Int) : Option Int := Sp.need (Sp.I a ∧ Sp.I b) (some (Sp.fastQ a b))
theorem epoch_FastS.eq {a b : Int} (h1 : Sp.I a) (h2 : Sp.I b) : epoch_FastS.f a b = some (Sp.fastQ a b) := Sp.need_pos ⟨h1, h2⟩
section
open Go.Proofs.YtfahbgkoldoflaaGreatDoor.Sp
theorem epoch_Fast.main {a b : Int} (h1 : Sp.I a) (h2 : Sp.I b) : epoch_Fast.f a b = some (Sp.fastQ a b) := by
 unfold epoch_Fast.f fastQ
 by_cases c : b ≥ a
 ·rw [if_pos c, if_pos c]
 ·rw [if_neg c, if_neg c]
  have e : mx b 0 = if b < 0 then 0 else b := rfl
  rw [e]
  have hm : 0 ≤ (if b < 0 then 0 else b) ∧ (if b < 0 then 0 else b) ≤ 9223372036854775807 := by split <;> omega
  generalize (if b < 0 then 0 else b) = m at hm ⊢
  rw [frac_FloorS.eq (by omega) (by omega) (by omega), floorQ_in (by omega) (by omega)]
  rfl
end
theorem epoch_FastS.calls (a b r : Int) (w : World) (h : epoch_FastS.f a b = some r) :
  Calls Tryz.prog 166 #[.int .i64 a, .int .i64 b] w fun e w' => e = .returned (.int .i64 r) ∧ Below w.heap.size w w' := by
 obtain ⟨hc, h⟩ := Sp.need_some h; obtain ⟨h1, h2⟩ := hc; exact epoch_Fast.calls a b r w (by rw [epoch_Fast.main h1 h2]; exact h)

/-! ### cut_Loss: function 143 -/
noncomputable def cut_Loss.f (a0 : Int) (a1 : Int) : Option (Int × Int) := (cut_LeastS.f a0).bind fun t445 => ((cut_ofS.f a0).bind fun t446 => ((epoch_FastS.f a1 t446).bind fun t447 => (some (t445, t447))))
set_option maxHeartbeats 8000000 in
set_option maxRecDepth 100000 in
theorem cut_Loss.calls (a0 : Int) (a1 : Int) (r1 : Int) (r2 : Int) (w : World) (h : cut_Loss.f a0 a1 = some (r1, r2)) :
  Calls Tryz.prog 143 #[.int .i64 a0, .int .i64 a1] w fun e w' => e = .returned (.tuple #[.int .i64 r1, .int .i64 r2]) ∧ Below w.heap.size w w' := by
 have HB := Aside0.mk (Below.refl w.heap.size w); have H : ((cut_LeastS.f a0).bind fun t445 => ((cut_ofS.f a0).bind fun t446 => ((epoch_FastS.f a1 t446).bind fun t447 => (some (t445, t447))))) = some (r1, r2) := h; clear h; replace H := Option.bind_eq_some_iff.mp H; obtain ⟨t445, A30, H⟩ := H; replace H : ((cut_ofS.f a0).bind fun t446 => ((epoch_FastS.f a1 t446).bind fun t447 => (some (t445, t447)))) = some (r1, r2) := H; have A3 := Aside0.mk A30; clear A30; replace H := Option.bind_eq_some_iff.mp H; obtain ⟨t446, A40, H⟩ := H; replace H : ((epoch_FastS.f a1 t446).bind fun t447 => (some (t445, t447))) = some (r1, r2) := H; have A4 := Aside0.mk A40; clear A40; replace H := Option.bind_eq_some_iff.mp H; obtain ⟨t447, A50, H⟩ := H; replace H : (some (t445, t447)) = some (r1, r2) := H; have A5 := Aside0.mk A50; clear A50; simp only [Option.some.injEq, Prod.mk.injEq] at H; obtain ⟨rfl, rfl⟩ := H
 go_enter Tryz.func143, Tryz.ntmps143
 go_wp2_with (first | ((with_reducible refine gate_callee (f := 165) rfl ?_); refine goesLA_ (some 7) rfl rfl Tryz.func165 rfl #[.int .i64 a0] rfl ?_; (with_reducible refine (cut_LeastS.calls a0 t445 _ A3.out).mono ?_); rintro e w6 ⟨rfl, hb⟩; refine ⟨_, rfl, ?_⟩; replace HB := stA hb; clear hb) | ((with_reducible refine gate_callee (f := 167) rfl ?_); refine goesLA_ (some 10) rfl rfl Tryz.func167 rfl #[.int .i64 a0] rfl ?_; (with_reducible refine (cut_ofS.calls a0 t446 _ A4.out).mono ?_); rintro e w7 ⟨rfl, hb⟩; refine ⟨_, rfl, ?_⟩; replace HB := stA hb; clear hb) | ((with_reducible refine gate_callee (f := 166) rfl ?_); refine goesLA_ (some 11) rfl rfl Tryz.func166 rfl #[.int .i64 a1, .int .i64 t446] rfl ?_; (with_reducible refine (epoch_FastS.calls a1 t446 t447 _ A5.out).mono ?_); rintro e w8 ⟨rfl, hb⟩; refine ⟨_, rfl, ?_⟩; replace HB := stA hb; clear hb))
 go_ret2
 exact ⟨by first | rfl | (simp [errW_none, errW_some] <;> rfl) | (simp [*, errW_none, errW_some] <;> rfl), by repeat (first | (with_reducible first | exact HB.out | apply below_alloc | apply pw_below_drewN | apply below_drew1) | exact HB.out)⟩

/-! ### cut_LossS: pure, behind function 143 -/
noncomputable def cut_LossS.f (a b : Int) : Option (Int × Int) := Sp.need (Sp.I a ∧ Sp.I b) (some (Sp.leastW (Sp.win a), Sp.fastQ b (Sp.win a)))
theorem cut_LossS.eq {a b : Int} (h1 : Sp.I a) (h2 : Sp.I b) : cut_LossS.f a b = some (Sp.leastW (Sp.win a), Sp.fastQ b (Sp.win a)) := Sp.need_pos ⟨h1, h2⟩
section
open Go.Proofs.YtfahbgkoldoflaaGreatDoor.Sp
theorem cut_Loss.main {a b : Int} (h1 : Sp.I a) (h2 : Sp.I b) : cut_Loss.f a b = some (Sp.leastW (Sp.win a), Sp.fastQ b (Sp.win a)) := by
 unfold cut_Loss.f
 have := win_bd a
 rw [cut_LeastS.eq h1, cut_ofS.eq h1]
 simp only [Option.bind_some]
 rw [epoch_FastS.eq h2 (by omega)]
 rfl
end
theorem cut_LossS.calls (a b r1 r2 : Int) (w : World) (h : cut_LossS.f a b = some (r1, r2)) :
  Calls Tryz.prog 143 #[.int .i64 a, .int .i64 b] w fun e w' => e = .returned (.tuple #[.int .i64 r1, .int .i64 r2]) ∧ Below w.heap.size w w' := by
 obtain ⟨hc, h⟩ := Sp.need_some h; obtain ⟨h1, h2⟩ := hc; exact cut_Loss.calls a b r1 r2 w (by rw [cut_Loss.main h1 h2]; exact h)

/-! ### cut_Timeout: function 97 -/
noncomputable def cut_Timeout.f (a0 : Int) (a1 : Int) : Option (Int × Int × Int) := (cut_LossS.f a0 a1).bind fun bt448 => (some (131072, bt448.1, bt448.2))
set_option maxHeartbeats 8000000 in
set_option maxRecDepth 100000 in
theorem cut_Timeout.calls (a0 : Int) (a1 : Int) (r1 : Int) (r2 : Int) (r3 : Int) (w : World) (h : cut_Timeout.f a0 a1 = some (r1, r2, r3)) :
  Calls Tryz.prog 97 #[.int .i64 a0, .int .i64 a1] w fun e w' => e = .returned (.tuple #[.int .i64 r1, .int .i64 r2, .int .i64 r3]) ∧ Below w.heap.size w w' := by
 have HB := Aside0.mk (Below.refl w.heap.size w); have H : ((cut_LossS.f a0 a1).bind fun bt448 => (some (131072, bt448.1, bt448.2))) = some (r1, r2, r3) := h; clear h; replace H := Option.bind_eq_some_iff.mp H; obtain ⟨⟨t448, t449⟩, A30, H⟩ := H; replace H : (some (131072, t448, t449)) = some (r1, r2, r3) := H; have A3 := Aside0.mk A30; clear A30; simp only [Option.some.injEq, Prod.mk.injEq] at H; obtain ⟨rfl, rfl, rfl⟩ := H
 go_enter Tryz.func97, Tryz.ntmps97
 go_wp2_with (first | ((with_reducible refine gate_callee (f := 143) rfl ?_); refine goesLA_ (some 12) rfl rfl Tryz.func143 rfl #[.int .i64 a0, .int .i64 a1] rfl ?_; (with_reducible refine (cut_LossS.calls a0 a1 t448 t449 _ A3.out).mono ?_); rintro e w4 ⟨rfl, hb⟩; refine ⟨_, rfl, ?_⟩; replace HB := stA hb; clear hb))
 go_ret3
 exact ⟨by first | rfl | (simp [errW_none, errW_some] <;> rfl) | (simp [*, errW_none, errW_some] <;> rfl), by repeat (first | (with_reducible first | exact HB.out | apply below_alloc | apply pw_below_drewN | apply below_drew1) | exact HB.out)⟩

/-! ### cut_TimeoutS: pure, behind function 97 -/
noncomputable def cut_TimeoutS.f (a b : Int) : Option (Int × Int × Int) := Sp.need (Sp.I a ∧ Sp.I b) (some (131072, Sp.leastW (Sp.win a), Sp.fastQ b (Sp.win a)))
theorem cut_TimeoutS.eq {a b : Int} (h1 : Sp.I a) (h2 : Sp.I b) : cut_TimeoutS.f a b = some (131072, Sp.leastW (Sp.win a), Sp.fastQ b (Sp.win a)) := Sp.need_pos ⟨h1, h2⟩
section
open Go.Proofs.YtfahbgkoldoflaaGreatDoor.Sp
theorem cut_Timeout.main {a b : Int} (h1 : Sp.I a) (h2 : Sp.I b) : cut_Timeout.f a b = some (131072, Sp.leastW (Sp.win a), Sp.fastQ b (Sp.win a)) := by
 unfold cut_Timeout.f
 rw [cut_LossS.eq h1 h2]
 rfl
end
theorem cut_TimeoutS.calls (a b r1 r2 r3 : Int) (w : World) (h : cut_TimeoutS.f a b = some (r1, r2, r3)) :
  Calls Tryz.prog 97 #[.int .i64 a, .int .i64 b] w fun e w' => e = .returned (.tuple #[.int .i64 r1, .int .i64 r2, .int .i64 r3]) ∧ Below w.heap.size w w' := by
 obtain ⟨hc, h⟩ := Sp.need_some h; obtain ⟨h1, h2⟩ := hc; exact cut_Timeout.calls a b r1 r2 r3 w (by rw [cut_Timeout.main h1 h2]; exact h)

/-! ### round_Begin: function 98 -/
noncomputable def round_Begin.f (a0 : Int) : Option (Int × Int) := some (0, mx a0 0)
set_option maxHeartbeats 8000000 in
set_option maxRecDepth 100000 in
theorem round_Begin.calls (a0 : Int) (r1 : Int) (r2 : Int) (w : World) (h : round_Begin.f a0 = some (r1, r2)) :
  Calls Tryz.prog 98 #[.int .i64 a0] w fun e w' => e = .returned (.agg #[.int .i64 r1, .int .i64 r2]) ∧ Below w.heap.size w w' := by
 have hu42 := Tryz.underlying42; have HB := Aside0.mk (Below.refl w.heap.size w); have H : (some (0, mx a0 0)) = some (r1, r2) := h; clear h
 obtain ⟨ji2, hji2⟩ : ∃ j_ : Int, (mx a0 0) = j_ := ⟨_, rfl⟩
 replace H : (some (0, ji2)) = some (r1, r2) := by first | (rw [hji2] at H; exact H) | (simp only [hji2] at H ⊢; exact H)
 (try (have hji2l : 0 ≤ ji2 := by (rw [← hji2]; unfold mx; (repeat' split) <;> omega)))
 (try (have hji2m : 0 ≤ ji2 := by omega))
 have hji2_ : (if a0 < 0 then 0 else a0) = ji2 := hji2; simp only [Option.some.injEq, Prod.mk.injEq] at H; obtain ⟨rfl, rfl⟩ := H
 go_enter Tryz.func98, Tryz.ntmps98
 go_wp2_with (first | ((with_reducible refine gate_dst (N := 2) rfl ?_); refine box_event ?hg (N := 2) ?hd (cs := #[.int .i64 0, .int .i64 0]) (t := 42) ?hr ?_; (case hd => rfl); (case hg => rfl); (case hr => first | (go_simp; done) | (go_simp; rfl)); intro gb450 hg w3 hbox hb; have BK450 := Aside0.mk (hbox); obtain ⟨GW450, nHB⟩ := geA hg hb; have GE450 := GW450; replace HB := nHB; clear nHB; clear hb hbox hg; have hcz4_0 := czZ BK450 0 (.int .i64 0); have hcz4_1 := czZ BK450 1 (.int .i64 0); have hfz4_0 := blk_frozen BK450.out 0; have hfz4_1 := blk_frozen BK450.out 1))
 refine bodyPost_ret (results_cell_row rfl _ _ gb450 42 #[.int .i64 0, .int .i64 ji2] (0, 0) _ rfl (by (with_reducible repeat first | apply blk_drewN | apply blk_drew | apply blk_alloc); refine blk_put (cs := #[.int .i64 0, .int .i64 0]) ?_ 1 _ rfl; (with_reducible repeat first | apply blk_drewN | apply blk_drew | apply blk_alloc); refine blk_put (cs := #[.int .i64 0, .int .i64 0]) ?_ 0 _ rfl; (with_reducible repeat first | apply blk_drewN | apply blk_drew | apply blk_alloc); exact BK450.out) Tryz.underlying42 rfl (by kernel_rfl)) rfl ?_; exact ⟨by first | rfl | (simp [errW_none, errW_some] <;> rfl) | (simp only [← hji2]; first | rfl | (simp [errW_none, errW_some] <;> rfl)) | (simp [*, errW_none, errW_some] <;> rfl), by repeat (first | (with_reducible first | exact HB.out | apply below_alloc | apply pw_below_drewN | apply below_drew1 | refine below_set ?_ GE450.out) | exact HB.out)⟩

/-! ### least_is: function 119 -/
noncomputable def least_is.f (a0 : Int) : Option (Bool) := if a0 ≥ 0 then (some (decide (a0 ≤ 1099511627776))) else (some false)
set_option maxHeartbeats 8000000 in
set_option maxRecDepth 100000 in
theorem least_is.calls (a0 : Int) (r : Bool) (w : World) (h : least_is.f a0 = some r) :
  Calls Tryz.prog 119 #[.int .i64 a0] w fun e w' => e = .returned (.bool r) ∧ Drawn0 w w' := by
 have H : (if a0 ≥ 0 then (some (decide (a0 ≤ 1099511627776))) else (some false)) = some r := h; clear h
 by_cases c2 : a0 ≥ 0
 ·rw [if_pos c2] at H
  have c2b0 : decide (0 ≤ a0) = true := decide_eq_true c2; clear c2; obtain rfl := Option.some.inj H
  go_enter Tryz.func119, Tryz.ntmps119
  go_wp2
  go_ret
  exact ⟨by first | rfl | (simp; done) | (simp [*]; done), by repeat (first | exact Drawn0.refl _ | apply Drawn0.step)⟩
 ·rw [if_neg c2] at H
  have c2b0 : decide (0 ≤ a0) = false := decide_eq_false c2; clear c2; obtain rfl := Option.some.inj H
  go_enter Tryz.func119, Tryz.ntmps119
  go_wp2
  go_ret
  exact ⟨by first | rfl | (simp; done) | (simp [*]; done), by repeat (first | exact Drawn0.refl _ | apply Drawn0.step)⟩

/-! ### hystart_may: function 122 -/
noncomputable def hystart_may.f (a0 : Int) : Option (Bool) := if a0 ≥ 0 then (some (decide (a0 ≤ 1073741824))) else (some false)
set_option maxHeartbeats 8000000 in
set_option maxRecDepth 100000 in
theorem hystart_may.calls (a0 : Int) (r : Bool) (w : World) (h : hystart_may.f a0 = some r) :
  Calls Tryz.prog 122 #[.int .i64 a0] w fun e w' => e = .returned (.bool r) ∧ Drawn0 w w' := by
 have H : (if a0 ≥ 0 then (some (decide (a0 ≤ 1073741824))) else (some false)) = some r := h; clear h
 by_cases c2 : a0 ≥ 0
 ·rw [if_pos c2] at H
  have c2b0 : decide (0 ≤ a0) = true := decide_eq_true c2; clear c2; obtain rfl := Option.some.inj H
  go_enter Tryz.func122, Tryz.ntmps122
  go_wp2
  go_ret
  exact ⟨by first | rfl | (simp; done) | (simp [*]; done), by repeat (first | exact Drawn0.refl _ | apply Drawn0.step)⟩
 ·rw [if_neg c2] at H
  have c2b0 : decide (0 ≤ a0) = false := decide_eq_false c2; clear c2; obtain rfl := Option.some.inj H
  go_enter Tryz.func122, Tryz.ntmps122
  go_wp2
  go_ret
  exact ⟨by first | rfl | (simp; done) | (simp [*]; done), by repeat (first | exact Drawn0.refl _ | apply Drawn0.step)⟩

/-! ### rtt_first: function 155 -/
noncomputable def rtt_first.f (a0 : Int) : Option (Bool × Int × Int) := some (true, wrap64 (a0 * 8), wrap64 (Int.tdiv (wrap64 (a0 * 4)) 2))
set_option maxHeartbeats 8000000 in
set_option maxRecDepth 100000 in
theorem rtt_first.calls (a0 : Int) (r1 : Bool) (r2 : Int) (r3 : Int) (w : World) (h : rtt_first.f a0 = some (r1, r2, r3)) :
  Calls Tryz.prog 155 #[.int .i64 a0] w fun e w' => e = .returned (.agg #[.bool r1, .int .i64 r2, .int .i64 r3]) ∧ Below w.heap.size w w' := by
 have hu203 := Tryz.underlying203; have hu39 := Tryz.underlying39; have HB := Aside0.mk (Below.refl w.heap.size w); have H : (some (true, wrap64 (a0 * 8), wrap64 (Int.tdiv (wrap64 (a0 * 4)) 2))) = some (r1, r2, r3) := h; clear h; simp only [Option.some.injEq, Prod.mk.injEq] at H; obtain ⟨rfl, rfl, rfl⟩ := H
 go_enter Tryz.func155, Tryz.ntmps155
 go_wp2_with (first | ((with_reducible refine gate_dst (N := 2) rfl ?_); refine box_event ?hg (N := 2) ?hd (cs := #[.bool false, .int .i64 0, .int .i64 0]) (t := 203) ?hr ?_; (case hd => rfl); (case hg => rfl); (case hr => first | (go_simp; done) | (go_simp; rfl)); intro gb451 hg w2 hbox hb; have BK451 := Aside0.mk (hbox); obtain ⟨GW451, nHB⟩ := geA hg hb; have GE451 := GW451; replace HB := nHB; clear nHB; clear hb hbox hg; have hcz3_0 := czZ BK451 0 (.bool false); have hcz3_1 := czZ BK451 1 (.int .i64 0); have hcz3_2 := czZ BK451 2 (.int .i64 0); have hfz3_0 := blk_frozen BK451.out 0; have hfz3_1 := blk_frozen BK451.out 1; have hfz3_2 := blk_frozen BK451.out 2))
 refine bodyPost_ret (results_cell_row rfl _ _ gb451 203 #[.bool true, .int .i64 (wrap64 (a0 * 8)), .int .i64 (wrap64 (Int.tdiv (wrap64 (a0 * 4)) 2))] (0, 0) _ rfl (by (with_reducible repeat first | apply blk_drewN | apply blk_drew | apply blk_alloc); refine blk_put (cs := #[.bool true, .int .i64 (wrap64 (a0 * 8)), .int .i64 0]) ?_ 2 _ rfl; (with_reducible repeat first | apply blk_drewN | apply blk_drew | apply blk_alloc); refine blk_put (cs := #[.bool true, .int .i64 0, .int .i64 0]) ?_ 1 _ rfl; (with_reducible repeat first | apply blk_drewN | apply blk_drew | apply blk_alloc); refine blk_put (cs := #[.bool false, .int .i64 0, .int .i64 0]) ?_ 0 _ rfl; (with_reducible repeat first | apply blk_drewN | apply blk_drew | apply blk_alloc); exact BK451.out) Tryz.underlying203 rfl (by kernel_rfl)) rfl ?_; exact ⟨by first | rfl | (simp [errW_none, errW_some] <;> rfl) | (simp [*, errW_none, errW_some] <;> rfl), by repeat (first | (with_reducible first | exact HB.out | apply below_alloc | apply pw_below_drewN | apply below_drew1 | refine below_set ?_ GE451.out) | exact HB.out)⟩

/-! ### rtt_Far: function 171 -/
noncomputable def rtt_Far.f (a0_0 : Bool) (a0_1 : Int) (a0_2 : Int) : Option (Int) := some (wrap64 (Int.tdiv a0_2 4))
set_option maxHeartbeats 8000000 in
set_option maxRecDepth 100000 in
theorem rtt_Far.calls (a0_0 : Bool) (a0_1 : Int) (a0_2 : Int) (r : Int) (w : World) (h : rtt_Far.f a0_0 a0_1 a0_2 = some r) :
  Calls Tryz.prog 171 #[.agg #[.bool a0_0, .int .i64 a0_1, .int .i64 a0_2]] w fun e w' => e = .returned (.int .i64 r) ∧ Below w.heap.size w w' := by
 have hu39 := Tryz.underlying39; have HB := Aside0.mk (Below.refl w.heap.size w); have H : (some (wrap64 (Int.tdiv a0_2 4))) = some r := h; clear h; obtain rfl := Option.some.inj H
 go_enter Tryz.func171, Tryz.ntmps171
 go_wp2_with (first | ((with_reducible refine gate_dst (N := 1) rfl ?_); refine box_event ?hg (N := 1) ?hd (cs := #[.bool a0_0, .int .i64 a0_1, .int .i64 a0_2]) (t := 39) ?hr ?_; (case hd => rfl); (case hg => rfl); (case hr => first | (go_simp; done) | (go_simp; rfl)); intro gb452 hg w2 hbox hb; have BK452 := Aside0.mk (hbox); obtain ⟨GW452, nHB⟩ := geA hg hb; have GE452 := GW452; replace HB := nHB; clear nHB; clear hb hbox hg; have hcz3_0 := czZ BK452 0 (.bool a0_0); have hcz3_1 := czZ BK452 1 (.int .i64 a0_1); have hcz3_2 := czZ BK452 2 (.int .i64 a0_2); have hfz3_0 := blk_frozen BK452.out 0; have hfz3_1 := blk_frozen BK452.out 1; have hfz3_2 := blk_frozen BK452.out 2))
 go_ret
 exact ⟨by first | rfl | (simp [errW_none, errW_some] <;> rfl) | (simp [*, errW_none, errW_some] <;> rfl), by repeat (first | (with_reducible first | exact HB.out | apply below_alloc | apply pw_below_drewN | apply below_drew1 | refine below_set ?_ GE452.out) | exact HB.out)⟩

end Go.Proofs.YtfahbgkoldoflaaGreatDoor.Px
