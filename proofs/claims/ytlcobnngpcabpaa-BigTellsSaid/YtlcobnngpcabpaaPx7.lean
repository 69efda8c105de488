/- Printed by a program of this session (wip/tool/px.py), over the kit's print: for each Go function a Lean function, and the proof that the machine's call answers as that function says. Conditions: none beside what the theorems state. -/
import Derived.Test.YtlcobnngpcabpaaPx0
import Derived.Test.YtlcobnngpcabpaaPx2
import Derived.Test.YtlcobnngpcabpaaSpec
namespace Go.Proofs.Ytlcobnngpcabpaa.Px
open Go.RowKit Go.Proofs.YtlcobnngpcabpaaW.PrintWords Go.Proofs.YtlcobnngpcabpaaW.PrintLast Go.Proofs.YtlcobnngpcabpaaW.PrintMore
attribute [local go_sem] max2_int min2_int max_two min_two max_three min_three max_four min_four   -- for this text's walks alone
set_option linter.unusedVariables false
set_option linter.unusedSimpArgs false

attribute [local go_sem high] eqA39
/-! ### big_size_with: function 24 -/
noncomputable def big_size_with.f (a0_0 : Int) (a0_1 : Int) (a1 : Bool) : Option (Bool × Int × Int) := if a1 = true then (some ((!(a0_0 == 0) || (!(a0_1 == 0))), a0_0, a0_1)) else (some (false, a0_0, a0_1))
def big_size_with.T1 : Bool × List (List Nat × List Nat) := (true, [([], []), ([0], [0]), ([1], [1]), ([1], [1]), ([2, 3, 1], [1, 2, 3]), ([1, 4], [1, 4]), ([], []), ([6], [6]), ([], []), ([8], [8]), ([5, 7, 9], [5, 7, 9]), ([10, 1, 0, 1, 2, 3, 4, 5, 6, 7, 8, 9, 10], [10])])
def big_size_with.B1 : List Nat := [0, 1, 3, 3, 15, 31, 0, 64, 0, 256, 1023, 2047]
theorem big_size_with.tab1 : rtab .any (opsOf Try.f24 1) = big_size_with.T1 := by kernel_rfl
theorem big_size_with.bits1 : waitsOk big_size_with.T1.2 big_size_with.B1 = true := by kernel_rfl
set_option maxHeartbeats 8000000 in
set_option maxRecDepth 100000 in
theorem big_size_with.calls (a0_0 : Int) (a0_1 : Int) (a1 : Bool) (r1 : Bool) (r2 : Int) (r3 : Int) (w : World) (h : big_size_with.f a0_0 a0_1 a1 = some (r1, r2, r3)) :
  Calls Try.prog 24 #[.agg #[.int .u64 a0_0, .int .u64 a0_1], .bool a1] w fun e w' => e = .returned (.agg #[.bool r1, .int .u64 r2, .int .u64 r3]) ∧ Below w.heap.size w w' := by
 have hu39 := Try.underlying39; have hu24 := Try.underlying24; have HB := Aside0.mk (Below.refl w.heap.size w); have H : (if a1 = true then (some ((!(a0_0 == 0) || (!(a0_1 == 0))), a0_0, a0_1)) else (some (false, a0_0, a0_1))) = some (r1, r2, r3) := h; clear h
 by_cases c3 : a1 = true
 ·subst c3
  have H1 : (some ((!(a0_0 == 0) || (!(a0_1 == 0))), a0_0, a0_1)) = some (r1, r2, r3) := by rw [if_pos rfl] at H; exact H
  clear H; have H := H1; clear H1; simp only [Option.some.injEq, Prod.mk.injEq] at H; obtain ⟨rfl, rfl, rfl⟩ := H
  go_enter Try.func24, Try.ntmps24
  try go_wp2_with (first | ((with_reducible refine gate_dst (N := 2) rfl ?_); refine box_event ?hg (N := 2) ?hd (cs := #[.int .u64 a0_0, .int .u64 a0_1]) (t := 39) ?hr ?_; (case hd => rfl); (case hg => rfl); (case hr => first | (go_simp; done) | (go_simp; rfl)); intro gb121 hg w4 hbox hb; have BK121 := Aside0.mk (hbox); obtain ⟨GW121, nHB⟩ := geA hg hb; have GE121 := GW121; replace HB := nHB; clear nHB; clear hb hbox hg) | ((with_reducible refine gate_dst (N := 4) rfl ?_); refine box_event ?hg (N := 4) ?hd (cs := #[.bool false, .int .u64 0, .int .u64 0]) (t := 24) ?hr ?_; (case hd => rfl); (case hg => rfl); (case hr => first | (go_simp; done) | (go_simp; rfl)); intro gb122 hg w5 hbox hb; have BK122 := Aside0.mk (hbox); obtain ⟨GW122, nHB⟩ := geA hg hb; have GE122 := GW122; obtain ⟨NB121_122, NB122_121, nBK⟩ := nbA BK121 hg hb; replace BK121 := nBK; clear nBK; replace HB := nHB; clear nHB; clear hb hbox hg))
  replace BK121 := Aside0.mk (blk_drew BK121.out); replace BK122 := Aside0.mk (blk_drew BK122.out); replace HB := Aside0.mk (below_drew1 HB.out); refine start_ (n := 12) (S := fun w' => w'.cell? ⟨gb121, 0, none⟩ = some (.int .u64 a0_0) ∧ w'.cell? ⟨gb121, 1, none⟩ = some (.int .u64 a0_1)) (ds := []) #[N,N,N,N,N,N,N,N,N,N,N,N] (by kernel_rfl) rfl rfl ⟨(blk_cell BK121.out 0).trans rfl, (blk_cell BK121.out 1).trans rfl⟩ (fun hHeld => ?_); refine with_tabW big_size_with.tab1 big_size_with.bits1 (fun HT_ HW_ => ?_)
  generalize w5.drew = w6 at BK121 BK122 HB hHeld ⊢
  refine pureA_ (i := 0) (N := some 5) #[Y,N,N,N,N,N,N,N,N,N,N,N] rfl rfl (any_of HT_.out (by kernel_rfl)) ?_
  refine pureA_ (i := 1) (N := some 6) #[Y,Y,N,N,N,N,N,N,N,N,N,N] rfl rfl (any_of HT_.out (by kernel_rfl)) ?_
  refine pureA_ (i := 3) (N := some 8) #[Y,Y,N,Y,N,N,N,N,N,N,N,N] rfl rfl (any_of HT_.out (by kernel_rfl)) ?_
  refine pureA_ (i := 6) (N := some 11) #[Y,Y,N,Y,N,N,Y,N,N,N,N,N] rfl rfl (any_of HT_.out (by kernel_rfl)) ?_
  refine pureA_ (i := 8) (N := some 13) #[Y,Y,N,Y,N,N,Y,N,Y,N,N,N] rfl rfl (any_of HT_.out (by kernel_rfl)) ?_
  refine take_ (i := 2) (N := some 7) (v := ?_) (a' := ?_) #[Y,Y,Y,Y,N,N,Y,N,Y,N,N,N] rfl rfl (take_ofW HT_.out HW_.out (by kernel_rfl)) (fun _ _ _ h => h) (Or.inl ⟨by rfl, ?_⟩) hHeld ?_ ?_; rotate_left
  ·rintro w' ⟨s0, s1⟩; go_simp
   with_reducible rfl
  rotate_left
  ·simp only [Act.put, sA, sB, sC, i64_w, i32_w]
   rfl
  refine pureA_ (i := 4) (N := some 9) #[Y,Y,Y,Y,Y,N,Y,N,Y,N,N,N] rfl rfl (any_of HT_.out (by kernel_rfl)) ?_
  refine pureA_ (i := 5) (N := some 10) #[Y,Y,Y,Y,Y,Y,Y,N,Y,N,N,N] rfl rfl (any_of HT_.out (by kernel_rfl)) ?_
  refine take_ (i := 7) (N := some 12) (v := ?_) (a' := ?_) #[Y,Y,Y,Y,Y,Y,Y,Y,Y,N,N,N] rfl rfl (take_ofW HT_.out HW_.out (by kernel_rfl)) (fun _ _ _ h => h) (Or.inl ⟨by rfl, ?_⟩) hHeld ?_ ?_; rotate_left
  ·rintro w' ⟨s0, s1⟩; go_simp
   with_reducible rfl
  rotate_left
  ·simp only [Act.put, sA, sB, sC, i64_w, i32_w]
   rfl
  refine take_ (i := 9) (N := some 14) (v := ?_) (a' := ?_) #[Y,Y,Y,Y,Y,Y,Y,Y,Y,Y,N,N] rfl rfl (take_ofW HT_.out HW_.out (by kernel_rfl)) (fun _ _ _ h => h) (Or.inl ⟨by rfl, ?_⟩) hHeld ?_ ?_; rotate_left
  ·rintro w' ⟨s0, s1⟩; go_simp
   with_reducible rfl
  rotate_left
  ·simp only [Act.put, sA, sB, sC, i64_w, i32_w]
   rfl
  refine pureA_ (i := 10) (N := some 15) #[Y,Y,Y,Y,Y,Y,Y,Y,Y,Y,Y,N] rfl rfl (any_of HT_.out (by kernel_rfl)) ?_
  refine one_ (i := 11) (N := none) #[Y,Y,Y,Y,Y,Y,Y,Y,Y,Y,Y,Y] rfl rfl (one_of HT_.out (by kernel_rfl)) (by decide) (fun K hK => ?_); have hs7 := czZ BK122 0 (.bool false); have hfs7 := blk_frozen BK122.out 0; have hns7_0 := NB121_122.out; have hms7_0 := NB122_121.out; have hs8 := czZ BK122 1 (.int .u64 0); have hfs8 := blk_frozen BK122.out 1; have hns8_0 := NB121_122.out; have hms8_0 := NB122_121.out; have hs9 := czZ BK122 2 (.int .u64 0); have hfs9 := blk_frozen BK122.out 2; have hns9_0 := NB121_122.out; have hms9_0 := NB122_121.out; refine skip_ (w1 := ?_) (by rfl) rfl ?_ ?_; rotate_left
  ·go_simp
   rfl
  refine hK.out _ _ ⟨((cell_far (p := ⟨gb122, _, none⟩) NB121_122.out _).trans (((cell_far (p := ⟨gb122, _, none⟩) NB121_122.out _).trans (((cell_far (p := ⟨gb122, _, none⟩) NB121_122.out _).trans (hHeld.1)))))), ((cell_far (p := ⟨gb122, _, none⟩) NB121_122.out _).trans (((cell_far (p := ⟨gb122, _, none⟩) NB121_122.out _).trans (((cell_far (p := ⟨gb122, _, none⟩) NB121_122.out _).trans (hHeld.2))))))⟩ (fun hHeld => ?_); clear hK K; refine done_ (done_of HT_.out (by kernel_rfl)) ?_
  try go_wp2
  refine bodyPost_ret (results_cell_row rfl _ _ gb122 24 #[.bool (!(a0_0 == 0) || (!(a0_1 == 0))), .int .u64 a0_0, .int .u64 a0_1] (0, 0) _ rfl (by (with_reducible repeat first | apply blk_drewN | apply blk_drew | apply blk_alloc); refine blk_put (cs := #[.bool (!(a0_0 == 0) || (!(a0_1 == 0))), .int .u64 a0_0, .int .u64 0]) ?_ 2 _ rfl; (with_reducible repeat first | apply blk_drewN | apply blk_drew | apply blk_alloc); refine blk_put (cs := #[.bool (!(a0_0 == 0) || (!(a0_1 == 0))), .int .u64 0, .int .u64 0]) ?_ 1 _ rfl; (with_reducible repeat first | apply blk_drewN | apply blk_drew | apply blk_alloc); refine blk_put (cs := #[.bool false, .int .u64 0, .int .u64 0]) ?_ 0 _ rfl; (with_reducible repeat first | apply blk_drewN | apply blk_drew | apply blk_alloc); exact BK122.out) Try.underlying24 rfl (by kernel_rfl)) rfl ?_; exact ⟨by first | rfl | (simp [errW_none, errW_some] <;> rfl) | (simp [*, errW_none, errW_some] <;> rfl), by repeat (first | (with_reducible first | exact HB.out | apply below_alloc | apply pw_below_drewN | apply below_drew1 | refine below_set ?_ (Aside0.out (by assumption))) | exact HB.out)⟩
 ·replace c3 := Bool.eq_false_iff.mpr c3
  subst c3
  have H1 : (some (false, a0_0, a0_1)) = some (r1, r2, r3) := by rw [if_neg (show ¬ (false = true) by decide)] at H; exact H
  clear H; have H := H1; clear H1; simp only [Option.some.injEq, Prod.mk.injEq] at H; obtain ⟨rfl, rfl, rfl⟩ := H
  go_enter Try.func24, Try.ntmps24
  try go_wp2_with (first | ((with_reducible refine gate_dst (N := 2) rfl ?_); refine box_event ?hg (N := 2) ?hd (cs := #[.int .u64 a0_0, .int .u64 a0_1]) (t := 39) ?hr ?_; (case hd => rfl); (case hg => rfl); (case hr => first | (go_simp; done) | (go_simp; rfl)); intro gb121 hg w10 hbox hb; have BK121 := Aside0.mk (hbox); obtain ⟨GW121, nHB⟩ := geA hg hb; have GE121 := GW121; replace HB := nHB; clear nHB; clear hb hbox hg) | ((with_reducible refine gate_dst (N := 4) rfl ?_); refine box_event ?hg (N := 4) ?hd (cs := #[.bool false, .int .u64 0, .int .u64 0]) (t := 24) ?hr ?_; (case hd => rfl); (case hg => rfl); (case hr => first | (go_simp; done) | (go_simp; rfl)); intro gb122 hg w11 hbox hb; have BK122 := Aside0.mk (hbox); obtain ⟨GW122, nHB⟩ := geA hg hb; have GE122 := GW122; obtain ⟨NB121_122, NB122_121, nBK⟩ := nbA BK121 hg hb; replace BK121 := nBK; clear nBK; replace HB := nHB; clear nHB; clear hb hbox hg))
  replace BK121 := Aside0.mk (blk_drew BK121.out); replace BK122 := Aside0.mk (blk_drew BK122.out); replace HB := Aside0.mk (below_drew1 HB.out); refine start_ (n := 12) (S := fun w' => w'.cell? ⟨gb121, 0, none⟩ = some (.int .u64 a0_0) ∧ w'.cell? ⟨gb121, 1, none⟩ = some (.int .u64 a0_1)) (ds := []) #[N,N,N,N,N,N,N,N,N,N,N,N] (by kernel_rfl) rfl rfl ⟨(blk_cell BK121.out 0).trans rfl, (blk_cell BK121.out 1).trans rfl⟩ (fun hHeld => ?_); refine with_tabW big_size_with.tab1 big_size_with.bits1 (fun HT_ HW_ => ?_)
  generalize w11.drew = w12 at BK121 BK122 HB hHeld ⊢
  refine pureA_ (i := 0) (N := some 5) #[Y,N,N,N,N,N,N,N,N,N,N,N] rfl rfl (any_of HT_.out (by kernel_rfl)) ?_
  refine pureA_ (i := 1) (N := some 6) #[Y,Y,N,N,N,N,N,N,N,N,N,N] rfl rfl (any_of HT_.out (by kernel_rfl)) ?_
  refine pure_ (i := 2) (N := some 7) (v := undef) (a' := ?_) #[Y,Y,Y,N,N,N,N,N,N,N,N,N] rfl rfl (any_of HT_.out (by kernel_rfl)) (fun _ _ _ h => h) (Or.inr ⟨by rfl, rfl⟩) ?_ ?_; rotate_left
  ·simp only [Act.put, sA, sB, sC, i64_w, i32_w]
   rfl
  refine pure_ (i := 3) (N := some 8) (v := undef) (a' := ?_) #[Y,Y,Y,Y,N,N,N,N,N,N,N,N] rfl rfl (any_of HT_.out (by kernel_rfl)) (fun _ _ _ h => h) (Or.inr ⟨by rfl, rfl⟩) ?_ ?_; rotate_left
  ·simp only [Act.put, sA, sB, sC, i64_w, i32_w]
   rfl
  refine pure_ (i := 4) (N := some 9) (v := undef) (a' := ?_) #[Y,Y,Y,Y,Y,N,N,N,N,N,N,N] rfl rfl (any_of HT_.out (by kernel_rfl)) (fun _ _ _ h => h) (Or.inr ⟨by rfl, rfl⟩) ?_ ?_; rotate_left
  ·simp only [Act.put, sA, sB, sC, i64_w, i32_w]
   rfl
  refine pureA_ (i := 5) (N := some 10) #[Y,Y,Y,Y,Y,Y,N,N,N,N,N,N] rfl rfl (any_of HT_.out (by kernel_rfl)) ?_
  refine pureA_ (i := 6) (N := some 11) #[Y,Y,Y,Y,Y,Y,Y,N,N,N,N,N] rfl rfl (any_of HT_.out (by kernel_rfl)) ?_
  refine pureA_ (i := 8) (N := some 13) #[Y,Y,Y,Y,Y,Y,Y,N,Y,N,N,N] rfl rfl (any_of HT_.out (by kernel_rfl)) ?_
  refine take_ (i := 7) (N := some 12) (v := ?_) (a' := ?_) #[Y,Y,Y,Y,Y,Y,Y,Y,Y,N,N,N] rfl rfl (take_ofW HT_.out HW_.out (by kernel_rfl)) (fun _ _ _ h => h) (Or.inl ⟨by rfl, ?_⟩) hHeld ?_ ?_; rotate_left
  ·rintro w' ⟨s0, s1⟩; go_simp
   with_reducible rfl
  rotate_left
  ·simp only [Act.put, sA, sB, sC, i64_w, i32_w]
   rfl
  refine take_ (i := 9) (N := some 14) (v := ?_) (a' := ?_) #[Y,Y,Y,Y,Y,Y,Y,Y,Y,Y,N,N] rfl rfl (take_ofW HT_.out HW_.out (by kernel_rfl)) (fun _ _ _ h => h) (Or.inl ⟨by rfl, ?_⟩) hHeld ?_ ?_; rotate_left
  ·rintro w' ⟨s0, s1⟩; go_simp
   with_reducible rfl
  rotate_left
  ·simp only [Act.put, sA, sB, sC, i64_w, i32_w]
   rfl
  refine pureA_ (i := 10) (N := some 15) #[Y,Y,Y,Y,Y,Y,Y,Y,Y,Y,Y,N] rfl rfl (any_of HT_.out (by kernel_rfl)) ?_
  refine one_ (i := 11) (N := none) #[Y,Y,Y,Y,Y,Y,Y,Y,Y,Y,Y,Y] rfl rfl (one_of HT_.out (by kernel_rfl)) (by decide) (fun K hK => ?_); have hs13 := czZ BK122 0 (.bool false); have hfs13 := blk_frozen BK122.out 0; have hns13_0 := NB121_122.out; have hms13_0 := NB122_121.out; have hs14 := czZ BK122 1 (.int .u64 0); have hfs14 := blk_frozen BK122.out 1; have hns14_0 := NB121_122.out; have hms14_0 := NB122_121.out; have hs15 := czZ BK122 2 (.int .u64 0); have hfs15 := blk_frozen BK122.out 2; have hns15_0 := NB121_122.out; have hms15_0 := NB122_121.out; refine skip_ (w1 := ?_) (by rfl) rfl ?_ ?_; rotate_left
  ·go_simp
   rfl
  refine hK.out _ _ ⟨((cell_far (p := ⟨gb122, _, none⟩) NB121_122.out _).trans (((cell_far (p := ⟨gb122, _, none⟩) NB121_122.out _).trans (((cell_far (p := ⟨gb122, _, none⟩) NB121_122.out _).trans (hHeld.1)))))), ((cell_far (p := ⟨gb122, _, none⟩) NB121_122.out _).trans (((cell_far (p := ⟨gb122, _, none⟩) NB121_122.out _).trans (((cell_far (p := ⟨gb122, _, none⟩) NB121_122.out _).trans (hHeld.2))))))⟩ (fun hHeld => ?_); clear hK K; refine done_ (done_of HT_.out (by kernel_rfl)) ?_
  try go_wp2
  refine bodyPost_ret (results_cell_row rfl _ _ gb122 24 #[.bool false, .int .u64 a0_0, .int .u64 a0_1] (0, 0) _ rfl (by (with_reducible repeat first | apply blk_drewN | apply blk_drew | apply blk_alloc); refine blk_put (cs := #[.bool false, .int .u64 a0_0, .int .u64 0]) ?_ 2 _ rfl; (with_reducible repeat first | apply blk_drewN | apply blk_drew | apply blk_alloc); refine blk_put (cs := #[.bool false, .int .u64 0, .int .u64 0]) ?_ 1 _ rfl; (with_reducible repeat first | apply blk_drewN | apply blk_drew | apply blk_alloc); refine blk_put (cs := #[.bool false, .int .u64 0, .int .u64 0]) ?_ 0 _ rfl; (with_reducible repeat first | apply blk_drewN | apply blk_drew | apply blk_alloc); exact BK122.out) Try.underlying24 rfl (by kernel_rfl)) rfl ?_; exact ⟨by first | rfl | (simp [errW_none, errW_some] <;> rfl) | (simp [*, errW_none, errW_some] <;> rfl), by repeat (first | (with_reducible first | exact HB.out | apply below_alloc | apply pw_below_drewN | apply below_drew1 | refine below_set ?_ (Aside0.out (by assumption))) | exact HB.out)⟩

/-! ### bits_Add64: function 25 -/
noncomputable def bits_Add64.f (x y c : Int) : Option (Int × Int) := Go.Proofs.Ytlcobnngpcabpaa.Sp.need (0 ≤ x ∧ 0 ≤ y ∧ 0 ≤ c ∧ c ≤ 1) (some ((x + y + c) % 18446744073709551616, (x + y + c) / 18446744073709551616))
theorem bits_Add64.runs (x y c r1 r2 : Int) (h : bits_Add64.f x y c = some (r1, r2)) (w : World) :
  (callFunc 25 #[.int .u64 x, .int .u64 y, .int .u64 c]).run Try.prog w = .ok (.value (.tuple #[.int .u64 r1, .int .u64 r2])) w := by
 obtain ⟨hc, h⟩ := Go.Proofs.Ytlcobnngpcabpaa.Sp.need_some h; obtain ⟨h1, h2, h3, h4⟩ := hc; simp only [Option.some.injEq, Prod.mk.injEq] at h; obtain ⟨rfl, rfl⟩ := h
 rw [run_callFunc_extern (e := add64Entry) Try.func25 (by kernel_rfl) (by kernel_rfl) (by kernel_rfl) (by kernel_rfl), run_add64 x y c h1 h2 h3 h4]
 rfl

end Go.Proofs.Ytlcobnngpcabpaa.Px
