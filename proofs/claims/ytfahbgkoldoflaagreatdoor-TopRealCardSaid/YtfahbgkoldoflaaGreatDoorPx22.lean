/- By hand. Conditions: none beside the theorems' own. -/
import Derived.Test.YtfahbgkoldoflaaGreatDoorPx0
import Derived.Test.YtfahbgkoldoflaaGreatDoorPx7
import Derived.Test.YtfahbgkoldoflaaGreatDoorPx21
namespace Go.Proofs.YtfahbgkoldoflaaGreatDoor.Px
open Go.RowKit Go.Proofs.YtfahbgkoldoflaaGreatDoorW.PrintWords Go.Proofs.YtfahbgkoldoflaaGreatDoorW.PrintLast Go.Proofs.YtfahbgkoldoflaaGreatDoorW.PrintMore
attribute [local go_sem] max2_int min2_int max_two min_two max_three min_three max_four min_four   -- for this text's walks alone
set_option linter.unusedVariables false
set_option linter.unusedSimpArgs false

/-! ### top_timeout: function 46 -/
/-! top: by hand -/
set_option maxRecDepth 100000 in
set_option maxHeartbeats 1000000 in
theorem line_slow (g : Nat) (s : Ln) (b : Bool) (hb : decide (s.win < s.thresh) = b) (w : World) (hA : LnAt w g s) :
    Calls Tryz.prog 76 #[.pointer (some ⟨g, 0, none⟩)] w fun e w' => e = .returned (.bool b) ∧ Below w.heap.size w w' := by
  have HA := Aside0.mk hA
  have HW := Aside0.mk (Below.refl w.heap.size w)
  clear hA
  go_enter Tryz.func76, Tryz.ntmps76
  go_upto_region 1 with fail
  replace HA := Aside0.mk HA.out.drew
  replace HW := Aside0.mk (below_drew1 HW.out)
  refine start_ (n := 12) (S := fun w' => w'.cell? ⟨g, 9, none⟩ = some (.int .i64 s.win) ∧ w'.cell? ⟨g, 10, none⟩ = some (.int .i64 s.thresh)) (ds := []) #[N,N,N,N,N,N,N,N,N,N,N,N] (by kernel_rfl) rfl rfl ⟨LnAt.cell HA 9 (.int .i64 s.win), LnAt.cell HA 10 (.int .i64 s.thresh)⟩ (fun hHeld => ?_)
  generalize w.drew = w1 at HA HW hHeld ⊢
  refine pureA_ (i := 0) (N := some 3) #[Y,N,N,N,N,N,N,N,N,N,N,N] rfl rfl (by kernel_rfl) ?_
  refine pureA_ (i := 1) (N := some 4) #[Y,Y,N,N,N,N,N,N,N,N,N,N] rfl rfl (by kernel_rfl) ?_
  refine pureA_ (i := 2) (N := some 5) #[Y,Y,Y,N,N,N,N,N,N,N,N,N] rfl rfl (by kernel_rfl) ?_
  refine pureA_ (i := 3) (N := some 6) #[Y,Y,Y,Y,N,N,N,N,N,N,N,N] rfl rfl (by kernel_rfl) ?_
  refine take_ (i := 4) (N := some 7) (v := ?_) (a' := ?_) #[Y,Y,Y,Y,Y,N,N,N,N,N,N,N] rfl rfl (by kernel_rfl) (fun _ _ _ h => h) (Or.inl ⟨by rfl, ?_⟩) hHeld ?_ ?_; rotate_left
  · rintro w' ⟨s0, s1⟩; go_simp
    with_reducible rfl
  rotate_left
  · simp only [Act.put, sA, sB, sC, i64_w, i32_w]
    rfl
  refine pureA_ (i := 5) (N := some 8) #[Y,Y,Y,Y,Y,Y,N,N,N,N,N,N] rfl rfl (by kernel_rfl) ?_
  refine pureA_ (i := 6) (N := some 9) #[Y,Y,Y,Y,Y,Y,Y,N,N,N,N,N] rfl rfl (by kernel_rfl) ?_
  refine pureA_ (i := 7) (N := some 10) #[Y,Y,Y,Y,Y,Y,Y,Y,N,N,N,N] rfl rfl (by kernel_rfl) ?_
  refine pureA_ (i := 8) (N := some 11) #[Y,Y,Y,Y,Y,Y,Y,Y,Y,N,N,N] rfl rfl (by kernel_rfl) ?_
  refine take_ (i := 9) (N := some 12) (v := ?_) (a' := ?_) #[Y,Y,Y,Y,Y,Y,Y,Y,Y,Y,N,N] rfl rfl (by kernel_rfl) (fun _ _ _ h => h) (Or.inl ⟨by rfl, ?_⟩) hHeld ?_ ?_; rotate_left
  · rintro w' ⟨s0, s1⟩; go_simp
    with_reducible rfl
  rotate_left
  · simp only [Act.put, sA, sB, sC, i64_w, i32_w]
    rfl
  refine pureA_ (i := 10) (N := some 13) #[Y,Y,Y,Y,Y,Y,Y,Y,Y,Y,Y,N] rfl rfl (by kernel_rfl) ?_
  refine pureA_ (i := 11) (N := some 2) #[Y,Y,Y,Y,Y,Y,Y,Y,Y,Y,Y,Y] rfl rfl (by kernel_rfl) ?_
  refine done_ (by kernel_rfl) ?_
  go_wp2
  go_ret
  subst hb; exact ⟨rfl, HW.out⟩

set_option maxRecDepth 100000 in
set_option maxHeartbeats 1000000 in
theorem line_resolved (g : Nat) (s : Ln) (n : Int) (hn : wrap64 (s.sent - s.out) = n) (w : World) (hA : LnAt w g s) :
    Calls Tryz.prog 86 #[.pointer (some ⟨g, 0, none⟩)] w fun e w' => e = .returned (.int .i64 n) ∧ Below w.heap.size w w' := by
  have HA := Aside0.mk hA
  have HW := Aside0.mk (Below.refl w.heap.size w)
  clear hA
  go_enter Tryz.func86, Tryz.ntmps86
  go_upto_region 1 with fail
  replace HA := Aside0.mk HA.out.drew
  replace HW := Aside0.mk (below_drew1 HW.out)
  refine start_ (n := 14) (S := fun w' => w'.cell? ⟨g, 12, none⟩ = some (.int .i64 s.sent) ∧ w'.cell? ⟨g, 14, none⟩ = some (.int .i64 s.out)) (ds := []) #[N,N,N,N,N,N,N,N,N,N,N,N,N,N] (by kernel_rfl) rfl rfl ⟨LnAt.cell HA 12 (.int .i64 s.sent), LnAt.cell HA 14 (.int .i64 s.out)⟩ (fun hHeld => ?_)
  generalize w.drew = w1 at HA HW hHeld ⊢
  refine pureA_ (i := 0) (N := some 3) #[Y,N,N,N,N,N,N,N,N,N,N,N,N,N] rfl rfl (by kernel_rfl) ?_
  refine pureA_ (i := 1) (N := some 4) #[Y,Y,N,N,N,N,N,N,N,N,N,N,N,N] rfl rfl (by kernel_rfl) ?_
  refine pureA_ (i := 2) (N := some 5) #[Y,Y,Y,N,N,N,N,N,N,N,N,N,N,N] rfl rfl (by kernel_rfl) ?_
  refine pureA_ (i := 3) (N := some 6) #[Y,Y,Y,Y,N,N,N,N,N,N,N,N,N,N] rfl rfl (by kernel_rfl) ?_
  refine pureA_ (i := 4) (N := some 7) #[Y,Y,Y,Y,Y,N,N,N,N,N,N,N,N,N] rfl rfl (by kernel_rfl) ?_
  refine take_ (i := 5) (N := some 8) (v := ?_) (a' := ?_) #[Y,Y,Y,Y,Y,Y,N,N,N,N,N,N,N,N] rfl rfl (by kernel_rfl) (fun _ _ _ h => h) (Or.inl ⟨by rfl, ?_⟩) hHeld ?_ ?_; rotate_left
  · rintro w' ⟨s0, s1⟩; go_simp
    with_reducible rfl
  rotate_left
  · simp only [Act.put, sA, sB, sC, i64_w, i32_w]
    rfl
  refine pureA_ (i := 6) (N := some 9) #[Y,Y,Y,Y,Y,Y,Y,N,N,N,N,N,N,N] rfl rfl (by kernel_rfl) ?_
  refine pureA_ (i := 7) (N := some 10) #[Y,Y,Y,Y,Y,Y,Y,Y,N,N,N,N,N,N] rfl rfl (by kernel_rfl) ?_
  refine pureA_ (i := 8) (N := some 11) #[Y,Y,Y,Y,Y,Y,Y,Y,Y,N,N,N,N,N] rfl rfl (by kernel_rfl) ?_
  refine pureA_ (i := 9) (N := some 12) #[Y,Y,Y,Y,Y,Y,Y,Y,Y,Y,N,N,N,N] rfl rfl (by kernel_rfl) ?_
  refine pureA_ (i := 10) (N := some 13) #[Y,Y,Y,Y,Y,Y,Y,Y,Y,Y,Y,N,N,N] rfl rfl (by kernel_rfl) ?_
  refine take_ (i := 11) (N := some 14) (v := ?_) (a' := ?_) #[Y,Y,Y,Y,Y,Y,Y,Y,Y,Y,Y,Y,N,N] rfl rfl (by kernel_rfl) (fun _ _ _ h => h) (Or.inl ⟨by rfl, ?_⟩) hHeld ?_ ?_; rotate_left
  · rintro w' ⟨s0, s1⟩; go_simp
    with_reducible rfl
  rotate_left
  · simp only [Act.put, sA, sB, sC, i64_w, i32_w]
    rfl
  refine pureA_ (i := 12) (N := some 15) #[Y,Y,Y,Y,Y,Y,Y,Y,Y,Y,Y,Y,Y,N] rfl rfl (by kernel_rfl) ?_
  refine pureA_ (i := 13) (N := some 2) #[Y,Y,Y,Y,Y,Y,Y,Y,Y,Y,Y,Y,Y,Y] rfl rfl (by kernel_rfl) ?_
  refine done_ (by kernel_rfl) ?_
  go_wp2
  go_ret
  subst hn; exact ⟨rfl, HW.out⟩

set_option maxRecDepth 100000 in
set_option maxHeartbeats 1000000 in
theorem line_burst (g : Nat) (s : Ln) (n : Int) (hn : wrap64 (s.burst * s.seg) = n) (w : World) (hA : LnAt w g s) :
    Calls Tryz.prog 37 #[.pointer (some ⟨g, 0, none⟩)] w fun e w' => e = .returned (.int .i64 n) ∧ Below w.heap.size w w' := by
  have HA := Aside0.mk hA
  have HW := Aside0.mk (Below.refl w.heap.size w)
  clear hA
  go_enter Tryz.func37, Tryz.ntmps37
  go_upto_region 1 with fail
  replace HA := Aside0.mk HA.out.drew
  replace HW := Aside0.mk (below_drew1 HW.out)
  refine start_ (n := 14) (S := fun w' => w'.cell? ⟨g, 6, none⟩ = some (.int .i64 s.burst) ∧ w'.cell? ⟨g, 0, none⟩ = some (.int .i64 s.seg)) (ds := []) #[N,N,N,N,N,N,N,N,N,N,N,N,N,N] (by kernel_rfl) rfl rfl ⟨LnAt.cell HA 6 (.int .i64 s.burst), LnAt.cell HA 0 (.int .i64 s.seg)⟩ (fun hHeld => ?_)
  generalize w.drew = w1 at HA HW hHeld ⊢
  refine pureA_ (i := 0) (N := some 3) #[Y,N,N,N,N,N,N,N,N,N,N,N,N,N] rfl rfl (by kernel_rfl) ?_
  refine pureA_ (i := 1) (N := some 4) #[Y,Y,N,N,N,N,N,N,N,N,N,N,N,N] rfl rfl (by kernel_rfl) ?_
  refine pureA_ (i := 2) (N := some 5) #[Y,Y,Y,N,N,N,N,N,N,N,N,N,N,N] rfl rfl (by kernel_rfl) ?_
  refine pureA_ (i := 3) (N := some 6) #[Y,Y,Y,Y,N,N,N,N,N,N,N,N,N,N] rfl rfl (by kernel_rfl) ?_
  refine pureA_ (i := 4) (N := some 7) #[Y,Y,Y,Y,Y,N,N,N,N,N,N,N,N,N] rfl rfl (by kernel_rfl) ?_
  refine take_ (i := 5) (N := some 8) (v := ?_) (a' := ?_) #[Y,Y,Y,Y,Y,Y,N,N,N,N,N,N,N,N] rfl rfl (by kernel_rfl) (fun _ _ _ h => h) (Or.inl ⟨by rfl, ?_⟩) hHeld ?_ ?_; rotate_left
  · rintro w' ⟨s0, s1⟩; go_simp
    with_reducible rfl
  rotate_left
  · simp only [Act.put, sA, sB, sC, i64_w, i32_w]
    rfl
  refine pureA_ (i := 6) (N := some 9) #[Y,Y,Y,Y,Y,Y,Y,N,N,N,N,N,N,N] rfl rfl (by kernel_rfl) ?_
  refine pureA_ (i := 7) (N := some 10) #[Y,Y,Y,Y,Y,Y,Y,Y,N,N,N,N,N,N] rfl rfl (by kernel_rfl) ?_
  refine pureA_ (i := 8) (N := some 11) #[Y,Y,Y,Y,Y,Y,Y,Y,Y,N,N,N,N,N] rfl rfl (by kernel_rfl) ?_
  refine pureA_ (i := 9) (N := some 12) #[Y,Y,Y,Y,Y,Y,Y,Y,Y,Y,N,N,N,N] rfl rfl (by kernel_rfl) ?_
  refine pureA_ (i := 10) (N := some 13) #[Y,Y,Y,Y,Y,Y,Y,Y,Y,Y,Y,N,N,N] rfl rfl (by kernel_rfl) ?_
  refine take_ (i := 11) (N := some 14) (v := ?_) (a' := ?_) #[Y,Y,Y,Y,Y,Y,Y,Y,Y,Y,Y,Y,N,N] rfl rfl (by kernel_rfl) (fun _ _ _ h => h) (Or.inl ⟨by rfl, ?_⟩) hHeld ?_ ?_; rotate_left
  · rintro w' ⟨s0, s1⟩; go_simp
    with_reducible rfl
  rotate_left
  · simp only [Act.put, sA, sB, sC, i64_w, i32_w]
    rfl
  refine pureA_ (i := 12) (N := some 15) #[Y,Y,Y,Y,Y,Y,Y,Y,Y,Y,Y,Y,Y,N] rfl rfl (by kernel_rfl) ?_
  refine pureA_ (i := 13) (N := some 2) #[Y,Y,Y,Y,Y,Y,Y,Y,Y,Y,Y,Y,Y,Y] rfl rfl (by kernel_rfl) ?_
  refine done_ (by kernel_rfl) ?_
  go_wp2
  go_ret
  subst hn; exact ⟨rfl, HW.out⟩

set_option maxRecDepth 100000 in
set_option maxHeartbeats 1000000 in
theorem line_recovers (g : Nat) (s : Ln) (n : Int) (b : Bool) (hn : Aside0 (wrap64 (s.sent - s.out) = n)) (hb : decide (n < s.recov) = b) (w : World) (hA : LnAt w g s) :
    Calls Tryz.prog 89 #[.pointer (some ⟨g, 0, none⟩)] w fun e w' => e = .returned (.bool b) ∧ Below w.heap.size w w' := by
  have HA := Aside0.mk hA
  have HW := Aside0.mk (Below.refl w.heap.size w)
  clear hA
  go_enter Tryz.func89, Tryz.ntmps89
  go_upto_region 1 with fail
  replace HA := Aside0.mk HA.out.drew
  replace HW := Aside0.mk (below_drew1 HW.out)
  refine start_ (n := 9) (S := fun w' => w'.cell? ⟨g, 34, none⟩ = some (.int .i64 s.recov)) (ds := []) #[N,N,N,N,N,N,N,N,N] (by kernel_rfl) rfl rfl (LnAt.cell HA 34 (.int .i64 s.recov)) (fun hHeld => ?_)
  generalize w.drew = w1 at HA HW hHeld ⊢
  refine pureA_ (i := 0) (N := some 3) #[Y,N,N,N,N,N,N,N,N] rfl rfl (by kernel_rfl) ?_
  refine pureA_ (i := 2) (N := some 5) #[Y,N,Y,N,N,N,N,N,N] rfl rfl (by kernel_rfl) ?_
  refine pureA_ (i := 3) (N := some 6) #[Y,N,Y,Y,N,N,N,N,N] rfl rfl (by kernel_rfl) ?_
  refine pureA_ (i := 4) (N := some 7) #[Y,N,Y,Y,Y,N,N,N,N] rfl rfl (by kernel_rfl) ?_
  refine pureA_ (i := 5) (N := some 8) #[Y,N,Y,Y,Y,Y,N,N,N] rfl rfl (by kernel_rfl) ?_
  refine take_ (i := 6) (N := some 9) (v := ?_) (a' := ?_) #[Y,N,Y,Y,Y,Y,Y,N,N] rfl rfl (by kernel_rfl) (fun _ _ _ h => h) (Or.inl ⟨by rfl, ?_⟩) hHeld ?_ ?_; rotate_left
  · rintro w' s0; go_simp
    with_reducible rfl
  rotate_left
  · simp only [Act.put, sA, sB, sC, i64_w, i32_w]
    rfl
  refine one_ (i := 1) (N := some 4) #[Y,Y,Y,Y,Y,Y,Y,N,N] rfl rfl (by kernel_rfl) (by decide) (fun K hK => ?_)
  refine goesA_ Tryz.func86 rfl #[.pointer (some ⟨g, 0, none⟩)] (by rfl) rfl rfl ?_
  (with_reducible refine (line_resolved g s n hn.out _ HA.out).mono ?_); rintro e w2 ⟨rfl, hb⟩; refine ⟨_, rfl, ?_⟩; replace HA := Aside0.mk (HA.out.below hb); replace HW := Aside0.mk (below_step HW.out hb); clear hb
  refine hK.out _ _ (LnAt.cell HA 34 (.int .i64 s.recov)) (fun hHeld => ?_); clear hK K; refine normA_ (some 4) ?_
  refine pureA_ (i := 7) (N := some 10) #[Y,Y,Y,Y,Y,Y,Y,Y,N] rfl rfl (by kernel_rfl) ?_
  refine pureA_ (i := 8) (N := some 2) #[Y,Y,Y,Y,Y,Y,Y,Y,Y] rfl rfl (by kernel_rfl) ?_
  refine done_ (by kernel_rfl) ?_
  go_wp2
  go_ret
  subst hb; exact ⟨rfl, HW.out⟩

set_option maxRecDepth 100000 in
set_option maxHeartbeats 1000000 in
theorem line_rate (g : Nat) (s : Ln) (b : Bool) (r : Int) (hb : Aside0 (decide (s.win < s.thresh) = b)) (hr : Aside0 (rate_OfS.f s.win s.seg s.has s.mean s.far b = some r)) (w : World) (hA : LnAt w g s) :
    Calls Tryz.prog 36 #[.pointer (some ⟨g, 0, none⟩)] w fun e w' => e = .returned (.int .i64 r) ∧ Below w.heap.size w w' := by
  have HA := Aside0.mk hA
  have HW := Aside0.mk (Below.refl w.heap.size w)
  clear hA
  go_enter Tryz.func36, Tryz.ntmps36
  go_upto_region 1 with fail
  replace HA := Aside0.mk HA.out.drew
  replace HW := Aside0.mk (below_drew1 HW.out)
  refine start_ (n := 20) (S := fun w' => w'.cell? ⟨g, 9, none⟩ = some (.int .i64 s.win) ∧ w'.cell? ⟨g, 0, none⟩ = some (.int .i64 s.seg) ∧ w'.cell? ⟨g, 15, none⟩ = some (.bool s.has) ∧ w'.cell? ⟨g, 16, none⟩ = some (.int .i64 s.mean) ∧ w'.cell? ⟨g, 17, none⟩ = some (.int .i64 s.far)) (ds := []) #[N,N,N,N,N,N,N,N,N,N,N,N,N,N,N,N,N,N,N,N] (by kernel_rfl) rfl rfl ⟨LnAt.cell HA 9 (.int .i64 s.win), LnAt.cell HA 0 (.int .i64 s.seg), LnAt.cell HA 15 (.bool s.has), LnAt.cell HA 16 (.int .i64 s.mean), LnAt.cell HA 17 (.int .i64 s.far)⟩ (fun hHeld => ?_)
  generalize w.drew = w1 at HA HW hHeld ⊢
  refine pureA_ (i := 0) (N := some 3) #[Y,N,N,N,N,N,N,N,N,N,N,N,N,N,N,N,N,N,N,N] rfl rfl (by kernel_rfl) ?_
  refine pureA_ (i := 1) (N := some 4) #[Y,Y,N,N,N,N,N,N,N,N,N,N,N,N,N,N,N,N,N,N] rfl rfl (by kernel_rfl) ?_
  refine pureA_ (i := 2) (N := some 5) #[Y,Y,Y,N,N,N,N,N,N,N,N,N,N,N,N,N,N,N,N,N] rfl rfl (by kernel_rfl) ?_
  refine pureA_ (i := 3) (N := some 6) #[Y,Y,Y,Y,N,N,N,N,N,N,N,N,N,N,N,N,N,N,N,N] rfl rfl (by kernel_rfl) ?_
  refine take_ (i := 4) (N := some 7) (v := ?_) (a' := ?_) #[Y,Y,Y,Y,Y,N,N,N,N,N,N,N,N,N,N,N,N,N,N,N] rfl rfl (by kernel_rfl) (fun _ _ _ h => h) (Or.inl ⟨by rfl, ?_⟩) hHeld ?_ ?_; rotate_left
  · rintro w' ⟨s0, s1, s2, s3, s4⟩; go_simp
    with_reducible rfl
  rotate_left
  · simp only [Act.put, sA, sB, sC, i64_w, i32_w]
    rfl
  refine pureA_ (i := 5) (N := some 8) #[Y,Y,Y,Y,Y,Y,N,N,N,N,N,N,N,N,N,N,N,N,N,N] rfl rfl (by kernel_rfl) ?_
  refine pureA_ (i := 6) (N := some 9) #[Y,Y,Y,Y,Y,Y,Y,N,N,N,N,N,N,N,N,N,N,N,N,N] rfl rfl (by kernel_rfl) ?_
  refine pureA_ (i := 7) (N := some 10) #[Y,Y,Y,Y,Y,Y,Y,Y,N,N,N,N,N,N,N,N,N,N,N,N] rfl rfl (by kernel_rfl) ?_
  refine pureA_ (i := 8) (N := some 11) #[Y,Y,Y,Y,Y,Y,Y,Y,Y,N,N,N,N,N,N,N,N,N,N,N] rfl rfl (by kernel_rfl) ?_
  refine pureA_ (i := 9) (N := some 12) #[Y,Y,Y,Y,Y,Y,Y,Y,Y,Y,N,N,N,N,N,N,N,N,N,N] rfl rfl (by kernel_rfl) ?_
  refine take_ (i := 10) (N := some 13) (v := ?_) (a' := ?_) #[Y,Y,Y,Y,Y,Y,Y,Y,Y,Y,Y,N,N,N,N,N,N,N,N,N] rfl rfl (by kernel_rfl) (fun _ _ _ h => h) (Or.inl ⟨by rfl, ?_⟩) hHeld ?_ ?_; rotate_left
  · rintro w' ⟨s0, s1, s2, s3, s4⟩; go_simp
    with_reducible rfl
  rotate_left
  · simp only [Act.put, sA, sB, sC, i64_w, i32_w]
    rfl
  refine pureA_ (i := 11) (N := some 14) #[Y,Y,Y,Y,Y,Y,Y,Y,Y,Y,Y,Y,N,N,N,N,N,N,N,N] rfl rfl (by kernel_rfl) ?_
  refine pureA_ (i := 12) (N := some 15) #[Y,Y,Y,Y,Y,Y,Y,Y,Y,Y,Y,Y,Y,N,N,N,N,N,N,N] rfl rfl (by kernel_rfl) ?_
  refine pureA_ (i := 13) (N := some 16) #[Y,Y,Y,Y,Y,Y,Y,Y,Y,Y,Y,Y,Y,Y,N,N,N,N,N,N] rfl rfl (by kernel_rfl) ?_
  refine pureA_ (i := 14) (N := some 17) #[Y,Y,Y,Y,Y,Y,Y,Y,Y,Y,Y,Y,Y,Y,Y,N,N,N,N,N] rfl rfl (by kernel_rfl) ?_
  refine take_ (i := 15) (N := some 18) (v := ?_) (a' := ?_) #[Y,Y,Y,Y,Y,Y,Y,Y,Y,Y,Y,Y,Y,Y,Y,Y,N,N,N,N] rfl rfl (by kernel_rfl) (fun _ _ _ h => h) (Or.inl ⟨by rfl, ?_⟩) hHeld ?_ ?_; rotate_left
  · rintro w' ⟨s0, s1, s2, s3, s4⟩; go_simp
    with_reducible rfl
  rotate_left
  · simp only [Act.put, sA, sB, sC, i64_w, i32_w]
    rfl
  refine pureA_ (i := 16) (N := some 19) #[Y,Y,Y,Y,Y,Y,Y,Y,Y,Y,Y,Y,Y,Y,Y,Y,Y,N,N,N] rfl rfl (by kernel_rfl) ?_
  refine one_ (i := 17) (N := some 20) #[Y,Y,Y,Y,Y,Y,Y,Y,Y,Y,Y,Y,Y,Y,Y,Y,Y,Y,N,N] rfl rfl (by kernel_rfl) (by decide) (fun K hK => ?_)
  refine goesA_ Tryz.func76 rfl #[.pointer (some ⟨g, 0, none⟩)] (by rfl) rfl rfl ?_
  (with_reducible refine (line_slow g s b hb.out _ HA.out).mono ?_); rintro e w2 ⟨rfl, hb⟩; refine ⟨_, rfl, ?_⟩; replace HA := Aside0.mk (HA.out.below hb); replace HW := Aside0.mk (below_step HW.out hb); clear hb
  refine hK.out _ _ ⟨LnAt.cell HA 9 (.int .i64 s.win), LnAt.cell HA 0 (.int .i64 s.seg), LnAt.cell HA 15 (.bool s.has), LnAt.cell HA 16 (.int .i64 s.mean), LnAt.cell HA 17 (.int .i64 s.far)⟩ (fun hHeld => ?_); clear hK K; refine normA_ (some 20) ?_
  refine one_ (i := 18) (N := some 21) #[Y,Y,Y,Y,Y,Y,Y,Y,Y,Y,Y,Y,Y,Y,Y,Y,Y,Y,Y,N] rfl rfl (by kernel_rfl) (by decide) (fun K hK => ?_)
  refine goesA_ Tryz.func75 rfl #[.int .i64 s.win, .int .i64 s.seg, .agg #[.bool s.has, .int .i64 s.mean, .int .i64 s.far], .bool b] (by rfl) rfl rfl ?_
  (with_reducible refine (rate_OfS.calls s.win s.seg s.has s.mean s.far b r _ hr.out).mono ?_); rintro e w3 ⟨rfl, hb⟩; refine ⟨_, rfl, ?_⟩; replace HA := Aside0.mk (HA.out.below hb); replace HW := Aside0.mk (below_step HW.out hb); clear hb
  refine hK.out _ _ ⟨LnAt.cell HA 9 (.int .i64 s.win), LnAt.cell HA 0 (.int .i64 s.seg), LnAt.cell HA 15 (.bool s.has), LnAt.cell HA 16 (.int .i64 s.mean), LnAt.cell HA 17 (.int .i64 s.far)⟩ (fun hHeld => ?_); clear hK K; refine normA_ (some 21) ?_
  refine pureA_ (i := 19) (N := some 2) #[Y,Y,Y,Y,Y,Y,Y,Y,Y,Y,Y,Y,Y,Y,Y,Y,Y,Y,Y,Y] rfl rfl (by kernel_rfl) ?_
  refine done_ (by kernel_rfl) ?_
  go_wp2
  go_ret
  exact ⟨rfl, HW.out⟩

set_option maxRecDepth 100000 in
set_option maxHeartbeats 1000000 in
theorem line_timeout (g : Nat) (s : Ln) (k : Nat) (r : Int) (hr : Aside0 (rto_Of.f k s.has s.mean s.far s.seg s.mx s.fst s.grain s.least s.great s.burst s.back = some r)) (w : World) (hA : LnAt w g s) :
    Calls Tryz.prog 46 #[.pointer (some ⟨g, 0, none⟩)] w fun e w' => e = .returned (.int .i64 r) ∧ Below w.heap.size w w' := by
  have HA := Aside0.mk hA
  have HW := Aside0.mk (Below.refl w.heap.size w)
  clear hA
  go_enter Tryz.func46, Tryz.ntmps46
  go_upto_region 1 with fail
  replace HA := Aside0.mk HA.out.drew
  replace HW := Aside0.mk (below_drew1 HW.out)
  refine start_ (n := 17) (S := fun w' => w'.cell? ⟨g, 15, none⟩ = some (.bool s.has) ∧ w'.cell? ⟨g, 16, none⟩ = some (.int .i64 s.mean) ∧ w'.cell? ⟨g, 17, none⟩ = some (.int .i64 s.far) ∧ w'.cell? ⟨g, 0, none⟩ = some (.int .i64 s.seg) ∧ w'.cell? ⟨g, 1, none⟩ = some (.int .i64 s.mx) ∧ w'.cell? ⟨g, 2, none⟩ = some (.int .i64 s.fst) ∧ w'.cell? ⟨g, 3, none⟩ = some (.int .i64 s.grain) ∧ w'.cell? ⟨g, 4, none⟩ = some (.int .i64 s.least) ∧ w'.cell? ⟨g, 5, none⟩ = some (.int .i64 s.great) ∧ w'.cell? ⟨g, 6, none⟩ = some (.int .i64 s.burst) ∧ w'.cell? ⟨g, 35, none⟩ = some (.int .i64 s.back)) (ds := []) #[N,N,N,N,N,N,N,N,N,N,N,N,N,N,N,N,N] (by kernel_rfl) rfl rfl ⟨LnAt.cell HA 15 (.bool s.has), LnAt.cell HA 16 (.int .i64 s.mean), LnAt.cell HA 17 (.int .i64 s.far), LnAt.cell HA 0 (.int .i64 s.seg), LnAt.cell HA 1 (.int .i64 s.mx), LnAt.cell HA 2 (.int .i64 s.fst), LnAt.cell HA 3 (.int .i64 s.grain), LnAt.cell HA 4 (.int .i64 s.least), LnAt.cell HA 5 (.int .i64 s.great), LnAt.cell HA 6 (.int .i64 s.burst), LnAt.cell HA 35 (.int .i64 s.back)⟩ (fun hHeld => ?_)
  generalize w.drew = w1 at HA HW hHeld ⊢
  refine pureA_ (i := 0) (N := some 3) #[Y,N,N,N,N,N,N,N,N,N,N,N,N,N,N,N,N] rfl rfl (by kernel_rfl) ?_
  refine pureA_ (i := 1) (N := some 4) #[Y,Y,N,N,N,N,N,N,N,N,N,N,N,N,N,N,N] rfl rfl (by kernel_rfl) ?_
  refine pureA_ (i := 2) (N := some 5) #[Y,Y,Y,N,N,N,N,N,N,N,N,N,N,N,N,N,N] rfl rfl (by kernel_rfl) ?_
  refine pureA_ (i := 3) (N := some 6) #[Y,Y,Y,Y,N,N,N,N,N,N,N,N,N,N,N,N,N] rfl rfl (by kernel_rfl) ?_
  refine take_ (i := 4) (N := some 7) (v := ?_) (a' := ?_) #[Y,Y,Y,Y,Y,N,N,N,N,N,N,N,N,N,N,N,N] rfl rfl (by kernel_rfl) (fun _ _ _ h => h) (Or.inl ⟨by rfl, ?_⟩) hHeld ?_ ?_; rotate_left
  · rintro w' ⟨s0, s1, s2, s3, s4, s5, s6, s7, s8, s9, s10⟩; go_simp
    with_reducible rfl
  rotate_left
  · simp only [Act.put, sA, sB, sC, i64_w, i32_w]
    rfl
  refine pureA_ (i := 5) (N := some 8) #[Y,Y,Y,Y,Y,Y,N,N,N,N,N,N,N,N,N,N,N] rfl rfl (by kernel_rfl) ?_
  refine pureA_ (i := 6) (N := some 9) #[Y,Y,Y,Y,Y,Y,Y,N,N,N,N,N,N,N,N,N,N] rfl rfl (by kernel_rfl) ?_
  refine pureA_ (i := 7) (N := some 10) #[Y,Y,Y,Y,Y,Y,Y,Y,N,N,N,N,N,N,N,N,N] rfl rfl (by kernel_rfl) ?_
  refine pureA_ (i := 8) (N := some 11) #[Y,Y,Y,Y,Y,Y,Y,Y,Y,N,N,N,N,N,N,N,N] rfl rfl (by kernel_rfl) ?_
  refine take_ (i := 9) (N := some 12) (v := ?_) (a' := ?_) #[Y,Y,Y,Y,Y,Y,Y,Y,Y,Y,N,N,N,N,N,N,N] rfl rfl (by kernel_rfl) (fun _ _ _ h => h) (Or.inl ⟨by rfl, ?_⟩) hHeld ?_ ?_; rotate_left
  · rintro w' ⟨s0, s1, s2, s3, s4, s5, s6, s7, s8, s9, s10⟩; go_simp
    with_reducible rfl
  rotate_left
  · simp only [Act.put, sA, sB, sC, i64_w, i32_w]
    rfl
  refine pureA_ (i := 10) (N := some 13) #[Y,Y,Y,Y,Y,Y,Y,Y,Y,Y,Y,N,N,N,N,N,N] rfl rfl (by kernel_rfl) ?_
  refine pureA_ (i := 11) (N := some 14) #[Y,Y,Y,Y,Y,Y,Y,Y,Y,Y,Y,Y,N,N,N,N,N] rfl rfl (by kernel_rfl) ?_
  refine pureA_ (i := 12) (N := some 15) #[Y,Y,Y,Y,Y,Y,Y,Y,Y,Y,Y,Y,Y,N,N,N,N] rfl rfl (by kernel_rfl) ?_
  refine pureA_ (i := 13) (N := some 16) #[Y,Y,Y,Y,Y,Y,Y,Y,Y,Y,Y,Y,Y,Y,N,N,N] rfl rfl (by kernel_rfl) ?_
  refine take_ (i := 14) (N := some 17) (v := ?_) (a' := ?_) #[Y,Y,Y,Y,Y,Y,Y,Y,Y,Y,Y,Y,Y,Y,Y,N,N] rfl rfl (by kernel_rfl) (fun _ _ _ h => h) (Or.inl ⟨by rfl, ?_⟩) hHeld ?_ ?_; rotate_left
  · rintro w' ⟨s0, s1, s2, s3, s4, s5, s6, s7, s8, s9, s10⟩; go_simp
    with_reducible rfl
  rotate_left
  · simp only [Act.put, sA, sB, sC, i64_w, i32_w]
    rfl
  refine one_ (i := 15) (N := some 18) #[Y,Y,Y,Y,Y,Y,Y,Y,Y,Y,Y,Y,Y,Y,Y,Y,N] rfl rfl (by kernel_rfl) (by decide) (fun K hK => ?_)
  refine goesA_ Tryz.func101 rfl #[.agg #[.bool s.has, .int .i64 s.mean, .int .i64 s.far], .agg #[.int .i64 s.seg, .int .i64 s.mx, .int .i64 s.fst, .int .i64 s.grain, .int .i64 s.least, .int .i64 s.great, .int .i64 s.burst], .int .i64 s.back] (by rfl) rfl rfl ?_
  (with_reducible refine (rto_Of.calls k s.has s.mean s.far s.seg s.mx s.fst s.grain s.least s.great s.burst s.back r _ hr.out).mono ?_); rintro e w2 ⟨rfl, hb⟩; refine ⟨_, rfl, ?_⟩; replace HA := Aside0.mk (HA.out.below hb); replace HW := Aside0.mk (below_step HW.out hb); clear hb
  refine hK.out _ _ ⟨LnAt.cell HA 15 (.bool s.has), LnAt.cell HA 16 (.int .i64 s.mean), LnAt.cell HA 17 (.int .i64 s.far), LnAt.cell HA 0 (.int .i64 s.seg), LnAt.cell HA 1 (.int .i64 s.mx), LnAt.cell HA 2 (.int .i64 s.fst), LnAt.cell HA 3 (.int .i64 s.grain), LnAt.cell HA 4 (.int .i64 s.least), LnAt.cell HA 5 (.int .i64 s.great), LnAt.cell HA 6 (.int .i64 s.burst), LnAt.cell HA 35 (.int .i64 s.back)⟩ (fun hHeld => ?_); clear hK K; refine normA_ (some 18) ?_
  refine pureA_ (i := 16) (N := some 2) #[Y,Y,Y,Y,Y,Y,Y,Y,Y,Y,Y,Y,Y,Y,Y,Y,Y] rfl rfl (by kernel_rfl) ?_
  refine done_ (by kernel_rfl) ?_
  go_wp2
  go_ret
  exact ⟨rfl, HW.out⟩

end Go.Proofs.YtfahbgkoldoflaaGreatDoor.Px
