/- By hand. Conditions: none beside the theorems' own. -/
import Derived.Maps.AppendAt
import Derived.Test.YtfahbgkoldoflaaGreatDoorPx0
import Derived.Test.YtfahbgkoldoflaaGreatDoorPx7
import Derived.Test.YtfahbgkoldoflaaGreatDoorPx8
import Derived.Test.YtfahbgkoldoflaaGreatDoorPx28
import Derived.Test.YtfahbgkoldoflaaGreatDoorPx37
namespace Go.Proofs.YtfahbgkoldoflaaGreatDoor.Px
open Go.RowKit Go.Proofs.YtfahbgkoldoflaaGreatDoorW.PrintWords Go.Proofs.YtfahbgkoldoflaaGreatDoorW.PrintLast Go.Proofs.YtfahbgkoldoflaaGreatDoorW.PrintMore
attribute [local go_sem] max2_int min2_int max_two min_two max_three min_three max_four min_four   -- for this text's walks alone
set_option linter.unusedVariables false
set_option linter.unusedSimpArgs false

/-! ### top_put: function 136 -/
/-! top: by hand -/
theorem ty_ne {w : World} {g : Nat} {t t' : TypeId} {cs cs' : Array Value} (h : w.heap[g]? = some (.cells cs t (0, 0))) (h' : w.heap[g]? = some (.cells cs' t' (0, 0))) (hne : t ≠ t') : False := by
  rw [h] at h'
  injection h' with h2
  injection h2 with _ h3
  exact hne h3
theorem least_own_nil (w : World) : Calls Tryz.prog 157 #[.slice none 0 0] w fun e w' => ∃ g, e = .returned (.slice (some ⟨g, 0, none⟩) 0 0) ∧ w.heap.size ≤ g ∧ w'.heap[g]? = some (.cells #[] 119 (0, 0)) ∧ Below w.heap.size w w' := least_own_w none 0 [] w (Kd.C_nil k119 _) (by decide)
/-- A row of one's own with one mark is read as such. -/
theorem C_of_own {w : World} {base : Nat} {v : Value} {a n : Int} (h : w.ownsRow base 119 2 v 1 [.int .i64 a, .int .i64 n]) : ∃ g c, v = .slice (some ⟨g, 0, none⟩) 1 c ∧ base ≤ g ∧ 1 ≤ c ∧ c ≤ maxLen ∧ Kd.C k119 w (some ⟨g, 0, none⟩) [(⟨a, n⟩ : S119)].length [(⟨a, n⟩ : S119)] := by
  obtain ⟨_, h2⟩ := h
  rcases h2 with ⟨_, h0⟩ | ⟨g, cap, cur, e, hb, hg, hc, hm, hs, ht⟩
  · omega
  · refine ⟨g, cap, e, hb, hc, hm, rfl, by simp, fun _ => ⟨_, rfl, fun j p hp => ?_⟩⟩
    match j, hp with
    | 0, hp =>
      obtain rfl : _ = p := by simpa using hp
      refine ⟨[.int .i64 a, .int .i64 n], rfl, k119_mk w _, fun i u hu => ?_⟩
      have q : ∀ k, k < 2 → w.cell? ⟨g, k, none⟩ = ([.int .i64 a, .int .i64 n] : List Value)[k]? := fun k hk => by
        rw [cell_of_row w g k cur 119 (0, 0) hg, ← ht, List.getElem?_take]
        simp [hk]
      match i, hu with
      | 0, hu => rw [← hu]; simpa [Addr.add] using q 0 (by omega)
      | 1, hu => rw [← hu]; simpa [Addr.add] using q 1 (by omega)

set_option maxRecDepth 100000 in
set_option maxHeartbeats 4000000 in
theorem least_Put_nil (window at_ n : Int) (h1 : 0 ≤ window) (h2 : 0 ≤ at_) (h3 : at_ ≤ 1099511627776) (hp : wrap64 (at_ - window) ≤ at_) (HLC : Aside0 (∀ W : World, Calls Tryz.prog 67 #[.slice none 0 0] W fun e w' => e = .returned (.bool true) ∧ Below W.heap.size W w')) (w : World) :
    Calls Tryz.prog 136 #[.slice none 0 0, .int .i64 window, .int .i64 at_, .int .i64 n] w fun e w' => ∃ A m c, e = .returned (.tuple #[.slice A m c, .int .i64 0]) ∧ Below w.heap.size w w' := by
  have HB := Aside0.mk (Below.refl w.heap.size w)
  have hmf : ∀ (fn : Fn) (first cap : Array Value) (w : World), (Instr.makeFunc fn first cap).run Tryz.prog w = .ok (.func fn first cap) w := fun _ _ _ _ => rfl
  have HS : Aside0 (least_is.f at_ = some true) := ⟨by unfold least_is.f; rw [if_pos h2]; exact congrArg some (decide_eq_true h3)⟩
  have d1 : decide (window < 0) = false := decide_eq_false (by omega)
  obtain ⟨i0, hi0, hzz⟩ := Option.map_eq_some_iff.1 info119'
  simp only [Prod.mk.injEq] at hzz
  obtain ⟨hz0, hz1, hz2⟩ := hzz
  clear h1 h2 h3
  go_enter Tryz.func136, Tryz.ntmps136
  go_upto_region 3 with (first
    | ((with_reducible refine gate_dst (N := 5) rfl ?_); refine box_event ?hg (N := 5) ?hd (cs := #[.int .i64 window]) (t := 3) ?hr ?_; (case hd => rfl); (case hg => rfl); (case hr => first | (go_simp; done) | (go_simp; rfl)); intro b5 hg wb hbox hb; have B5 := Aside0.mk hbox; obtain ⟨G5, nHB⟩ := geA hg hb; replace HB := nHB; clear nHB; clear hg hb hbox)
    | ((with_reducible refine gate_dst (N := 6) rfl ?_); refine box_event ?hg (N := 6) ?hd (cs := #[.int .i64 at_]) (t := 3) ?hr ?_; (case hd => rfl); (case hg => rfl); (case hr => first | (go_simp; done) | (go_simp; rfl)); intro b6 hg wb hbox hb; have B6 := Aside0.mk hbox; obtain ⟨N56, M56, nB⟩ := nbA B5 hg hb; replace B5 := nB; clear nB; obtain ⟨G6, nHB⟩ := geA hg hb; replace HB := nHB; clear nHB; clear hg hb hbox)
    | ((with_reducible refine gate_dst (N := 7) rfl ?_); refine box_event ?hg (N := 7) ?hd (cs := #[.int .i64 n]) (t := 3) ?hr ?_; (case hd => rfl); (case hg => rfl); (case hr => first | (go_simp; done) | (go_simp; rfl)); intro b7 hg wb hbox hb; have B7 := Aside0.mk hbox; obtain ⟨N57, M57, nB⟩ := nbA B5 hg hb; replace B5 := nB; clear nB; obtain ⟨N67, M67, nB⟩ := nbA B6 hg hb; replace B6 := nB; clear nB; obtain ⟨G7, nHB⟩ := geA hg hb; replace HB := nHB; clear nHB; clear hg hb hbox; have z5 := czZ B5 0 (.int .i64 window); have z6 := czZ B6 0 (.int .i64 at_))
    | (go_at_call 67; (with_reducible refine (HLC.out _).mono ?_); rintro e w9 ⟨rfl, hb9⟩; clear z5 z6; replace B5 := bbZ B5 hb9; replace B6 := bbZ B6 hb9; replace B7 := bbZ B7 hb9; replace HB := Aside0.mk (below_step HB.out hb9); clear hb9; have z5 := czZ B5 0 (.int .i64 window); have z6 := czZ B6 0 (.int .i64 at_))
    | (go_at_call 119; (with_reducible refine (least_is.calls at_ true _ HS.out).mono ?_); rintro e w9 ⟨rfl, ⟨nd, rfl⟩⟩)
    | fail)
  go_quiet (fail)
  replace B5 := Aside0.mk (blk_drewN (blk_drewN B5.out nd) nq); replace B6 := Aside0.mk (blk_drewN (blk_drewN B6.out nd) nq); replace B7 := Aside0.mk (blk_drewN (blk_drewN B7.out nd) nq); replace HB := Aside0.mk (pw_below_drewN (pw_below_drewN HB.out nd) nq)
  clear z5 z6
  generalize (w9.drewN nd).drewN nq = wa at B5 B6 B7 HB ⊢
  have HJ := Aside0.mk (marks_index (fun m => decide (m.f1 ≥ n)) 158 Tryz.f158 Tryz.func158 rfl (by kernel_rfl) #[.pointer (some ⟨b7, 0, none⟩)] none 0 [] wa (Kd.C_nil k119 _) ⟨by simp⟩ (fun W m hb => put_ge b7 n m W (blk_below B7.out hb)))
  rw [show firstIx (fun m => decide (m.f1 ≥ n)) [] = -1 from firstIx_miss (fun j hj => absurd hj (Nat.not_lt_zero j))] at HJ
  simp only [List.length_nil] at HJ
  go_upto_region 8 with (first | (go_at_call 120; (with_reducible refine HJ.out.mono ?_); rintro e w9 ⟨rfl, hb9⟩; clear HJ; replace B5 := bbZ B5 hb9; replace B6 := bbZ B6 hb9; replace B7 := bbZ B7 hb9; replace HB := Aside0.mk (below_step HB.out hb9); clear hb9) | fail)
  replace B5 := Aside0.mk (blk_drew B5.out); replace B6 := Aside0.mk (blk_drew B6.out); replace B7 := Aside0.mk (blk_drew B7.out); replace HB := Aside0.mk (below_drew1 HB.out)
  refine start_ (n := 11) (S := fun w' => w'.cell? ⟨b6, 0, none⟩ = some (.int .i64 at_) ∧ w'.cell? ⟨b7, 0, none⟩ = some (.int .i64 n)) (ds := []) #[N,N,N,N,N,N,N,N,N,N,N] (by kernel_rfl) rfl rfl ⟨czZ B6 0 (.int .i64 at_), czZ B7 0 (.int .i64 n)⟩ (fun hHeld => ?_)
  generalize w9.drew = wc at B5 B6 B7 HB hHeld ⊢
  refine pureA_ (i := 0) (N := some 52) #[Y,N,N,N,N,N,N,N,N,N,N] rfl rfl (by kernel_rfl) ?_
  refine pureA_ (i := 1) (N := some 53) #[Y,Y,N,N,N,N,N,N,N,N,N] rfl rfl (by kernel_rfl) ?_
  refine pureA_ (i := 2) (N := some 54) #[Y,Y,Y,N,N,N,N,N,N,N,N] rfl rfl (by kernel_rfl) ?_
  refine pureA_ (i := 3) (N := some 55) #[Y,Y,Y,Y,N,N,N,N,N,N,N] rfl rfl (by kernel_rfl) ?_
  refine take_ (i := 5) (N := some 57) (v := ?_) (a' := ?_) #[Y,Y,Y,Y,N,Y,N,N,N,N,N] rfl rfl (by kernel_rfl) (fun _ _ _ h => h) (Or.inl ⟨by rfl, ?_⟩) hHeld ?_ ?_; rotate_left
  · rintro w' ⟨s0, s1⟩; go_simp
    with_reducible rfl
  rotate_left
  · simp only [Act.put, sA, sB, sC, i64_w, i32_w]
    rfl
  refine take_ (i := 6) (N := some 58) (v := ?_) (a' := ?_) #[Y,Y,Y,Y,N,Y,Y,N,N,N,N] rfl rfl (by kernel_rfl) (fun _ _ _ h => h) (Or.inl ⟨by rfl, ?_⟩) hHeld ?_ ?_; rotate_left
  · rintro w' ⟨s0, s1⟩; go_simp
    with_reducible rfl
  rotate_left
  · simp only [Act.put, sA, sB, sC, i64_w, i32_w]
    rfl
  refine pureA_ (i := 7) (N := some 59) #[Y,Y,Y,Y,N,Y,Y,Y,N,N,N] rfl rfl (by kernel_rfl) ?_
  refine two_ (i := 4) (j := 8) (Ni := some 56) (Nj := some 60) #[Y,Y,Y,Y,Y,Y,Y,Y,N,N,N] #[Y,Y,Y,Y,N,Y,Y,Y,Y,N,N] rfl rfl rfl rfl (by kernel_rfl) (by decide) (by decide) (fun K hK => ?_) (fun K hK => ?_)
  · refine goesA_ Tryz.func157 rfl #[.slice none 0 0] (by rfl) rfl rfl ?_; (with_reducible refine (least_own_nil _).mono ?_); rintro e wo ⟨go, rfl, hgo, hbo, hb⟩; refine ⟨_, rfl, ?_⟩; replace B5 := bbZ B5 hb; replace B6 := bbZ B6 hb; replace B7 := bbZ B7 hb; replace hgo := Nat.le_trans HB.out.size hgo; replace HB := Aside0.mk (below_step HB.out hb); have BO := Aside0.mk hbo; clear hbo hb; refine hK.out _ _ ⟨czZ B6 0 (.int .i64 at_), czZ B7 0 (.int .i64 n)⟩ (fun hHeld => ?_); clear hK K; refine normA_ (some 56) ?_
    refine one_ (i := 8) (N := some 60) #[Y,Y,Y,Y,Y,Y,Y,Y,Y,N,N] rfl rfl (by kernel_rfl) (by decide) (fun K hK => ?_)
    refine val_step (v := .slice (some ⟨wo.heap.size, 0, none⟩) 1 1) (w1 := wo.alloc (.cells #[.int .i64 at_, .int .i64 n] 119)) (by rfl) rfl (by go_simp) ?_; have BN := Aside0.mk (blk_new wo (.cells #[.int .i64 at_, .int .i64 n] 119)); replace B5 := Aside0.mk (blk_alloc B5.out (.cells #[.int .i64 at_, .int .i64 n] 119)); replace B6 := Aside0.mk (blk_alloc B6.out (.cells #[.int .i64 at_, .int .i64 n] 119)); replace B7 := Aside0.mk (blk_alloc B7.out (.cells #[.int .i64 at_, .int .i64 n] 119)); replace BO := Aside0.mk (blk_alloc BO.out (.cells #[.int .i64 at_, .int .i64 n] 119)); replace HB := Aside0.mk (below_alloc HB.out (.cells #[.int .i64 at_, .int .i64 n] 119)); generalize hgn : wo.heap.size = gn at BN ⊢; generalize wo.alloc (.cells #[.int .i64 at_, .int .i64 n] 119) = wn at B5 B6 B7 HB BN BO ⊢; refine hK.out _ _ ⟨czZ B6 0 (.int .i64 at_), czZ B7 0 (.int .i64 n)⟩ (fun hHeld => ?_); clear hK K; refine normA_ (some 60) ?_
    refine one_ (i := 9) (N := some 61) #[Y,Y,Y,Y,Y,Y,Y,Y,Y,Y,N] rfl rfl (by kernel_rfl) (by decide) (fun K hK => ?_)
    obtain ⟨v1, w1, hr, hown, hgr, _, hat⟩ := run_append_own_at (P := Tryz.prog) (w := wn) w.heap.size 40 40 119 i0 _ 2 16 Tryz.underlying40 hi0 hz0 hz1 hz2 rfl (by decide) (.slice (some ⟨go, 0, none⟩) 0 0) 0 [] ⟨rfl, .inr ⟨go, 0, #[], rfl, hgo, BO.out, Nat.le_refl _, by simp [maxLen], rfl, rfl⟩⟩ ⟨gn, 0, none⟩ 1 1 [.int .i64 at_, .int .i64 n] rfl (fun j u hj => by have := (blk_cell BN.out j).trans (by simpa using hj); by_cases h0 : j = 0 <;> simpa [Addr.add, h0] using this) (by simp [Value.oneCell']) (by simp [maxLen]) (by decide) HB.out.size
    refine val_step (v := v1) (w1 := w1) (by rfl) rfl (by simp [execOp, Act.eval, resolve, invoke, builtin, hr, Result.andThen]) ?_
    replace B5 := Aside0.mk (blk_grown B5.out hgr (fun e => by cases e; exact ty_ne B5.out BO.out (by decide)))
    replace B6 := Aside0.mk (blk_grown B6.out hgr (fun e => by cases e; exact ty_ne B6.out BO.out (by decide)))
    replace B7 := Aside0.mk (blk_grown B7.out hgr (fun e => by cases e; exact ty_ne B7.out BO.out (by decide)))
    replace HB := Aside0.mk (HB.out.grown hgr HB.out.size (fun k e => by cases e; exact hgo))
    obtain ⟨g1, c1, rfl, hg1, hc1, hm1, hC1⟩ := C_of_own hown
    have HC1 := Aside0.mk hC1
    clear hr hown hgr hat hC1 BO BN
    refine hK.out _ _ ⟨czZ B6 0 (.int .i64 at_), czZ B7 0 (.int .i64 n)⟩ (fun hHeld => ?_); clear hK K; refine normA_ (some 61) ?_
    refine pureA_ (i := 10) (N := some 11) #[Y,Y,Y,Y,Y,Y,Y,Y,Y,Y,Y] rfl rfl (by kernel_rfl) ?_
    refine done_ (by kernel_rfl) ?_
    clear hHeld
    have HP := Aside0.mk hp
    have HI := Aside0.mk (marks_index (fun m => decide (m.f0 ≥ wrap64 (at_ - window))) 159 Tryz.f159 Tryz.func159 rfl (by kernel_rfl) #[.pointer (some ⟨b6, 0, none⟩), .pointer (some ⟨b5, 0, none⟩)] (some ⟨g1, 0, none⟩) c1 [⟨at_, n⟩] w1 HC1.out ⟨by simp⟩ (fun W m hb => put_since b6 b5 at_ window m W (blk_below B6.out hb) (blk_below B5.out hb)))
    rw [show firstIx (fun m => decide (m.f0 ≥ wrap64 (at_ - window))) [(⟨at_, n⟩ : S119)] = 0 from firstIx_hit (i := 0) (by simp) (by simpa using HP.out) (fun j hj => absurd hj (Nat.not_lt_zero j))] at HI
    simp only [List.length_cons, List.length_nil, Nat.zero_add] at HI
    clear B5 B6 B7 HC1
    have HN := Aside0.mk hc1
    have hc1' : (1 : Int) ≤ (c1 : Int) := by omega
    clear hp hi0 hz0 hz1 hz2 hg1 hm1 hc1
    go_wp2_with (first | (go_at_call 120; (with_reducible refine HI.out.mono ?_); rintro e w9 ⟨rfl, hb9⟩; replace HB := Aside0.mk (below_step HB.out hb9); clear hb9) | fail)
    go_ret2
    exact ⟨_, _, _, rfl, HB.out⟩

  · refine val_step (v := .slice (some ⟨wc.heap.size, 0, none⟩) 1 1) (w1 := wc.alloc (.cells #[.int .i64 at_, .int .i64 n] 119)) (by rfl) rfl (by go_simp) ?_; have BN := Aside0.mk (blk_new wc (.cells #[.int .i64 at_, .int .i64 n] 119)); replace B5 := Aside0.mk (blk_alloc B5.out (.cells #[.int .i64 at_, .int .i64 n] 119)); replace B6 := Aside0.mk (blk_alloc B6.out (.cells #[.int .i64 at_, .int .i64 n] 119)); replace B7 := Aside0.mk (blk_alloc B7.out (.cells #[.int .i64 at_, .int .i64 n] 119)); replace HB := Aside0.mk (below_alloc HB.out (.cells #[.int .i64 at_, .int .i64 n] 119)); generalize hgn : wc.heap.size = gn at BN ⊢; generalize wc.alloc (.cells #[.int .i64 at_, .int .i64 n] 119) = wn at B5 B6 B7 HB BN ⊢; refine hK.out _ _ ⟨czZ B6 0 (.int .i64 at_), czZ B7 0 (.int .i64 n)⟩ (fun hHeld => ?_); clear hK K; refine normA_ (some 60) ?_
    refine one_ (i := 4) (N := some 56) #[Y,Y,Y,Y,Y,Y,Y,Y,Y,N,N] rfl rfl (by kernel_rfl) (by decide) (fun K hK => ?_)
    refine goesA_ Tryz.func157 rfl #[.slice none 0 0] (by rfl) rfl rfl ?_; (with_reducible refine (least_own_nil _).mono ?_); rintro e wo ⟨go, rfl, hgo, hbo, hb⟩; refine ⟨_, rfl, ?_⟩; replace B5 := bbZ B5 hb; replace B6 := bbZ B6 hb; replace B7 := bbZ B7 hb; replace BN := bbZ BN hb; replace hgo := Nat.le_trans HB.out.size hgo; replace HB := Aside0.mk (below_step HB.out hb); have BO := Aside0.mk hbo; clear hbo hb; refine hK.out _ _ ⟨czZ B6 0 (.int .i64 at_), czZ B7 0 (.int .i64 n)⟩ (fun hHeld => ?_); clear hK K; refine normA_ (some 56) ?_
    refine one_ (i := 9) (N := some 61) #[Y,Y,Y,Y,Y,Y,Y,Y,Y,Y,N] rfl rfl (by kernel_rfl) (by decide) (fun K hK => ?_)
    obtain ⟨v1, w1, hr, hown, hgr, _, hat⟩ := run_append_own_at (P := Tryz.prog) (w := wo) w.heap.size 40 40 119 i0 _ 2 16 Tryz.underlying40 hi0 hz0 hz1 hz2 rfl (by decide) (.slice (some ⟨go, 0, none⟩) 0 0) 0 [] ⟨rfl, .inr ⟨go, 0, #[], rfl, hgo, BO.out, Nat.le_refl _, by simp [maxLen], rfl, rfl⟩⟩ ⟨gn, 0, none⟩ 1 1 [.int .i64 at_, .int .i64 n] rfl (fun j u hj => by have := (blk_cell BN.out j).trans (by simpa using hj); by_cases h0 : j = 0 <;> simpa [Addr.add, h0] using this) (by simp [Value.oneCell']) (by simp [maxLen]) (by decide) HB.out.size
    refine val_step (v := v1) (w1 := w1) (by rfl) rfl (by simp [execOp, Act.eval, resolve, invoke, builtin, hr, Result.andThen]) ?_
    replace B5 := Aside0.mk (blk_grown B5.out hgr (fun e => by cases e; exact ty_ne B5.out BO.out (by decide)))
    replace B6 := Aside0.mk (blk_grown B6.out hgr (fun e => by cases e; exact ty_ne B6.out BO.out (by decide)))
    replace B7 := Aside0.mk (blk_grown B7.out hgr (fun e => by cases e; exact ty_ne B7.out BO.out (by decide)))
    replace HB := Aside0.mk (HB.out.grown hgr HB.out.size (fun k e => by cases e; exact hgo))
    obtain ⟨g1, c1, rfl, hg1, hc1, hm1, hC1⟩ := C_of_own hown
    have HC1 := Aside0.mk hC1
    clear hr hown hgr hat hC1 BO BN
    refine hK.out _ _ ⟨czZ B6 0 (.int .i64 at_), czZ B7 0 (.int .i64 n)⟩ (fun hHeld => ?_); clear hK K; refine normA_ (some 61) ?_
    refine pureA_ (i := 10) (N := some 11) #[Y,Y,Y,Y,Y,Y,Y,Y,Y,Y,Y] rfl rfl (by kernel_rfl) ?_
    refine done_ (by kernel_rfl) ?_
    clear hHeld
    have HP := Aside0.mk hp
    have HI := Aside0.mk (marks_index (fun m => decide (m.f0 ≥ wrap64 (at_ - window))) 159 Tryz.f159 Tryz.func159 rfl (by kernel_rfl) #[.pointer (some ⟨b6, 0, none⟩), .pointer (some ⟨b5, 0, none⟩)] (some ⟨g1, 0, none⟩) c1 [⟨at_, n⟩] w1 HC1.out ⟨by simp⟩ (fun W m hb => put_since b6 b5 at_ window m W (blk_below B6.out hb) (blk_below B5.out hb)))
    rw [show firstIx (fun m => decide (m.f0 ≥ wrap64 (at_ - window))) [(⟨at_, n⟩ : S119)] = 0 from firstIx_hit (i := 0) (by simp) (by simpa using HP.out) (fun j hj => absurd hj (Nat.not_lt_zero j))] at HI
    simp only [List.length_cons, List.length_nil, Nat.zero_add] at HI
    clear B5 B6 B7 HC1
    have HN := Aside0.mk hc1
    have hc1' : (1 : Int) ≤ (c1 : Int) := by omega
    clear hp hi0 hz0 hz1 hz2 hg1 hm1 hc1
    go_wp2_with (first | (go_at_call 120; (with_reducible refine HI.out.mono ?_); rintro e w9 ⟨rfl, hb9⟩; replace HB := Aside0.mk (below_step HB.out hb9); clear hb9) | fail)
    go_ret2
    exact ⟨_, _, _, rfl, HB.out⟩

end Go.Proofs.YtfahbgkoldoflaaGreatDoor.Px
