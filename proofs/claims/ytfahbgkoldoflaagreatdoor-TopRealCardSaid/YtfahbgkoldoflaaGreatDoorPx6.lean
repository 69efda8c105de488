/- Printed by px.py, over the kit's print. Conditions: none beside the theorems' own. -/
import Derived.RangeFuncNested
import Derived.RangeFuncBound
import Derived.RangeFuncCalls
import Derived.RangeFuncLeaves
import Derived.Shelf.Abstract
import Derived.Shelf.RegionOpen
import Derived.WalkKit
import Derived.OwnWalkIn
import Derived.TacticsInMore
import Derived.LoopNIn
import Derived.LoopIn
import Derived.Test.YtfahbgkoldoflaaGreatDoorPx0
import Derived.Test.YtfahbgkoldoflaaGreatDoorSpec
namespace Go.Proofs.YtfahbgkoldoflaaGreatDoor.Px
open Go.RowKit Go.Proofs.YtfahbgkoldoflaaGreatDoorW.PrintWords Go.Proofs.YtfahbgkoldoflaaGreatDoorW.PrintLast Go.Proofs.YtfahbgkoldoflaaGreatDoorW.PrintMore
attribute [local go_sem] max2_int min2_int max_two min_two max_three min_three max_four min_four
set_option linter.unusedVariables false
set_option linter.unusedSimpArgs false

-- NOT PRINTED: function 59 (guide_bounds)

/-! ### guide_Check: function 25 -/
noncomputable def guide_Check.f (a b c d e f h : Int) : Option Int := some (Sp.chkQ a b c d e f h)
section
open Go.Shelf
attribute [local go_sem] Oper.semAt_some
abbrev guide_Pair := (Int × Int) × (Int × Int)
def guide_encs (x : guide_Pair) : Array Value := #[.agg #[.int .i64 x.1.1, .int .i64 x.1.2], .agg #[.int .i64 x.2.1, .int .i64 x.2.2]]
def guide_list (a b c d e f h : Int) : List guide_Pair := [((a, 0), (1, 9000)), ((b, 0), (4, 1048576)), ((c, 0), (2, b)), ((d, 0), (1, 1000000)), ((e, 0), (1, f)), ((f, 0), (1, 1099511627776)), ((h, 0), (1, 1000))]
def guide_Kp (n₀ : Nat) (A B : World) : Prop := ∀ b cs t fr, n₀ ≤ b → A.heap[b]? = some (.cells cs t fr) → B.heap[b]? = some (.cells cs t fr)
theorem guide_alloc {W : World} {b : Nat} {x : Obj} (h : W.heap[b]? = some x) (o : Obj) : (W.alloc o).heap[b]? = some x := (Below.heap_alloc W o b (Array.getElem?_eq_some_iff.1 h).1).trans h
set_option maxRecDepth 100000 in
set_option maxHeartbeats 4000000 in
theorem guide_iter (F : Fence) (n : Nat) (h39 : F.fn 115) (hro : F.round = none) (hn : 1 ≤ n) (l g n₀ : Nat) (a b c d e f h : Int) (J Jx : List guide_Pair → World → Prop) (W : World)
  (hY : ∀ pre x W1, J pre W1 → pre.length < 7 → YieldAt F (n - 1) Tryz.prog l (guide_encs x) W1 fun en W' => (en = .returned (.bool true) ∧ J (pre ++ [x]) W' ∧ guide_Kp n₀ W1 W') ∨ (en = .returned (.bool false) ∧ Jx (pre ++ [x]) W'))
  (hJ : AbidesFrom W.heap.size J) (h0 : J [] W)
  (hb0 : W.heap[g]? = some (.cells #[.int .i64 a, .int .i64 b, .int .i64 c, .int .i64 d, .int .i64 e, .int .i64 f, .int .i64 h] 33 (0, 0))) (hg : n₀ ≤ W.heap.size) :
  CallsIn F n Tryz.prog 115 #[.func (.yield l) #[] #[], .pointer (some ⟨g, 0, none⟩)] W fun en W' => (∃ v, en = .returned v) ∧ ((∃ ys, ys = guide_list a b c d e f h ∧ J ys W') ∨ (∃ pre, pre <+: guide_list a b c d e f h ∧ Jx pre W')) := by
 have BK := Aside0.mk hb0; have z0 := czZ BK 0 (.int .i64 a); have z1 := czZ BK 1 (.int .i64 b); have z2 := czZ BK 2 (.int .i64 c); have z3 := czZ BK 3 (.int .i64 d); have z4 := czZ BK 4 (.int .i64 e); have z5 := czZ BK 5 (.int .i64 f); have z6 := czZ BK 6 (.int .i64 h); clear hb0; refine callsIn_of_wp Tryz.func115 rfl h39 ?_ hro; simp only [Tryz.ntmps115, List.size_toArray, List.length_cons, List.length_nil, Nat.reduceAdd, Nat.reduceSub, Array.replicate_succ, Array.replicate_zero, List.push_toArray, List.append_toArray, List.nil_append, List.cons_append]
 gi_wp2
 gi_loopw [48] (fun v wr => ∃ k : Nat, k ≤ 7 ∧ v = .int .i64 k ∧ J ((guide_list a b c d e f h).take k) wr ∧ Aside0 (wr.heap[W.heap.size]? = some (.cells #[.int .i64 a, .int .i64 0, .int .i64 1, .int .i64 9000, .int .i64 b, .int .i64 0, .int .i64 4, .int .i64 1048576, .int .i64 c, .int .i64 0, .int .i64 2, .int .i64 b, .int .i64 d, .int .i64 0, .int .i64 1, .int .i64 1000000, .int .i64 e, .int .i64 0, .int .i64 1, .int .i64 f, .int .i64 f, .int .i64 0, .int .i64 1, .int .i64 1099511627776, .int .i64 h, .int .i64 0, .int .i64 1, .int .i64 1000] 166 (0, 0))))
  (fun v _ => 7 - (intOf v).toNat)
 case atStart =>
  exact ⟨0, by omega, rfl, hJ _ _ _ none h0 (World.grownBy_alloc W _ none) (fun r e => by cases e), ⟨World.alloc_heap_new W _⟩⟩
 case round =>
  obtain ⟨k, hk, rfl, hJs, SK⟩ := hrel
  have hcases : k = 0 ∨ k = 1 ∨ k = 2 ∨ k = 3 ∨ k = 4 ∨ k = 5 ∨ k = 6 ∨ k = 7 := by omega
  rcases hcases with rfl | rfl | rfl | rfl | rfl | rfl | rfl | rfl
  ·have s0 := czZ SK 0 (.int .i64 a); have s1 := czZ SK 1 (.int .i64 0); have s2 := czZ SK 2 (.int .i64 1); have s3 := czZ SK 3 (.int .i64 9000); have hJ1 := hJ _ _ _ none hJs (World.grownBy_alloc wr (.cells #[.int .i64 a, .int .i64 0, .int .i64 1, .int .i64 9000] 166) none) (fun r e => by cases e); obtain ⟨fn, tmps, assign, body, hy, hR⟩ := hY _ ((a, 0), (1, 9000)) _ hJ1 (by simp [guide_list]); simp only [guide_encs] at hy
   gi_wp2
   refine hR.mono ?_; rintro en W3 (⟨rfl, hJ3, hk3⟩ | ⟨rfl, hJx3⟩)
   ·have SK3 := hk3 _ _ _ _ hg (guide_alloc SK.out _); clear hy hR SK hJs hJ1 s0 s1 s2 s3 z0 z1 z2 z3 z4 z5 z6
    gi_wp2
    go_roundw
    case rel => exact ⟨1, by omega, rfl, by simpa [guide_list] using hJ3, ⟨SK3⟩⟩
    case measure => simp [intOf]
   ·clear hy hR SK hJs hJ1 s0 s1 s2 s3 z0 z1 z2 z3 z4 z5 z6
    gi_wp2
    refine bodyPost_ret (results_none rfl _ _ _) rfl ?_; exact ⟨⟨_, rfl⟩, .inr ⟨_, ⟨(guide_list a b c d e f h).drop 1, by simp [guide_list]⟩, hJx3⟩⟩
  ·have s0 := czZ SK 4 (.int .i64 b); have s1 := czZ SK 5 (.int .i64 0); have s2 := czZ SK 6 (.int .i64 4); have s3 := czZ SK 7 (.int .i64 1048576); have hJ1 := hJ _ _ _ none hJs (World.grownBy_alloc wr (.cells #[.int .i64 b, .int .i64 0, .int .i64 4, .int .i64 1048576] 166) none) (fun r e => by cases e); obtain ⟨fn, tmps, assign, body, hy, hR⟩ := hY _ ((b, 0), (4, 1048576)) _ hJ1 (by simp [guide_list]); simp only [guide_encs] at hy
   gi_wp2
   refine hR.mono ?_; rintro en W3 (⟨rfl, hJ3, hk3⟩ | ⟨rfl, hJx3⟩)
   ·have SK3 := hk3 _ _ _ _ hg (guide_alloc SK.out _); clear hy hR SK hJs hJ1 s0 s1 s2 s3 z0 z1 z2 z3 z4 z5 z6
    gi_wp2
    go_roundw
    case rel => exact ⟨2, by omega, rfl, by simpa [guide_list] using hJ3, ⟨SK3⟩⟩
    case measure => simp [intOf]
   ·clear hy hR SK hJs hJ1 s0 s1 s2 s3 z0 z1 z2 z3 z4 z5 z6
    gi_wp2
    refine bodyPost_ret (results_none rfl _ _ _) rfl ?_; exact ⟨⟨_, rfl⟩, .inr ⟨_, ⟨(guide_list a b c d e f h).drop 2, by simp [guide_list]⟩, hJx3⟩⟩
  ·have s0 := czZ SK 8 (.int .i64 c); have s1 := czZ SK 9 (.int .i64 0); have s2 := czZ SK 10 (.int .i64 2); have s3 := czZ SK 11 (.int .i64 b); have hJ1 := hJ _ _ _ none hJs (World.grownBy_alloc wr (.cells #[.int .i64 c, .int .i64 0, .int .i64 2, .int .i64 b] 166) none) (fun r e => by cases e); obtain ⟨fn, tmps, assign, body, hy, hR⟩ := hY _ ((c, 0), (2, b)) _ hJ1 (by simp [guide_list]); simp only [guide_encs] at hy
   gi_wp2
   refine hR.mono ?_; rintro en W3 (⟨rfl, hJ3, hk3⟩ | ⟨rfl, hJx3⟩)
   ·have SK3 := hk3 _ _ _ _ hg (guide_alloc SK.out _); clear hy hR SK hJs hJ1 s0 s1 s2 s3 z0 z1 z2 z3 z4 z5 z6
    gi_wp2
    go_roundw
    case rel => exact ⟨3, by omega, rfl, by simpa [guide_list] using hJ3, ⟨SK3⟩⟩
    case measure => simp [intOf]
   ·clear hy hR SK hJs hJ1 s0 s1 s2 s3 z0 z1 z2 z3 z4 z5 z6
    gi_wp2
    refine bodyPost_ret (results_none rfl _ _ _) rfl ?_; exact ⟨⟨_, rfl⟩, .inr ⟨_, ⟨(guide_list a b c d e f h).drop 3, by simp [guide_list]⟩, hJx3⟩⟩
  ·have s0 := czZ SK 12 (.int .i64 d); have s1 := czZ SK 13 (.int .i64 0); have s2 := czZ SK 14 (.int .i64 1); have s3 := czZ SK 15 (.int .i64 1000000); have hJ1 := hJ _ _ _ none hJs (World.grownBy_alloc wr (.cells #[.int .i64 d, .int .i64 0, .int .i64 1, .int .i64 1000000] 166) none) (fun r e => by cases e); obtain ⟨fn, tmps, assign, body, hy, hR⟩ := hY _ ((d, 0), (1, 1000000)) _ hJ1 (by simp [guide_list]); simp only [guide_encs] at hy
   gi_wp2
   refine hR.mono ?_; rintro en W3 (⟨rfl, hJ3, hk3⟩ | ⟨rfl, hJx3⟩)
   ·have SK3 := hk3 _ _ _ _ hg (guide_alloc SK.out _); clear hy hR SK hJs hJ1 s0 s1 s2 s3 z0 z1 z2 z3 z4 z5 z6
    gi_wp2
    go_roundw
    case rel => exact ⟨4, by omega, rfl, by simpa [guide_list] using hJ3, ⟨SK3⟩⟩
    case measure => simp [intOf]
   ·clear hy hR SK hJs hJ1 s0 s1 s2 s3 z0 z1 z2 z3 z4 z5 z6
    gi_wp2
    refine bodyPost_ret (results_none rfl _ _ _) rfl ?_; exact ⟨⟨_, rfl⟩, .inr ⟨_, ⟨(guide_list a b c d e f h).drop 4, by simp [guide_list]⟩, hJx3⟩⟩
  ·have s0 := czZ SK 16 (.int .i64 e); have s1 := czZ SK 17 (.int .i64 0); have s2 := czZ SK 18 (.int .i64 1); have s3 := czZ SK 19 (.int .i64 f); have hJ1 := hJ _ _ _ none hJs (World.grownBy_alloc wr (.cells #[.int .i64 e, .int .i64 0, .int .i64 1, .int .i64 f] 166) none) (fun r e => by cases e); obtain ⟨fn, tmps, assign, body, hy, hR⟩ := hY _ ((e, 0), (1, f)) _ hJ1 (by simp [guide_list]); simp only [guide_encs] at hy
   gi_wp2
   refine hR.mono ?_; rintro en W3 (⟨rfl, hJ3, hk3⟩ | ⟨rfl, hJx3⟩)
   ·have SK3 := hk3 _ _ _ _ hg (guide_alloc SK.out _); clear hy hR SK hJs hJ1 s0 s1 s2 s3 z0 z1 z2 z3 z4 z5 z6
    gi_wp2
    go_roundw
    case rel => exact ⟨5, by omega, rfl, by simpa [guide_list] using hJ3, ⟨SK3⟩⟩
    case measure => simp [intOf]
   ·clear hy hR SK hJs hJ1 s0 s1 s2 s3 z0 z1 z2 z3 z4 z5 z6
    gi_wp2
    refine bodyPost_ret (results_none rfl _ _ _) rfl ?_; exact ⟨⟨_, rfl⟩, .inr ⟨_, ⟨(guide_list a b c d e f h).drop 5, by simp [guide_list]⟩, hJx3⟩⟩
  ·have s0 := czZ SK 20 (.int .i64 f); have s1 := czZ SK 21 (.int .i64 0); have s2 := czZ SK 22 (.int .i64 1); have s3 := czZ SK 23 (.int .i64 1099511627776); have hJ1 := hJ _ _ _ none hJs (World.grownBy_alloc wr (.cells #[.int .i64 f, .int .i64 0, .int .i64 1, .int .i64 1099511627776] 166) none) (fun r e => by cases e); obtain ⟨fn, tmps, assign, body, hy, hR⟩ := hY _ ((f, 0), (1, 1099511627776)) _ hJ1 (by simp [guide_list]); simp only [guide_encs] at hy
   gi_wp2
   refine hR.mono ?_; rintro en W3 (⟨rfl, hJ3, hk3⟩ | ⟨rfl, hJx3⟩)
   ·have SK3 := hk3 _ _ _ _ hg (guide_alloc SK.out _); clear hy hR SK hJs hJ1 s0 s1 s2 s3 z0 z1 z2 z3 z4 z5 z6
    gi_wp2
    go_roundw
    case rel => exact ⟨6, by omega, rfl, by simpa [guide_list] using hJ3, ⟨SK3⟩⟩
    case measure => simp [intOf]
   ·clear hy hR SK hJs hJ1 s0 s1 s2 s3 z0 z1 z2 z3 z4 z5 z6
    gi_wp2
    refine bodyPost_ret (results_none rfl _ _ _) rfl ?_; exact ⟨⟨_, rfl⟩, .inr ⟨_, ⟨(guide_list a b c d e f h).drop 6, by simp [guide_list]⟩, hJx3⟩⟩
  ·have s0 := czZ SK 24 (.int .i64 h); have s1 := czZ SK 25 (.int .i64 0); have s2 := czZ SK 26 (.int .i64 1); have s3 := czZ SK 27 (.int .i64 1000); have hJ1 := hJ _ _ _ none hJs (World.grownBy_alloc wr (.cells #[.int .i64 h, .int .i64 0, .int .i64 1, .int .i64 1000] 166) none) (fun r e => by cases e); obtain ⟨fn, tmps, assign, body, hy, hR⟩ := hY _ ((h, 0), (1, 1000)) _ hJ1 (by simp [guide_list]); simp only [guide_encs] at hy
   gi_wp2
   refine hR.mono ?_; rintro en W3 (⟨rfl, hJ3, hk3⟩ | ⟨rfl, hJx3⟩)
   ·have SK3 := hk3 _ _ _ _ hg (guide_alloc SK.out _); clear hy hR SK hJs hJ1 s0 s1 s2 s3 z0 z1 z2 z3 z4 z5 z6
    gi_wp2
    go_roundw
    case rel => exact ⟨7, by omega, rfl, by simpa [guide_list] using hJ3, ⟨SK3⟩⟩
    case measure => simp [intOf]
   ·clear hy hR SK hJs hJ1 s0 s1 s2 s3 z0 z1 z2 z3 z4 z5 z6
    gi_wp2
    refine bodyPost_ret (results_none rfl _ _ _) rfl ?_; exact ⟨⟨_, rfl⟩, .inr ⟨_, ⟨(guide_list a b c d e f h).drop 7, by simp [guide_list]⟩, hJx3⟩⟩
  ·clear SK z0 z1 z2 z3 z4 z5 z6
   gi_wp2
   go_end0
   exact ⟨⟨_, rfl⟩, .inl ⟨_, rfl, by simpa [guide_list] using hJs⟩⟩
theorem guide_stops (F : Fence) (n : Nat) (h39 : F.fn 115) (hro : F.round = none) (hn : 1 ≤ n) (g n₀ : Nat) (a b c d e f h : Int) (w : World) (hg : n₀ ≤ w.heap.size) (hb0 : w.heap[g]? = some (.cells #[.int .i64 a, .int .i64 b, .int .i64 c, .int .i64 d, .int .i64 e, .int .i64 f, .int .i64 h] 33 (0, 0))) :
  SeqStopsK F n Tryz.prog 115 #[.pointer (some ⟨g, 0, none⟩)] guide_encs (guide_Kp n₀) (fun ys => ys = guide_list a b c d e f h) (fun pre => pre <+: guide_list a b c d e f h) 7 w := fun l J Jx W hW hJ _ hY h0 =>
 guide_iter F n h39 hro hn l g n₀ a b c d e f h J Jx W hY hJ h0 ((hW.block g (Array.getElem?_eq_some_iff.1 hb0).1).trans hb0) (Nat.le_trans hg hW.size)
theorem guide_Kp_t {n₀ : Nat} {A B C : World} (h1 : guide_Kp n₀ A B) (h2 : guide_Kp n₀ B C) : guide_Kp n₀ A C := fun b cs t fr hb h => h2 b cs t fr hb (h1 b cs t fr hb h)
theorem guide_Kp_b {n₀ B : Nat} (W : World) (l : Nat) (o o' : Obj) (_ : B ≤ l) (hl : W.heap[l]? = some o) (ho : o.isCells = false) (_ : o.isWalk = false) : guide_Kp n₀ W (W.putObj l o') := fun b cs t fr _ h => by
 refine ((grownBy_putObj' W l o').block b (Array.getElem?_eq_some_iff.1 h).1 (fun e => ?_)).trans h
 cases e
 rw [hl] at h
 cases h
 cases ho
theorem guide_Kp_alloc {n₀ : Nat} (W : World) (o : Obj) : guide_Kp n₀ W (W.alloc o) := fun b cs t fr _ h => guide_alloc h o
theorem guide_cells_own {β : Type} (B B0 : Nat) (cs : Array Value) (t : TypeId) (fr : Nat × Nat) : OwnFrom B (fun (_ : β) W => W.heap[B0]? = some (.cells cs t fr)) := fun s X Y row hs hg hrow =>
 (hg.block B0 (Array.getElem?_eq_some_iff.1 hs).1 (fun e' => by obtain ⟨_, o, ho, hc⟩ := hrow B0 e'.symm; rw [hs] at ho; cases ho; cases hc)).trans hs
theorem guide_bounds_in (F : Fence) (n : Nat) (h27 : F.fn 59) (hro : F.round = none) (a b c d e f h : Int) (w : World) :
  CallsIn F n Tryz.prog 59 #[.agg #[.int .i64 a, .int .i64 b, .int .i64 c, .int .i64 d, .int .i64 e, .int .i64 f, .int .i64 h]] w fun en w' => en = .returned (.func (.func 115) #[] #[.pointer (some ⟨w.heap.size, 0, none⟩)]) ∧ w' = w.alloc (.cells #[.int .i64 a, .int .i64 b, .int .i64 c, .int .i64 d, .int .i64 e, .int .i64 f, .int .i64 h] 33) := by
 refine callsIn_of_wp Tryz.func59 rfl h27 ?_ hro; simp only [Tryz.ntmps59, List.size_toArray, List.length_cons, List.length_nil, Nat.reduceAdd, Nat.reduceSub, Array.replicate_succ, Array.replicate_zero, List.push_toArray, List.append_toArray, List.nil_append, List.cons_append]
 gi_wp2
 go_ret
 exact ⟨rfl, rfl⟩
theorem guide_result {tmps : Array Value} {W : World} {g : Nat} {v : Int} (hp : tmps.getD 2 undef = .pointer (some ⟨g, 0, none⟩)) (hc : W.cell? ⟨g, 0, none⟩ = some (.int .i64 v)) : (results Tryz.f25 tmps).run Tryz.prog W = .ok (.int .i64 v) W := by
 have hp' : tmps[2]?.getD undef = .pointer (some ⟨g, 0, none⟩) := by simpa using hp
 simp [results, show Tryz.f25.results = #[.cell 2 26] from rfl, hp', asAddr]
 go_simp
def guide_bad (x : guide_Pair) : Prop := x.1.1 < x.2.1 ∨ x.2.2 < x.1.1
def guide_any (l : List guide_Pair) : Prop := ∃ x ∈ l, guide_bad x
def guide_none (l : List guide_Pair) : Prop := ∀ x ∈ l, ¬ guide_bad x
theorem guide_any_snoc {pre : List guide_Pair} {x : guide_Pair} (h : guide_bad x) : guide_any (pre ++ [x]) := ⟨x, List.mem_append_right _ (List.mem_singleton.2 rfl), h⟩
theorem guide_none_snoc {pre : List guide_Pair} {x : guide_Pair} (hp : guide_none pre) (h : ¬ guide_bad x) : guide_none (pre ++ [x]) := fun y hy => by
 rcases List.mem_append.1 hy with z | z
 ·exact hp y z
 ·rw [List.mem_singleton.1 z]; exact h
theorem guide_any_sub {pre l : List guide_Pair} (h : guide_any pre) (hp : pre <+: l) : guide_any l := by
 obtain ⟨x, hx, hb⟩ := h; exact ⟨x, hp.subset hx, hb⟩
set_option maxRecDepth 100000 in
set_option maxHeartbeats 4000000 in
theorem guide_Check_in (F : Fence) (n : Nat) (h11 : F.fn 25) (h27 : F.fn 59) (h39 : F.fn 115) (hro : F.round = none) (hn : 3 ≤ n) (a b c d e f h v : Int) (hv1 : guide_none (guide_list a b c d e f h) → v = 0) (hv2 : guide_any (guide_list a b c d e f h) → v = 210) (w : World) :
  CallsIn F n Tryz.prog 25 #[.agg #[.int .i64 a, .int .i64 b, .int .i64 c, .int .i64 d, .int .i64 e, .int .i64 f, .int .i64 h]] w fun en w' => en = .returned (.int .i64 v) ∧ Below w.heap.size w w' := by
 have h1 : 1 ≤ n := by omega
 refine callsIn_of_wp_marks Tryz.func25 rfl h11 ?_ hro; simp only [Tryz.ntmps25, List.size_toArray, List.length_cons, List.length_nil, Nat.reduceAdd, Nat.reduceSub, Array.replicate_succ, Array.replicate_zero, List.push_toArray, List.append_toArray, List.nil_append, List.cons_append]
 gi_wp2_with (gi_at_call 59; refine (guide_bounds_in F (n - 1) h27 hro a b c d e f h _).mono ?_; rintro en w' ⟨rfl, rfl⟩)
 have bS := (Boxed.new (w.alloc (.cells #[.int .i64 a, .int .i64 b, .int .i64 c, .int .i64 d, .int .i64 e, .int .i64 f, .int .i64 h] 33)) 26 (.int .i64 0)).alloc (.cells #[.int .i64 a, .int .i64 b, .int .i64 c, .int .i64 d, .int .i64 e, .int .i64 f, .int .i64 h] 33); have bC := World.alloc_heap_new ((w.alloc (.cells #[.int .i64 a, .int .i64 b, .int .i64 c, .int .i64 d, .int .i64 e, .int .i64 f, .int .i64 h] 33)).alloc (.cells #[.int .i64 0] 26)) (.cells #[.int .i64 a, .int .i64 b, .int .i64 c, .int .i64 d, .int .i64 e, .int .i64 f, .int .i64 h] 33); have hB0 : Below w.heap.size w (((w.alloc (.cells #[.int .i64 a, .int .i64 b, .int .i64 c, .int .i64 d, .int .i64 e, .int .i64 f, .int .i64 h] 33)).alloc (.cells #[.int .i64 0] 26)).alloc (.cells #[.int .i64 a, .int .i64 b, .int .i64 c, .int .i64 d, .int .i64 e, .int .i64 f, .int .i64 h] 33)) := (((Below.refl _ w).alloc (Nat.le_refl _) _).alloc (by simp) _).alloc (by simp; omega) _
 have hsz : (((w.alloc (.cells #[.int .i64 a, .int .i64 b, .int .i64 c, .int .i64 d, .int .i64 e, .int .i64 f, .int .i64 h] 33)).alloc (.cells #[.int .i64 0] 26)).alloc (.cells #[.int .i64 a, .int .i64 b, .int .i64 c, .int .i64 d, .int .i64 e, .int .i64 f, .int .i64 h] 33)).heap.size = w.heap.size + 3 := by simp
 simp only [World.size_alloc] at bS bC
 obtain ⟨W0, hW0⟩ : ∃ W0, ((w.alloc (.cells #[.int .i64 a, .int .i64 b, .int .i64 c, .int .i64 d, .int .i64 e, .int .i64 f, .int .i64 h] 33)).alloc (.cells #[.int .i64 0] 26)).alloc (.cells #[.int .i64 a, .int .i64 b, .int .i64 c, .int .i64 d, .int .i64 e, .int .i64 f, .int .i64 h] 33) = W0 := ⟨_, rfl⟩
 rw [hW0] at bS bC hB0 hsz ⊢
 clear hW0; refine wpIn_rangeFunc_ownH hro h1 (gf := 115) (lb := #[.pointer (some ⟨w.heap.size + 1 + 1, 0, none⟩)]) rfl h39 (enters_of Tryz.func115 (by kernel_rfl) rfl)
  (guide_stops F (n - 1) h39 hro (by omega) (w.heap.size + 1 + 1) (w.heap.size + 1 + 1) a b c d e f h W0 (by omega) bC) guide_Kp_t guide_Kp_b (Below.refl _ _) (fun _ => rfl)
  (fun pre W => (Boxed W (w.heap.size + 1) 26 (.int .i64 0) ∧ guide_none pre) ∧ Below w.heap.size w W)
  (fun c pre W => ((c = .ret ∧ guide_any pre) ∧ Boxed W (w.heap.size + 1) 26 (.int .i64 210)) ∧ Below w.heap.size w W)
  (OwnFrom.and (OwnFrom.and (Own.from (boxed_own _ _ _) _) (ownFrom_pure _ _)) (ownFrom_below (Nat.le_refl _) (by omega)))
  (fun c => OwnFrom.and (OwnFrom.and (ownFrom_pure _ _) (Own.from (boxed_own _ _ _) _)) (ownFrom_below (Nat.le_refl _) (by omega)))
  ⟨⟨bS, fun x hx => by cases hx⟩, hB0⟩
  (fun x a' W => ∃ B1 B2, (W.heap[B1]? = some (.cells #[.int .i64 x.1.1, .int .i64 x.1.2] 111 (0, 0)) ∧ W.heap[B2]? = some (.cells #[.int .i64 x.2.1, .int .i64 x.2.2] 111 (0, 0))) ∧ a' = { tmps := #[.agg #[.int .i64 a, .int .i64 b, .int .i64 c, .int .i64 d, .int .i64 e, .int .i64 f, .int .i64 h], .pointer (some ⟨w.heap.size, 0, none⟩), .pointer (some ⟨w.heap.size + 1, 0, none⟩), .pointer (some ⟨B1, 0, none⟩), .pointer (some ⟨B2, 0, none⟩), .agg #[.int .i64 a, .int .i64 b, .int .i64 c, .int .i64 d, .int .i64 e, .int .i64 f, .int .i64 h], .func (.func 115) #[] #[.pointer (some ⟨w.heap.size + 1 + 1, 0, none⟩)], .agg #[.int .i64 x.1.1, .int .i64 x.1.2], .agg #[.int .i64 x.2.1, .int .i64 x.2.2], undef, undef, undef, undef, undef, undef, undef, undef, undef, undef, undef, undef], defers := [] })
  (fun x a' _ X Y row hs hg hr => by obtain ⟨B1, B2, ⟨h1, h2⟩, h3⟩ := hs; exact ⟨B1, B2, ⟨guide_cells_own _ B1 _ _ _ () X Y row h1 hg hr, guide_cells_own _ B2 _ _ _ () X Y row h2 hg hr⟩, h3⟩)
  ?assign ?body ?done ?stop
 case assign =>
  rintro l pre x W K ⟨⟨bS1, hgood⟩, hB1⟩ hK; obtain ⟨⟨p, q⟩, ⟨r, s⟩⟩ := x; simp only [guide_encs]
  gi_wp2
  refine hK _ _ (((KeepsOthers.alloc _ _).trans (KeepsOthers.alloc _ _)).from _) (guide_Kp_t (guide_Kp_alloc _ _) (guide_Kp_alloc _ _)) ⟨⟨(bS1.alloc _).alloc _, hgood⟩, (hB1.alloc hB1.size _).alloc (by have := hB1.size; simp; omega) _⟩ ⟨W.heap.size, W.heap.size + 1, ⟨guide_alloc (World.alloc_heap_new W _) _, ?_⟩, rfl⟩; have := World.alloc_heap_new (W.alloc (.cells #[.int .i64 p, .int .i64 q] 111)) (.cells #[.int .i64 r, .int .i64 s] 111)
  simpa using this
 case body =>
  rintro l pre x a' W hl ⟨r0, hr0⟩ ⟨⟨bS1, hgood⟩, hB1⟩ ⟨B1, B2, ⟨c1, c2⟩, rfl⟩ hlt; obtain ⟨⟨p, q⟩, ⟨r, s⟩⟩ := x; have C1 := Aside0.mk c1; have C2 := Aside0.mk c2; have y0 := czZ C1 0 (.int .i64 p); have y1 := czZ C1 1 (.int .i64 q); have y2 := czZ C2 0 (.int .i64 r); have y3 := czZ C2 1 (.int .i64 s); have cS := bS1.cell; have fS := bS1.frozen; clear c1 c2
  by_cases k1 : p < r
  ·have k1' := decide_eq_true k1
   gi_wp2
   exact ⟨(KeepsOthers.setCell _ _ _).from _, ⟨⟨rfl, guide_any_snoc (Or.inl k1)⟩, bS1.set _⟩, hB1.setCell (p := ⟨w.heap.size + 1, 0, none⟩) (by simp) _⟩
  ·have k1' := decide_eq_false k1
   by_cases k2 : s < p
   ·have k2' := decide_eq_true k2
    gi_wp2
    exact ⟨(KeepsOthers.setCell _ _ _).from _, ⟨⟨rfl, guide_any_snoc (Or.inr k2)⟩, bS1.set _⟩, hB1.setCell (p := ⟨w.heap.size + 1, 0, none⟩) (by simp) _⟩
   ·have k2' := decide_eq_false k2
    have nb : ¬ guide_bad ((p, q), (r, s)) := fun z => z.elim k1 k2
    clear k1 k2
    gi_wp2
    exact ⟨KeepsFrom.refl _ _, fun _ _ _ _ _ h => h, ⟨bS1, guide_none_snoc hgood nb⟩, hB1⟩
 case done =>
  rintro D ys W hD rfl ⟨⟨bS1, hgood⟩, hB1⟩ hK; have e0 := hv1 hgood
  subst e0
  have cS := bS1.cell; have fS := bS1.frozen
  gi_wp2
  refine ⟨by simp, .inl ⟨_, _, rfl, run_takeDeferred ((KeepsOthers.setCell _ _ _).same D _ hK rfl), ?_⟩⟩; refine ⟨_, guide_result rfl ((bS1.set (.int .i64 0)).kept (grownBy_putObj' _ D _) (fun e => by cases e; omega)).cell, rfl, ?_⟩; exact (hB1.setCell (p := ⟨w.heap.size + 1, 0, none⟩) (by simp) _).trans (belowK_b (w := w) (Nat.le_refl _) _ D _ _ (by omega) ((KeepsOthers.setCell _ _ _).same D _ hK rfl) rfl rfl)
 case stop =>
  rintro D c0 pre W hD hp ⟨⟨⟨rfl, hbad⟩, bS1⟩, hB1⟩ hK; have e0 := hv2 (guide_any_sub hbad hp)
  subst e0
  have cS := bS1.cell
  gi_wp2
  refine ⟨by simp, .inl ⟨_, _, rfl, run_takeDeferred hK, ?_⟩⟩; refine ⟨_, guide_result rfl (bS1.kept (grownBy_putObj' _ D _) (fun e => by cases e; omega)).cell, rfl, ?_⟩; exact hB1.trans (belowK_b (w := w) (Nat.le_refl _) _ D _ _ (by omega) hK rfl rfl)
theorem guide_Check_w (a b c d e f h v : Int) (hv1 : guide_none (guide_list a b c d e f h) → v = 0) (hv2 : guide_any (guide_list a b c d e f h) → v = 210) (w : World) :
  Calls Tryz.prog 25 #[.agg #[.int .i64 a, .int .i64 b, .int .i64 c, .int .i64 d, .int .i64 e, .int .i64 f, .int .i64 h]] w fun en w' => en = .returned (.int .i64 v) ∧ Below w.heap.size w w' :=
 (callsIn_wide (n := 3)).1 (guide_Check_in Fence.wide 3 trivial trivial trivial rfl (Nat.le_refl _) a b c d e f h v hv1 hv2 w)
end
theorem guide_Check.calls (a0_0 a0_1 a0_2 a0_3 a0_4 a0_5 a0_6 r : Int) (w : World) (h : guide_Check.f a0_0 a0_1 a0_2 a0_3 a0_4 a0_5 a0_6 = some r) :
  Calls Tryz.prog 25 #[.agg #[.int .i64 a0_0, .int .i64 a0_1, .int .i64 a0_2, .int .i64 a0_3, .int .i64 a0_4, .int .i64 a0_5, .int .i64 a0_6]] w fun e w' => e = .returned (.int .i64 r) ∧ Below w.heap.size w w' := by
 obtain rfl := Option.some.inj h; refine guide_Check_w a0_0 a0_1 a0_2 a0_3 a0_4 a0_5 a0_6 _ (fun hn => Sp.chkQ_ok ?_) (fun ha => Sp.chkQ_bad ?_) w
 ·have m : ∀ x, x ∈ guide_list a0_0 a0_1 a0_2 a0_3 a0_4 a0_5 a0_6 → ¬ guide_bad x := hn; simp only [guide_list, List.mem_cons, List.not_mem_nil, or_false, forall_eq_or_imp, forall_eq, guide_bad] at m
  unfold Sp.cfgOk
  omega
 ·obtain ⟨x, hx, hb⟩ := ha; simp only [guide_list, List.mem_cons, List.not_mem_nil, or_false] at hx
  unfold Sp.cfgOk
  rcases hx with rfl | rfl | rfl | rfl | rfl | rfl | rfl <;> (simp only [guide_bad] at hb; omega)

/-! ### guide_First: function 26 -/
noncomputable def guide_First.f (a0_0 : Int) (a0_1 : Int) (a0_2 : Int) (a0_3 : Int) (a0_4 : Int) (a0_5 : Int) (a0_6 : Int) : Option (Int) := (guide_Check.f a0_0 a0_1 a0_2 a0_3 a0_4 a0_5 a0_6).bind fun t102 => (if t102 = 0 then (some (wrap64 (a0_2 * 65536))) else (some 131072))
set_option maxHeartbeats 8000000 in
set_option maxRecDepth 100000 in
theorem guide_First.calls (a0_0 : Int) (a0_1 : Int) (a0_2 : Int) (a0_3 : Int) (a0_4 : Int) (a0_5 : Int) (a0_6 : Int) (r : Int) (w : World) (h : guide_First.f a0_0 a0_1 a0_2 a0_3 a0_4 a0_5 a0_6 = some r) :
  Calls Tryz.prog 26 #[.agg #[.int .i64 a0_0, .int .i64 a0_1, .int .i64 a0_2, .int .i64 a0_3, .int .i64 a0_4, .int .i64 a0_5, .int .i64 a0_6]] w fun e w' => e = .returned (.int .i64 r) ∧ Below w.heap.size w w' := by
 have hu33 := Tryz.underlying33; have HB := Aside0.mk (Below.refl w.heap.size w); have H : ((guide_Check.f a0_0 a0_1 a0_2 a0_3 a0_4 a0_5 a0_6).bind fun t102 => (if t102 = 0 then (some (wrap64 (a0_2 * 65536))) else (some 131072))) = some r := h; clear h; replace H := Option.bind_eq_some_iff.mp H; obtain ⟨t102, A20, H⟩ := H; replace H : (if t102 = 0 then (some (wrap64 (a0_2 * 65536))) else (some 131072)) = some r := H; have A2 := Aside0.mk A20; clear A20
 by_cases c3 : t102 = 0
 ·rw [if_pos c3] at H
  have c3b0 : (t102 == 0) = true := beq_iff_eq.mpr c3; have c3b1 : (t102 != 0) = false := bne_eq_false_iff_eq.mpr c3; clear c3; obtain rfl := Option.some.inj H
  go_enter Tryz.func26, Tryz.ntmps26
  go_wp2_with (first | ((with_reducible refine gate_dst (N := 1) rfl ?_); refine box_event ?hg (N := 1) ?hd (cs := #[.int .i64 a0_0, .int .i64 a0_1, .int .i64 a0_2, .int .i64 a0_3, .int .i64 a0_4, .int .i64 a0_5, .int .i64 a0_6]) (t := 33) ?hr ?_; (case hd => rfl); (case hg => rfl); (case hr => first | (go_simp; done) | (go_simp; rfl)); intro gb101 hg w4 hbox hb; have BK101 := Aside0.mk (hbox); obtain ⟨GW101, nHB⟩ := geA hg hb; have GE101 := GW101; replace HB := nHB; clear nHB; clear hb hbox hg; have hcz5_0 := czZ BK101 0 (.int .i64 a0_0); have hcz5_1 := czZ BK101 1 (.int .i64 a0_1); have hcz5_2 := czZ BK101 2 (.int .i64 a0_2); have hcz5_3 := czZ BK101 3 (.int .i64 a0_3); have hcz5_4 := czZ BK101 4 (.int .i64 a0_4); have hcz5_5 := czZ BK101 5 (.int .i64 a0_5); have hcz5_6 := czZ BK101 6 (.int .i64 a0_6); have hfz5_0 := blk_frozen BK101.out 0; have hfz5_1 := blk_frozen BK101.out 1; have hfz5_2 := blk_frozen BK101.out 2; have hfz5_3 := blk_frozen BK101.out 3; have hfz5_4 := blk_frozen BK101.out 4; have hfz5_5 := blk_frozen BK101.out 5; have hfz5_6 := blk_frozen BK101.out 6) | ((with_reducible refine gate_callee (f := 25) rfl ?_); refine goesLA_ (some 4) rfl rfl Tryz.func25 rfl #[.agg #[.int .i64 a0_0, .int .i64 a0_1, .int .i64 a0_2, .int .i64 a0_3, .int .i64 a0_4, .int .i64 a0_5, .int .i64 a0_6]] rfl ?_; (with_reducible refine (guide_Check.calls a0_0 a0_1 a0_2 a0_3 a0_4 a0_5 a0_6 t102 _ A2.out).mono ?_); rintro e w6 ⟨rfl, hb⟩; refine ⟨_, rfl, ?_⟩; replace BK101 := bdZ BK101 hb; replace HB := stA hb; clear hb; have hcz7_0 := czZ BK101 0 (.int .i64 a0_0); have hcz7_1 := czZ BK101 1 (.int .i64 a0_1); have hcz7_2 := czZ BK101 2 (.int .i64 a0_2); have hcz7_3 := czZ BK101 3 (.int .i64 a0_3); have hcz7_4 := czZ BK101 4 (.int .i64 a0_4); have hcz7_5 := czZ BK101 5 (.int .i64 a0_5); have hcz7_6 := czZ BK101 6 (.int .i64 a0_6); have hfz7_0 := blk_frozen BK101.out 0; have hfz7_1 := blk_frozen BK101.out 1; have hfz7_2 := blk_frozen BK101.out 2; have hfz7_3 := blk_frozen BK101.out 3; have hfz7_4 := blk_frozen BK101.out 4; have hfz7_5 := blk_frozen BK101.out 5; have hfz7_6 := blk_frozen BK101.out 6))
  go_ret
  exact ⟨by first | rfl | (simp [errW_none, errW_some] <;> rfl) | (simp [*, errW_none, errW_some] <;> rfl), by repeat (first | (with_reducible first | exact HB.out | apply below_alloc | apply pw_below_drewN | apply below_drew1 | refine below_set ?_ GE101.out) | exact HB.out)⟩
 ·rw [if_neg c3] at H
  have c3b0 : (t102 == 0) = false := beq_eq_false_iff_ne.mpr c3; have c3b1 : (t102 != 0) = true := bne_iff_ne.mpr c3; obtain rfl := Option.some.inj H
  go_enter Tryz.func26, Tryz.ntmps26
  go_wp2_with (first | ((with_reducible refine gate_dst (N := 1) rfl ?_); refine box_event ?hg (N := 1) ?hd (cs := #[.int .i64 a0_0, .int .i64 a0_1, .int .i64 a0_2, .int .i64 a0_3, .int .i64 a0_4, .int .i64 a0_5, .int .i64 a0_6]) (t := 33) ?hr ?_; (case hd => rfl); (case hg => rfl); (case hr => first | (go_simp; done) | (go_simp; rfl)); intro gb101 hg w8 hbox hb; have BK101 := Aside0.mk (hbox); obtain ⟨GW101, nHB⟩ := geA hg hb; have GE101 := GW101; replace HB := nHB; clear nHB; clear hb hbox hg; have hcz9_0 := czZ BK101 0 (.int .i64 a0_0); have hcz9_1 := czZ BK101 1 (.int .i64 a0_1); have hcz9_2 := czZ BK101 2 (.int .i64 a0_2); have hcz9_3 := czZ BK101 3 (.int .i64 a0_3); have hcz9_4 := czZ BK101 4 (.int .i64 a0_4); have hcz9_5 := czZ BK101 5 (.int .i64 a0_5); have hcz9_6 := czZ BK101 6 (.int .i64 a0_6); have hfz9_0 := blk_frozen BK101.out 0; have hfz9_1 := blk_frozen BK101.out 1; have hfz9_2 := blk_frozen BK101.out 2; have hfz9_3 := blk_frozen BK101.out 3; have hfz9_4 := blk_frozen BK101.out 4; have hfz9_5 := blk_frozen BK101.out 5; have hfz9_6 := blk_frozen BK101.out 6) | ((with_reducible refine gate_callee (f := 25) rfl ?_); refine goesLA_ (some 4) rfl rfl Tryz.func25 rfl #[.agg #[.int .i64 a0_0, .int .i64 a0_1, .int .i64 a0_2, .int .i64 a0_3, .int .i64 a0_4, .int .i64 a0_5, .int .i64 a0_6]] rfl ?_; (with_reducible refine (guide_Check.calls a0_0 a0_1 a0_2 a0_3 a0_4 a0_5 a0_6 t102 _ A2.out).mono ?_); rintro e w10 ⟨rfl, hb⟩; refine ⟨_, rfl, ?_⟩; replace BK101 := bdZ BK101 hb; replace HB := stA hb; clear hb))
  go_ret
  exact ⟨by first | rfl | (simp [errW_none, errW_some] <;> rfl) | (simp [*, errW_none, errW_some] <;> rfl), by repeat (first | (with_reducible first | exact HB.out | apply below_alloc | apply pw_below_drewN | apply below_drew1 | refine below_set ?_ GE101.out) | exact HB.out)⟩

end Go.Proofs.YtfahbgkoldoflaaGreatDoor.Px
