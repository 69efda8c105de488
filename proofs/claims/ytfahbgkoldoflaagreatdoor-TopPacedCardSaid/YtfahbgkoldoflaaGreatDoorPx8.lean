/- Printed by px.py, over the kit's print. Conditions: none beside the theorems' own. -/
import Derived.Test.YtfahbgkoldoflaaGreatDoorEng0
import Derived.Test.YtfahbgkoldoflaaGreatDoorPx0
import Derived.Test.YtfahbgkoldoflaaGreatDoorPx6
import Derived.Test.YtfahbgkoldoflaaGreatDoorPx7
namespace Go.Proofs.YtfahbgkoldoflaaGreatDoor.Px
open Go.RowKit Go.Proofs.YtfahbgkoldoflaaGreatDoorW.PrintWords Go.Proofs.YtfahbgkoldoflaaGreatDoorW.PrintLast Go.Proofs.YtfahbgkoldoflaaGreatDoorW.PrintMore
attribute [local go_sem] max2_int min2_int max_two min_two max_three min_three max_four min_four
set_option linter.unusedVariables false
set_option linter.unusedSimpArgs false

/-! ### big_Add: function 107 -/
noncomputable def big_Add.f (a0_0 : Bool) (a0_1 : Int) (a0_2 : Int) (a1_0 : Bool) (a1_1 : Int) (a1_2 : Int) : Option (Bool × Int × Int × Int) := (big_of.f a0_0 a0_1 a0_2).bind fun bt143 => ((big_of.f a1_0 a1_1 a1_2).bind fun bt145 => (if (a0_0 != a1_0) = true then ((big_size_cmpS.f bt143.1 bt143.2 bt145.1 bt145.2).bind fun t149 => (if t149 < 0 then ((big_size_minusS.f bt145.1 bt145.2 bt143.1 bt143.2).bind fun bt150 => ((big_size_with.f bt150.1 bt150.2 a1_0).bind fun bt152 => (some (bt152.1, bt152.2.1, bt152.2.2, 0)))) else ((big_size_minusS.f bt143.1 bt143.2 bt145.1 bt145.2).bind fun bt155 => ((big_size_with.f bt155.1 bt155.2 a0_0).bind fun bt157 => (some (bt157.1, bt157.2.1, bt157.2.2, 0)))))) else ((bits_Add64.f bt143.2 bt145.2 0).bind fun bt160 => ((bits_Add64.f bt143.1 bt145.1 bt160.2).bind fun bt162 => (if bt162.2 > 0 then (some (false, 0, 0, 10)) else ((big_size_with.f bt162.1 bt160.1 a0_0).bind fun bt164 => (some (bt164.1, bt164.2.1, bt164.2.2, 0))))))))
theorem l97 {n : Int} : Ld1 97 (.int .u64 n) := fun W p z => by go_simp
theorem z154 (W : World) : (Instr.alloc 154 true (.tuple #[])).run Tryz.prog W = .ok (.pointer (some ⟨W.heap.size, 0, none⟩)) (W.alloc (.cells #[.int .u64 0, .int .u64 0] 154)) := by kernel_rfl
section
variable {ops : Array Oper} {Q : Exit → Act → World → Prop} {ds : List Nat} {fuel : Nat} {lx : Array Bool} {a : Act} {W w0 : World} {L : List (Nat × Obj)} {oi : Oper} {v : Value} {t : TypeId} {N : Tmp} {K : Act → World → Prop}
/-- One of more steps that may come next: a call, a variable. -/
theorem eC (L' : List (Nat × Obj)) {f : FuncId} {fn : Func} {args : Array Value} {xs : Array Operand} {ts : Array TypeId} (H : Bx w0 (L ++ L') W) (hf : Tryz.prog.funcs[f]? = some fn) (hC : Calls Tryz.prog f args W fun e W' => e = .returned v ∧ Below W.heap.size W W')
    (h : ∀ W', Bx w0 (L ++ L') W' → wpAnyLast Tryz.prog .any ops Q (Bx w0 L) ds fuel lx (a.put (some N) v) W') (hK : Shut (∀ a' w', Bx w0 L w' → (Bx w0 L w' → wpAnyLast Tryz.prog .any ops Q (Bx w0 L) ds fuel lx a' w') → K a' w')) (hN : oi.dst = some N := by rfl) (hop : oi.op = .call { callee := .value (.func f), args := xs, argTypes := ts } := by rfl)
    (hw : Region.wanted oi (yielded ops a.tmps) = true := by rfl) (hb : fn.body.isSome = true := by rfl) (hname : (fn.name == "runtime.NumGoroutine") = false := by kernel_rfl) (hargs : xs.map a.eval = args := by kernel_rfl) : if Region.wanted oi (yielded ops a.tmps) = true then Oper.wp Tryz.prog oi a W K Q else K (a.put (some N) undef) W :=
  goes_ hf hname hb args hw hN hop hargs (hC.mono fun e W' ⟨he, hb⟩ => ⟨v, he, hK.out _ _ ((H.below hb).head) fun _ => h W' (H.below hb)⟩)
theorem eV (L' : List (Nat × Obj)) {ob : Obj} (H : Bx w0 (L ++ L') W) (hrun : ∀ W, (Instr.alloc t true (.tuple #[])).run Tryz.prog W = .ok (.pointer (some ⟨W.heap.size, 0, none⟩)) (W.alloc ob))
    (h : ∀ g W', Bx w0 (L ++ (L' ++ [(g, ob)])) W' → wpAnyLast Tryz.prog .any ops Q (Bx w0 L) ds fuel lx (a.put (some N) (.pointer (some ⟨g, 0, none⟩))) W') (hK : Shut (∀ a' w', Bx w0 L w' → (Bx w0 L w' → wpAnyLast Tryz.prog .any ops Q (Bx w0 L) ds fuel lx a' w') → K a' w')) (hN : oi.dst = some N := by rfl) (hop : oi.op = .alloc t := by rfl)
    (hw : Region.wanted oi (yielded ops a.tmps) = true := by rfl) : if Region.wanted oi (yielded ops a.tmps) = true then Oper.wp Tryz.prog oi a W K Q else K (a.put (some N) undef) W :=
  val_step hw hN (w1 := W.alloc ob) (v := .pointer (some ⟨W.heap.size, 0, none⟩)) (by simp [execOp, hop, hrun, Result.andThen]) (hK.out _ _ (H.head.below (below_alloc (Below.refl _ _) _)) fun _ => h _ _ (List.append_assoc L L' _ ▸ H.new rfl (blk_new W _) (below_alloc (Below.refl _ _) _)))
end
set_option maxHeartbeats 8000000 in
set_option maxRecDepth 100000 in
theorem big_Add.calls (a0_0 : Bool) (a0_1 : Int) (a0_2 : Int) (a1_0 : Bool) (a1_1 : Int) (a1_2 : Int) (r1 : Bool) (r2 : Int) (r3 : Int) (r4 : Int) (w : World) (h : big_Add.f a0_0 a0_1 a0_2 a1_0 a1_1 a1_2 = some (r1, r2, r3, r4)) :
  Calls Tryz.prog 107 #[.agg #[.bool a0_0, .int .u64 a0_1, .int .u64 a0_2], .agg #[.bool a1_0, .int .u64 a1_1, .int .u64 a1_2]] w fun e w' => e = .returned (.tuple #[.agg #[.bool r1, .int .u64 r2, .int .u64 r3], .int .i64 r4]) ∧ Below w.heap.size w w' := by
  have H := Aside0.mk (Bx.start w)
  simp only [big_Add.f, big_of.f, Option.bind_some] at h
  have HH := Aside0.mk h
  clear h
  go_enter Tryz.func107, Tryz.ntmps107
  go_upto_region 1 with (first
    | ((with_reducible refine gate_dst (N := 2) rfl ?_); refine bxB 2 99 (.tmp 0) H ?_; clear H; intro b2 _ H)
    | ((with_reducible refine gate_dst (N := 3) rfl ?_); refine bxB 3 99 (.tmp 1) H ?_; clear H; intro b3 _ H)
    | ((with_reducible refine gate_dst (N := 4) rfl ?_); refine bxV 4 99 #[.bool false, .int .u64 0, .int .u64 0] H (fun _ => by kernel_rfl) ?_; clear H; intro b4 _ H)
    | fail)
  refine rgB #[N,N,N,N,N,N,N,N] [6, 7] H ?_; clear H; intro W1 H
  refine rB 0 (some 11) #[Y,N,N,N,N,N,N,N] 0 Tryz.underlying99 H ?_
  refine rB 2 (some 13) #[Y,N,Y,N,N,N,N,N] 1 Tryz.underlying99 H ?_
  replace H := H.out
  obtain ⟨L0, hL⟩ : ∃ L0 : List (Nat × Obj), [(b2, .cells #[.bool a0_0, .int .u64 a0_1, .int .u64 a0_2] 99 (0, 0)), (b3, .cells #[.bool a1_0, .int .u64 a1_1, .int .u64 a1_2] 99 (0, 0)), (b4, .cells #[.bool false, .int .u64 0, .int .u64 0] 99 (0, 0))] = L0 := ⟨_, rfl⟩
  obtain ⟨R, hR⟩ : ∃ R : Obj, .cells #[.int .u64 0, .int .u64 0] 154 (0, 0) = R := ⟨_, rfl⟩
  have z154 := fun W => hR ▸ z154 W
  rw [hL] at H ⊢
  refine join_ (σ := Nat × Nat) 2 #[Y,Y,Y,Y,Y,Y,N,N] (fun s => [(12, .agg #[.int .u64 a0_1, .int .u64 a0_2]), (14, .agg #[.int .u64 a1_1, .int .u64 a1_2]), (6, .pointer (some ⟨s.1, 0, none⟩)), (7, .pointer (some ⟨s.2, 0, none⟩))]) (fun s W => Bx w (L0 ++ [(s.1, R), (s.2, R)]) W) ?_ (fun J211 => ?_)
  · rintro ⟨g6, g7⟩ W H
    refine norm_ (a' := ?_) ?_ ?_; rotate_left
    · simp only [putAll, Act.put, sA, sB, sC]; rfl
    subst hL
    subst hR
    replace H := Aside0.mk (show Bx w [(b2, .cells #[.bool a0_0, .int .u64 a0_1, .int .u64 a0_2] 99 (0, 0)), (b3, .cells #[.bool a1_0, .int .u64 a1_1, .int .u64 a1_2] 99 (0, 0)), (b4, .cells #[.bool false, .int .u64 0, .int .u64 0] 99 (0, 0)), (g6, .cells #[.int .u64 0, .int .u64 0] 154 (0, 0)), (g7, .cells #[.int .u64 0, .int .u64 0] 154 (0, 0))] _ from H)
    refine sB' 6 #[Y,Y,Y,Y,Y,Y,Y,N] 3 H ?_; clear H; intro _ H
    refine sB' 7 #[Y,Y,Y,Y,Y,Y,Y,Y] 4 H ?_; clear H; intro _ H
    refine done_ (by kernel_rfl) ?_
    have h := HH.out
    clear HH z154
    by_cases c : a0_0 = a1_0
    rotate_left
    · have c1 : (a0_0 != a1_0) = true := bne_iff_ne.mpr c
      rw [if_pos c1] at h
      obtain ⟨t, A1, h⟩ := Option.bind_eq_some_iff.1 h
      replace A1 := Aside0.mk A1
      have d1 : (a0_0 == a1_0) = false := beq_eq_false_iff_ne.mpr c
      have d2 : decide (a0_0 = a1_0) = false := decide_eq_false c
      clear c
      by_cases c2 : t < 0
      · rw [if_pos c2] at h
        have c3 := decide_eq_true c2
        clear c2
        obtain ⟨⟨m1, m2⟩, A2, h⟩ := Option.bind_eq_some_iff.1 h
        obtain ⟨⟨w1, w2, w3⟩, A3, h⟩ := Option.bind_eq_some_iff.1 h
        replace A2 := Aside0.mk A2
        replace A3 := Aside0.mk A3
        simp only [Option.some.injEq, Prod.mk.injEq] at h
        obtain ⟨rfl, rfl, rfl, rfl⟩ := h
        go_upto_region 4 with (first | (refine bxL 15 16 0 0 l4 H ?_) | (refine bxL 17 18 1 0 l4 H ?_) | (refine bxR 154 6 20 3 Tryz.underlying154 H ?_) | (refine bxR 154 7 21 4 Tryz.underlying154 H ?_) | (go_at_call 149; (with_reducible refine (big_size_cmpS.calls a0_1 a0_2 a1_1 a1_2 t _ A1.out).mono ?_); rintro e wc ⟨rfl, hb⟩; replace H := Aside0.mk (H.out.below hb); clear hb) | fail)
        refine rgB #[N,N,N,N,N,N,N,N] [6] H ?_; clear H; intro _ H
        refine rB 0 (some 24) #[Y,N,N,N,N,N,N,N] 4 Tryz.underlying154 H ?_
        refine rB 1 (some 25) #[Y,Y,N,N,N,N,N,N] 3 Tryz.underlying154 H ?_
        refine pG 3 (some 27) #[Y,Y,N,Y,N,N,N,N] ?_
        refine lB (v := .bool a1_0) 4 (some 28) #[Y,Y,N,Y,Y,N,N,N] 1 0 l4 H ?_
        refine cB 2 (some 26) #[Y,Y,Y,Y,Y,N,N,N] Tryz.func150 H (big_size_minusS.calls a1_1 a1_2 a0_1 a0_2 m1 m2 _ A2.out) ?_; clear H; intro _ H
        refine cB 5 (some 29) #[Y,Y,Y,Y,Y,Y,N,N] Tryz.func103 H (big_size_with.calls m1 m2 a1_0 w1 w2 w3 _ A3.out) ?_; clear H; intro _ H
        refine sB' 6 #[Y,Y,Y,Y,Y,Y,Y,N] 2 H ?_; clear H; intro _ H
        refine pG 7 (some 5) #[Y,Y,Y,Y,Y,Y,Y,Y] ?_
        refine done_ (by kernel_rfl) ?_
        go_wp2
        refine bodyPost_ret (results_row_tmp rfl b4 99 _ _ rfl rfl (H.out.get 2 rfl) Tryz.underlying99 (by kernel_rfl)) rfl ⟨rfl, H.out.lo⟩
      · rw [if_neg c2] at h
        have c3 := decide_eq_false c2
        clear c2
        obtain ⟨⟨m1, m2⟩, A2, h⟩ := Option.bind_eq_some_iff.1 h
        obtain ⟨⟨w1, w2, w3⟩, A3, h⟩ := Option.bind_eq_some_iff.1 h
        replace A2 := Aside0.mk A2
        replace A3 := Aside0.mk A3
        simp only [Option.some.injEq, Prod.mk.injEq] at h
        obtain ⟨rfl, rfl, rfl, rfl⟩ := h
        go_upto_region 5 with (first | (refine bxL 15 16 0 0 l4 H ?_) | (refine bxL 17 18 1 0 l4 H ?_) | (refine bxR 154 6 20 3 Tryz.underlying154 H ?_) | (refine bxR 154 7 21 4 Tryz.underlying154 H ?_) | (go_at_call 149; (with_reducible refine (big_size_cmpS.calls a0_1 a0_2 a1_1 a1_2 t _ A1.out).mono ?_); rintro e wc ⟨rfl, hb⟩; replace H := Aside0.mk (H.out.below hb); clear hb) | fail)
        refine rgB #[N,N,N,N,N,N,N,N] [6] H ?_; clear H; intro _ H
        refine rB 0 (some 30) #[Y,N,N,N,N,N,N,N] 3 Tryz.underlying154 H ?_
        refine rB 1 (some 31) #[Y,Y,N,N,N,N,N,N] 4 Tryz.underlying154 H ?_
        refine pG 3 (some 33) #[Y,Y,N,Y,N,N,N,N] ?_
        refine lB (v := .bool a0_0) 4 (some 34) #[Y,Y,N,Y,Y,N,N,N] 0 0 l4 H ?_
        refine cB 2 (some 32) #[Y,Y,Y,Y,Y,N,N,N] Tryz.func150 H (big_size_minusS.calls a0_1 a0_2 a1_1 a1_2 m1 m2 _ A2.out) ?_; clear H; intro _ H
        refine cB 5 (some 35) #[Y,Y,Y,Y,Y,Y,N,N] Tryz.func103 H (big_size_with.calls m1 m2 a0_0 w1 w2 w3 _ A3.out) ?_; clear H; intro _ H
        refine sB' 6 #[Y,Y,Y,Y,Y,Y,Y,N] 2 H ?_; clear H; intro _ H
        refine pG 7 (some 5) #[Y,Y,Y,Y,Y,Y,Y,Y] ?_
        refine done_ (by kernel_rfl) ?_
        go_wp2
        refine bodyPost_ret (results_row_tmp rfl b4 99 _ _ rfl rfl (H.out.get 2 rfl) Tryz.underlying99 (by kernel_rfl)) rfl ⟨rfl, H.out.lo⟩
    have c1 : (a0_0 != a1_0) = false := bne_eq_false_iff_eq.mpr c
    rw [c1, if_neg (by simp)] at h
    obtain ⟨⟨s1, k1⟩, A1, h⟩ := Option.bind_eq_some_iff.1 h
    obtain ⟨⟨s2, k2⟩, A2, h⟩ := Option.bind_eq_some_iff.1 h
    have A1 := bits_Add64.runs a0_2 a1_2 0 s1 k1 A1
    have A2 := bits_Add64.runs a0_1 a1_1 k1 s2 k2 A2
    have d1 : (a0_0 == a1_0) = true := beq_iff_eq.mpr c
    have d2 : decide (a0_0 = a1_0) = true := decide_eq_true c
    clear c
    by_cases c2 : k2 > 0
    · replace h := (if_pos c2).symm.trans h
      have c3 : decide (0 < k2) = true := decide_eq_true c2
      clear c2
      simp only [Option.some.injEq, Prod.mk.injEq] at h
      obtain ⟨rfl, rfl, rfl, rfl⟩ := h
      go_wp2_with (first
        | (refine bxL 15 16 0 0 l4 H ?_) | (refine bxL 17 18 1 0 l4 H ?_) | (refine bxL 37 38 3 1 l97 H ?_) | (refine bxL 39 40 4 1 l97 H ?_) | (refine bxL 45 46 3 0 l97 H ?_) | (refine bxL 47 48 4 0 l97 H ?_)
        | (refine bxP 99 4 55 2 H ?_; clear H; intro _ H)
        | fail)
      refine bodyPost_ret (results_row_tmp rfl b4 99 _ _ rfl rfl (H.out.get 2 rfl) Tryz.underlying99 (by kernel_rfl)) rfl ⟨rfl, H.out.lo⟩
    · replace h := (if_neg c2).symm.trans h
      have c3 : decide (0 < k2) = false := decide_eq_false c2
      clear c2
      obtain ⟨⟨w1, w2, w3⟩, A3, h⟩ := Option.bind_eq_some_iff.1 h
      replace A3 := Aside0.mk A3
      simp only [Option.some.injEq, Prod.mk.injEq] at h
      obtain ⟨rfl, rfl, rfl, rfl⟩ := h
      go_wp2_with (first
        | (refine bxL 15 16 0 0 l4 H ?_) | (refine bxL 17 18 1 0 l4 H ?_) | (refine bxL 37 38 3 1 l97 H ?_) | (refine bxL 39 40 4 1 l97 H ?_) | (refine bxL 45 46 3 0 l97 H ?_) | (refine bxL 47 48 4 0 l97 H ?_)
        | (refine bxL 59 60 0 0 l4 H ?_) | (go_at_call 103; (with_reducible refine (big_size_with.calls s2 s1 a0_0 w1 w2 w3 _ A3.out).mono ?_); rintro e wc ⟨rfl, hb⟩; replace H := Aside0.mk (H.out.below hb); clear hb) | (refine bxP 99 4 61 2 H ?_; clear H; intro _ H)
        | fail)
      refine bodyPost_ret (results_row_tmp rfl b4 99 _ _ rfl rfl (H.out.get 2 rfl) Tryz.underlying99 (by kernel_rfl)) rfl ⟨rfl, H.out.lo⟩
  refine join_ (σ := Nat) 3 #[Y,Y,Y,Y,Y,N,N,N] (fun s => [(12, .agg #[.int .u64 a0_1, .int .u64 a0_2]), (14, .agg #[.int .u64 a1_1, .int .u64 a1_2]), (6, .pointer (some ⟨s, 0, none⟩))]) (fun s W => Bx w (L0 ++ [(s, R)]) W) ?_ (fun J210 => ?_)
  · rintro g6 W H
    refine norm_ (a' := ?_) ?_ ?_; rotate_left
    · simp only [putAll, Act.put, sA, sB, sC]; rfl
    refine one_ (i := 5) (N := some 7) #[Y,Y,Y,Y,Y,Y,N,N] rfl rfl (by kernel_rfl) (by decide)  (fun K hK => eV [(g6, R)] H z154 (fun g7 W H => norm_ (by simp only [putAll, Act.put, sA, sB, sC] <;> rfl) (J211 (g6, g7) W H)) hK)
  refine join_ (σ := Nat) 3 #[Y,Y,Y,Y,N,Y,N,N] (fun s => [(12, .agg #[.int .u64 a0_1, .int .u64 a0_2]), (14, .agg #[.int .u64 a1_1, .int .u64 a1_2]), (7, .pointer (some ⟨s, 0, none⟩))]) (fun s W => Bx w (L0 ++ [(s, R)]) W) ?_ (fun J201 => ?_)
  · rintro g7 W H
    refine norm_ (a' := ?_) ?_ ?_; rotate_left
    · simp only [putAll, Act.put, sA, sB, sC]; rfl
    refine one_ (i := 4) (N := some 6) #[Y,Y,Y,Y,Y,Y,N,N] rfl rfl (by kernel_rfl) (by decide)  (fun K hK => eV [(g7, R)] H z154 (fun g6 W H => norm_ (by simp only [putAll, Act.put, sA, sB, sC] <;> rfl) (J211 (g6, g7) W (H.perm (List.Perm.append_left _ (List.Perm.swap _ _ _))))) hK)
  refine join_ (σ := Nat × Nat) 3 #[Y,Y,Y,N,Y,Y,N,N] (fun s => [(12, .agg #[.int .u64 a0_1, .int .u64 a0_2]), (6, .pointer (some ⟨s.1, 0, none⟩)), (7, .pointer (some ⟨s.2, 0, none⟩))]) (fun s W => Bx w (L0 ++ [(s.1, R), (s.2, R)]) W) ?_ (fun J111 => ?_)
  · rintro ⟨g6, g7⟩ W H
    refine norm_ (a' := ?_) ?_ ?_; rotate_left
    · simp only [putAll, Act.put, sA, sB, sC]; rfl
    refine one_ (i := 3) (N := some 14) #[Y,Y,Y,Y,Y,Y,N,N] rfl rfl (by kernel_rfl) (by decide)  (fun K hK => eC [(g6, R), (g7, R)] H Tryz.func148 (big_of.calls a1_0 a1_1 a1_2 _ _ _ rfl) (fun W H => norm_ (by simp only [putAll, Act.put, sA, sB, sC] <;> rfl) (J211 (g6, g7) W H)) hK)
  refine join_ (σ := Unit) 4 #[Y,Y,Y,Y,N,N,N,N] (fun s => [(12, .agg #[.int .u64 a0_1, .int .u64 a0_2]), (14, .agg #[.int .u64 a1_1, .int .u64 a1_2])]) (fun s W => Bx w (L0 ++ []) W) ?_ (fun J200 => ?_)
  · rintro _ W H
    refine norm_ (a' := ?_) ?_ ?_; rotate_left
    · simp only [putAll, Act.put, sA, sB, sC]; rfl
    refine two_ (i := 4) (Ni := some 6) (j := 5) (Nj := some 7) #[Y,Y,Y,Y,Y,N,N,N] #[Y,Y,Y,Y,N,Y,N,N] rfl rfl rfl rfl (by kernel_rfl) (by decide) (by decide)  (fun K hK => eV [] H z154 (fun g6 W H => norm_ (by simp only [putAll, Act.put, sA, sB, sC] <;> rfl) (J210 g6 W H)) hK) (fun K hK => eV [] H z154 (fun g7 W H => norm_ (by simp only [putAll, Act.put, sA, sB, sC] <;> rfl) (J201 g7 W H)) hK)
  refine join_ (σ := Nat) 4 #[Y,Y,Y,N,Y,N,N,N] (fun s => [(12, .agg #[.int .u64 a0_1, .int .u64 a0_2]), (6, .pointer (some ⟨s, 0, none⟩))]) (fun s W => Bx w (L0 ++ [(s, R)]) W) ?_ (fun J110 => ?_)
  · rintro g6 W H
    refine norm_ (a' := ?_) ?_ ?_; rotate_left
    · simp only [putAll, Act.put, sA, sB, sC]; rfl
    refine two_ (i := 3) (Ni := some 14) (j := 5) (Nj := some 7) #[Y,Y,Y,Y,Y,N,N,N] #[Y,Y,Y,N,Y,Y,N,N] rfl rfl rfl rfl (by kernel_rfl) (by decide) (by decide)  (fun K hK => eC [(g6, R)] H Tryz.func148 (big_of.calls a1_0 a1_1 a1_2 _ _ _ rfl) (fun W H => norm_ (by simp only [putAll, Act.put, sA, sB, sC] <;> rfl) (J210 g6 W H)) hK) (fun K hK => eV [(g6, R)] H z154 (fun g7 W H => norm_ (by simp only [putAll, Act.put, sA, sB, sC] <;> rfl) (J111 (g6, g7) W H)) hK)
  refine join_ (σ := Nat) 4 #[Y,Y,Y,N,N,Y,N,N] (fun s => [(12, .agg #[.int .u64 a0_1, .int .u64 a0_2]), (7, .pointer (some ⟨s, 0, none⟩))]) (fun s W => Bx w (L0 ++ [(s, R)]) W) ?_ (fun J101 => ?_)
  · rintro g7 W H
    refine norm_ (a' := ?_) ?_ ?_; rotate_left
    · simp only [putAll, Act.put, sA, sB, sC]; rfl
    refine two_ (i := 3) (Ni := some 14) (j := 4) (Nj := some 6) #[Y,Y,Y,Y,N,Y,N,N] #[Y,Y,Y,N,Y,Y,N,N] rfl rfl rfl rfl (by kernel_rfl) (by decide) (by decide)  (fun K hK => eC [(g7, R)] H Tryz.func148 (big_of.calls a1_0 a1_1 a1_2 _ _ _ rfl) (fun W H => norm_ (by simp only [putAll, Act.put, sA, sB, sC] <;> rfl) (J201 g7 W H)) hK) (fun K hK => eV [(g7, R)] H z154 (fun g6 W H => norm_ (by simp only [putAll, Act.put, sA, sB, sC] <;> rfl) (J111 (g6, g7) W (H.perm (List.Perm.append_left _ (List.Perm.swap _ _ _))))) hK)
  refine join_ (σ := Nat × Nat) 4 #[Y,N,Y,N,Y,Y,N,N] (fun s => [(6, .pointer (some ⟨s.1, 0, none⟩)), (7, .pointer (some ⟨s.2, 0, none⟩))]) (fun s W => Bx w (L0 ++ [(s.1, R), (s.2, R)]) W) ?_ (fun J011 => ?_)
  · rintro ⟨g6, g7⟩ W H
    refine norm_ (a' := ?_) ?_ ?_; rotate_left
    · simp only [putAll, Act.put, sA, sB, sC]; rfl
    refine one_ (i := 1) (N := some 12) #[Y,Y,Y,N,Y,Y,N,N] rfl rfl (by kernel_rfl) (by decide)  (fun K hK => eC [(g6, R), (g7, R)] H Tryz.func148 (big_of.calls a0_0 a0_1 a0_2 _ _ _ rfl) (fun W H => norm_ (by simp only [putAll, Act.put, sA, sB, sC] <;> rfl) (J111 (g6, g7) W H)) hK)
  refine join_ (σ := Unit) 5 #[Y,Y,Y,N,N,N,N,N] (fun s => [(12, .agg #[.int .u64 a0_1, .int .u64 a0_2])]) (fun s W => Bx w (L0 ++ []) W) ?_ (fun J100 => ?_)
  · rintro _ W H
    refine norm_ (a' := ?_) ?_ ?_; rotate_left
    · simp only [putAll, Act.put, sA, sB, sC]; rfl
    refine three_ (i := 3) (Ni := some 14) (j := 4) (Nj := some 6) (k := 5) (Nk := some 7) #[Y,Y,Y,Y,N,N,N,N] #[Y,Y,Y,N,Y,N,N,N] #[Y,Y,Y,N,N,Y,N,N] rfl rfl rfl rfl rfl rfl (by kernel_rfl) (by decide) (by decide) (by decide)  (fun K hK => eC [] H Tryz.func148 (big_of.calls a1_0 a1_1 a1_2 _ _ _ rfl) (fun W H => norm_ (by simp only [putAll, Act.put, sA, sB, sC] <;> rfl) (J200 () W H)) hK) (fun K hK => eV [] H z154 (fun g6 W H => norm_ (by simp only [putAll, Act.put, sA, sB, sC] <;> rfl) (J110 g6 W H)) hK) (fun K hK => eV [] H z154 (fun g7 W H => norm_ (by simp only [putAll, Act.put, sA, sB, sC] <;> rfl) (J101 g7 W H)) hK)
  refine join_ (σ := Nat) 5 #[Y,N,Y,N,Y,N,N,N] (fun s => [(6, .pointer (some ⟨s, 0, none⟩))]) (fun s W => Bx w (L0 ++ [(s, R)]) W) ?_ (fun J010 => ?_)
  · rintro g6 W H
    refine norm_ (a' := ?_) ?_ ?_; rotate_left
    · simp only [putAll, Act.put, sA, sB, sC]; rfl
    refine two_ (i := 1) (Ni := some 12) (j := 5) (Nj := some 7) #[Y,Y,Y,N,Y,N,N,N] #[Y,N,Y,N,Y,Y,N,N] rfl rfl rfl rfl (by kernel_rfl) (by decide) (by decide)  (fun K hK => eC [(g6, R)] H Tryz.func148 (big_of.calls a0_0 a0_1 a0_2 _ _ _ rfl) (fun W H => norm_ (by simp only [putAll, Act.put, sA, sB, sC] <;> rfl) (J110 g6 W H)) hK) (fun K hK => eV [(g6, R)] H z154 (fun g7 W H => norm_ (by simp only [putAll, Act.put, sA, sB, sC] <;> rfl) (J011 (g6, g7) W H)) hK)
  refine join_ (σ := Nat) 5 #[Y,N,Y,N,N,Y,N,N] (fun s => [(7, .pointer (some ⟨s, 0, none⟩))]) (fun s W => Bx w (L0 ++ [(s, R)]) W) ?_ (fun J001 => ?_)
  · rintro g7 W H
    refine norm_ (a' := ?_) ?_ ?_; rotate_left
    · simp only [putAll, Act.put, sA, sB, sC]; rfl
    refine two_ (i := 1) (Ni := some 12) (j := 4) (Nj := some 6) #[Y,Y,Y,N,N,Y,N,N] #[Y,N,Y,N,Y,Y,N,N] rfl rfl rfl rfl (by kernel_rfl) (by decide) (by decide)  (fun K hK => eC [(g7, R)] H Tryz.func148 (big_of.calls a0_0 a0_1 a0_2 _ _ _ rfl) (fun W H => norm_ (by simp only [putAll, Act.put, sA, sB, sC] <;> rfl) (J101 g7 W H)) hK) (fun K hK => eV [(g7, R)] H z154 (fun g6 W H => norm_ (by simp only [putAll, Act.put, sA, sB, sC] <;> rfl) (J011 (g6, g7) W (H.perm (List.Perm.append_left _ (List.Perm.swap _ _ _))))) hK)
  replace H : Bx w (L0 ++ []) W1 := by rwa [List.append_nil]
  refine three_ (i := 1) (Ni := some 12) (j := 4) (Nj := some 6) (k := 5) (Nk := some 7) #[Y,Y,Y,N,N,N,N,N] #[Y,N,Y,N,Y,N,N,N] #[Y,N,Y,N,N,Y,N,N] rfl rfl rfl rfl rfl rfl (by kernel_rfl) (by decide) (by decide) (by decide)  (fun K hK => eC [] H Tryz.func148 (big_of.calls a0_0 a0_1 a0_2 _ _ _ rfl) (fun W H => norm_ (by simp only [putAll, Act.put, sA, sB, sC] <;> rfl) (J100 () W H)) hK) (fun K hK => eV [] H z154 (fun g6 W H => norm_ (by simp only [putAll, Act.put, sA, sB, sC] <;> rfl) (J010 g6 W H)) hK) (fun K hK => eV [] H z154 (fun g7 W H => norm_ (by simp only [putAll, Act.put, sA, sB, sC] <;> rfl) (J001 g7 W H)) hK)


end Go.Proofs.YtfahbgkoldoflaaGreatDoor.Px
