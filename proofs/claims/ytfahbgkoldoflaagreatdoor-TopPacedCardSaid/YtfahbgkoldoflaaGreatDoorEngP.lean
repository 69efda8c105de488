/- The engine, by hand: part P. Conditions: none beside the theorems' own. -/
import Derived.Test.YtfahbgkoldoflaaGreatDoorEngE
import Derived.Test.YtfahbgkoldoflaaGreatDoorPx0
import Derived.Test.YtfahbgkoldoflaaGreatDoorPx11
import Derived.Test.YtfahbgkoldoflaaGreatDoorPx13
import Derived.Test.YtfahbgkoldoflaaGreatDoorPx16
import Derived.Test.YtfahbgkoldoflaaGreatDoorPx18
namespace Go.Proofs.YtfahbgkoldoflaaGreatDoor.Px
open Go.RowKit Go.Proofs.YtfahbgkoldoflaaGreatDoorW.PrintWords Go.Proofs.YtfahbgkoldoflaaGreatDoorW.PrintLast Go.Proofs.YtfahbgkoldoflaaGreatDoorW.PrintMore
attribute [local go_sem] max2_int min2_int max_two min_two max_three min_three max_four min_four
set_option linter.unusedVariables false
set_option linter.unusedSimpArgs false
/-- Which part a connection is in. -/
def phL (s : Ln) : Int := cond (decide (wrap64 (s.sent - s.out) < s.recov)) 3 (cond (decide (s.win < s.thresh)) (cond s.hgentle 1 0) 2)
set_option maxRecDepth 100000 in
set_option maxHeartbeats 2000000 in
theorem lr_phase (g : Nat) (s : Ln) (w : World) (hA0 : At w g s) : Calls Tryz.prog 47 #[.pointer (some ⟨g, 0, none⟩)] w fun e w' => e = .returned (.int .i64 (phL s)) ∧ Below w.heap.size w w' := by
  have hA := Aside0.mk hA0
  have H := Aside0.mk (StL.start hA0)
  clear hA0
  obtain ⟨p, hp⟩ : ∃ p, phL s = p := ⟨_, rfl⟩
  rw [hp]
  unfold phL at hp
  rcases c1 : decide (wrap64 (s.sent - s.out) < s.recov) with _ | _ <;> rcases c2 : decide (s.win < s.thresh) with _ | _ <;> rcases c3 : s.hgentle with _ | _ <;> rw [c1, c2, c3] at hp <;> subst hp <;> go_enter Tryz.func47, Tryz.ntmps47 <;> go_wp2_with (first
    | (go_at_call 89; (with_reducible refine (lr_recovers g s _ H.out.row).mono ?_); rintro e wr ⟨rfl, hb⟩; rw [c1]; replace H := Aside0.mk (H.out.below hb); clear hb)
    | (go_at_call 76; (with_reducible refine (lr_slow g s _ H.out.row).mono ?_); rintro e wr ⟨rfl, hb⟩; rw [c2]; replace H := Aside0.mk (H.out.below hb); clear hb)
    | (refine ldW 4 15 16 (ldB (c := 24) (n := true) (congrArg (fun b => some (Value.bool b)) c3)) H ?_)
    | (refine ldW 4 15 16 (ldB (c := 24) (n := false) (congrArg (fun b => some (Value.bool b)) c3)) H ?_)
    | fail)
  all_goals (go_ret; exact ⟨rfl, H.out.same hA.out⟩)
set_option maxRecDepth 100000 in
set_option maxHeartbeats 4000000 in
theorem look_w (k : Nat) (s : Ln) (x : Sl) (rt T : Int) (w : World) (hCk : Aside0 (∀ W : World, Below w.heap.size w W → Calls Tryz.prog 30 #[.agg (s.at x).cells] W fun e W' => e = .returned (.bool true) ∧ Below W.heap.size W W'))
    (hRt : Aside0 (rate_OfS.f s.win s.seg s.has s.mean s.far (decide (s.win < s.thresh)) = some rt)) (hTo : Aside0 (rto_Of.f k s.has s.mean s.far s.seg s.mx s.fst s.grain s.least s.great s.burst s.back = some T)) :
    Calls Tryz.prog 15 #[.agg (s.at x).cells] w fun e w' => e = .returned (.agg #[.int .i64 0, .int .i64 s.win, .int .i64 s.thresh, .int .i64 rt, .int .i64 T, .int .i64 (phL (s.at x))]) ∧ Below w.heap.size w w' := by
  have H := Aside0.mk (Bx.start w)
  go_enter Tryz.func15, Tryz.ntmps15
  go_upto_region 4 with (first
    | ((with_reducible refine gate_dst (N := 1) rfl ?_); refine bxB 1 48 (.tmp 0) (cs := (s.at x).cells) H ?_ (hx := by rfl) (hrun := run_box48 _); clear H; intro b1 _ H)
    | ((with_reducible refine gate_dst (N := 2) rfl ?_); refine bxV 2 61 #[.int .i64 0, .int .i64 0, .int .i64 0, .int .i64 0, .int .i64 0, .int .i64 0] H (fun _ => by kernel_rfl) ?_; clear H; intro b2 _ H)
    | (refine bxR 48 1 4 0 Tryz.underlying48 H ?_)
    | (go_at_call 30; (with_reducible refine (hCk.out _ H.out.lo).mono ?_); rintro e wc ⟨rfl, hb⟩; replace H := Aside0.mk (H.out.below hb); clear hb)
    | (refine bxR 48 1 8 0 Tryz.underlying48 H ?_)
    | ((with_reducible refine gate_dst (N := 9) rfl ?_); refine wpList_buildTo rfl 83 _ rfl (some 9) rfl (s.at x).cells (by kernel_rfl) ?_)
    | ((with_reducible refine gate_dst (N := 3) rfl ?_); refine bxV 3 83 Ln.zero.cells H run_alloc83 ?_; clear H; intro b3 _ H)
    | (refine bxP 83 3 9 2 H ?_; clear H; intro _ H)
    | fail)
  refine rgB #[N,N,N,N,N,N,N,N,N,N,N] [10] H ?_; clear H; intro _ H
  refine pG 0 (some 10) #[Y,N,N,N,N,N,N,N,N,N,N] ?_
  refine pG 1 (some 11) #[Y,Y,N,N,N,N,N,N,N,N,N] ?_
  refine lB (v := .int .i64 s.win) 2 (some 12) #[Y,Y,Y,N,N,N,N,N,N,N,N] 2 9 l3 H ?_
  refine pG 3 (some 13) #[Y,Y,Y,Y,N,N,N,N,N,N,N] ?_
  refine pG 4 (some 14) #[Y,Y,Y,Y,Y,N,N,N,N,N,N] ?_
  refine lB (v := .int .i64 s.thresh) 5 (some 15) #[Y,Y,Y,Y,Y,Y,N,N,N,N,N] 2 10 l3 H ?_
  refine cB 6 (some 16) #[Y,Y,Y,Y,Y,Y,Y,N,N,N,N] Tryz.func36 H (lr_rate b3 (s.at x) rt hRt _ (H.out.get 2 rfl)) ?_; clear H; intro _ H
  refine cB 7 (some 17) #[Y,Y,Y,Y,Y,Y,Y,Y,N,N,N] Tryz.func46 H (lr_timeout b3 (s.at x) k T hTo _ (H.out.get 2 rfl)) ?_; clear H; intro _ H
  refine cB 8 (some 18) #[Y,Y,Y,Y,Y,Y,Y,Y,Y,N,N] Tryz.func47 H (lr_phase b3 (s.at x) _ (H.out.get 2 rfl)) ?_; clear H; intro _ H
  refine pG (v := .agg #[.int .i64 0, .int .i64 s.win, .int .i64 s.thresh, .int .i64 rt, .int .i64 T, .int .i64 (phL (s.at x))]) 9 (some 19) #[Y,Y,Y,Y,Y,Y,Y,Y,Y,Y,N] ?_
  refine sB' 10 #[Y,Y,Y,Y,Y,Y,Y,Y,Y,Y,Y] 1 H ?_; clear H; intro _ H
  refine done_ (by kernel_rfl) ?_
  go_wp2
  refine bodyPost_ret (results_cell_row (fn := Tryz.f15) (p := 2) (ty := 61) rfl _ _ b2 61 _ (0, 0) _ rfl (H.out.get 1 rfl) Tryz.underlying61 rfl (by kernel_rfl)) rfl ⟨rfl, H.out.lo⟩
section
open Go.Proofs.YtfahbgkoldoflaaGreatDoor.Sp
theorem look_f (a b c d e : Int) (f : Int) (w : World) : (Instr.field 61 (.agg #[.int .i64 a, .int .i64 b, .int .i64 c, .int .i64 d, .int .i64 e, .int .i64 f]) 3).run Tryz.prog w = .ok (.int .i64 d) w := by kernel_rfl
set_option maxRecDepth 100000 in
set_option maxHeartbeats 8000000 in
theorem paced_w (seg mx fst grain least great burst : Int) (A : Option Addr) (c : Nat) (rows : List (List Int)) (w : World) (hA : Kd.C (Kd.slice 3 (Kd.int .i64)) w A rows.length rows) (hc : rows.length ≤ c) (hr : rows.length ≤ 9223372036854775807) (hL : Tens w) :
    Calls Tryz.prog 5 #[.agg #[.int .i64 seg, .int .i64 mx, .int .i64 fst, .int .i64 grain, .int .i64 least, .int .i64 great, .int .i64 burst], .slice A rows.length c] w fun e w' => e = .returned (.bool true) ∧ Below w.heap.size w w' := by
  have H := Aside0.mk (Bx.start w)
  have HA := Aside0.mk hA
  have HC := Aside0.mk hc
  have HT := Aside0.mk hL
  obtain ⟨kf, r, hf, hf2⟩ := few_ rows hr
  have HF := Aside0.mk hf
  clear hf hA hc hL hr
  obtain rfl | rfl := Bool.eq_false_or_eq_true r
  rotate_left
  · go_enter Tryz.func5, Tryz.ntmps5
    go_wp2_with (first
      | ((with_reducible refine gate_dst (N := 2) rfl ?_); refine bxB 2 33 (.tmp 0) H ?_; clear H; intro b2 _ H)
      | (go_at_call 6; (with_reducible refine (awake_w _ (tensB HT.out H.out.lo)).mono ?_); rintro e wc ⟨rfl, hb⟩; replace H := Aside0.mk (H.out.below hb); clear hb)
      | (go_at_call 10; (with_reducible refine (sawtoothref20_Few.calls kf A c rows 60 false _ (Kd.C_below HA.out H.out.lo) HC.out HF.out).mono ?_); rintro e wc ⟨rfl, ⟨nd, rfl⟩⟩; replace H := Aside0.mk (H.out.drewN nd))
      | fail)
    go_ret
    exact ⟨rfl, H.out.lo⟩
  have HR := Aside0.mk (hf2 rfl)
  clear hf2
  by_cases hk : cfgOk seg mx fst grain least great burst
  rotate_left
  · have HK := Aside0.mk hk
    clear hk
    go_enter Tryz.func5, Tryz.ntmps5
    go_wp2_with (first
      | ((with_reducible refine gate_dst (N := 2) rfl ?_); refine bxB 2 33 (.tmp 0) H ?_; clear H; intro b2 _ H)
      | (go_at_call 6; (with_reducible refine (awake_w _ (tensB HT.out H.out.lo)).mono ?_); rintro e wc ⟨rfl, hb⟩; replace H := Aside0.mk (H.out.below hb); clear hb)
      | (go_at_call 10; (with_reducible refine (sawtoothref20_Few.calls kf A c rows 60 true _ (Kd.C_below HA.out H.out.lo) HC.out HF.out).mono ?_); rintro e wc ⟨rfl, ⟨nd, rfl⟩⟩; replace H := Aside0.mk (H.out.drewN nd))
      | (refine bxR 33 2 22 0 Tryz.underlying33 H ?_)
      | (go_at_call 11; (with_reducible refine (new_bad HK.out _).mono ?_); rintro e wc ⟨rfl, hb⟩; replace H := Aside0.mk (H.out.below hb); clear hb)
      | ((with_reducible refine gate_dst (N := 6) rfl ?_); refine bxV 6 48 Ln.zero.cells H run_alloc48 ?_; clear H; intro b6 _ H)
      | (refine bxP 48 6 24 1 H ?_; clear H; intro _ H)
      | fail)
    go_ret
    exact ⟨rfl, H.out.lo⟩
  have HK := Aside0.mk hk
  obtain ⟨M0, hM0⟩ : ∃ M, wrap64 (wrap64 (burst * seg) * 1000000) = M := ⟨_, rfl⟩
  have hm0 : 0 ≤ M0 ∧ M0 ≤ 9000000000000 := by
    obtain ⟨h1, h2, _, _, _, _, _, _, _, _, _, _, h3, h4⟩ := hk
    have m := mul_le (a := burst) (b := seg) (A := 1000) (C := 9000) (by omega) h4 (by omega) h2
    rw [← hM0, w64_ (x := burst * seg) (by omega), w64_ (by omega)]
    omega
  have hh : (Ln.new seg mx fst grain least great burst).bhave = M0 := hM0
  have HM0 := Aside0.mk hm0
  have HH := Aside0.mk hh
  clear hk hm0 hh
  go_enter Tryz.func5, Tryz.ntmps5
  go_wp2_with (first
      | ((with_reducible refine gate_dst (N := 2) rfl ?_); refine bxB 2 33 (.tmp 0) H ?_; clear H; intro b2 _ H)
      | (go_at_call 6; (with_reducible refine (awake_w _ (tensB HT.out H.out.lo)).mono ?_); rintro e wc ⟨rfl, hb⟩; replace H := Aside0.mk (H.out.below hb); clear hb)
      | (go_at_call 10; (with_reducible refine (sawtoothref20_Few.calls kf A c rows 60 true _ (Kd.C_below HA.out H.out.lo) HC.out HF.out).mono ?_); rintro e wc ⟨rfl, ⟨nd, rfl⟩⟩; replace H := Aside0.mk (H.out.drewN nd))
      | (refine bxR 33 2 22 0 Tryz.underlying33 H ?_)
      | (go_at_call 11; (with_reducible refine (new_ok HK.out _).mono ?_); rintro e wc ⟨rfl, hb⟩; replace H := Aside0.mk (H.out.below hb); clear hb)
      | ((with_reducible refine gate_dst (N := 6) rfl ?_); refine bxV 6 48 Ln.zero.cells H run_alloc48 ?_; clear H; intro b6 _ H)
      | (refine bxP 48 6 24 1 H ?_; clear H; intro _ H)
      | (refine bxL (v := .int .i64 burst) 29 30 0 6 l3 H ?_)
      | (refine bxL (v := .int .i64 seg) 31 32 0 0 l3 H ?_)
      | ((with_reducible refine gate_dst (N := 35) rfl ?_); refine wpList_buildTo rfl 46 _ rfl (some 35) rfl #[.int .i64 0, .int .i64 M0] (by rw [← hM0]; kernel_rfl) ?_)
      | ((with_reducible refine gate_dst (N := 8) rfl ?_); refine bxV 8 46 #[.int .i64 0, .int .i64 0] H (fun _ => by kernel_rfl) ?_; clear H; intro b8 _ H)
      | (refine bxP 46 8 35 2 H ?_; clear H; intro _ H)
      | fail)
  clear hM0
  go_loopg [9] rows.length (fun kq v9 wr => ∃ (i : Nat) (s : Ln) (z : Sl) (l : List S119) (M : Int), v9 = .int .i64 i ∧ Aside0 (i + kq = rows.length) ∧ Aside0 (l.length ≤ i) ∧ Aside0 (Inv s) ∧ Aside0 (0 ≤ s.told ∧ 0 ≤ s.out ∧ s.told + s.out ≤ s.sent) ∧ Aside0 (s.sent * 1000000 + s.bhave ≤ M ∧ M ≤ 4611686018427387904) ∧ Aside0 (Mk b6 0 wr z l) ∧ Aside0 (∀ a, z.A = some a → a.block ≠ b8) ∧ Aside0 (Bx w [(b2, .cells #[.int .i64 seg, .int .i64 mx, .int .i64 fst, .int .i64 grain, .int .i64 least, .int .i64 great, .int .i64 burst] 33 (0, 0)), (b6, .cells (s.at z).cells 48 (0, 0)), (b8, .cells #[.int .i64 0, .int .i64 M] 46 (0, 0))] wr))
  case atStart => exact ⟨0, Ln.new seg mx fst grain least great burst, ⟨none, 0, 0⟩, [], M0, rfl, ⟨by omega⟩, ⟨by simp⟩, ⟨new_inv HK.out⟩, ⟨Int.le_refl 0, Int.le_refl 0, Int.le_refl 0⟩, ⟨by rw [HH.out]; have := HM0.out; show (0 : Int) * 1000000 + M0 ≤ M0; omega, by have := HM0.out; omega⟩, ⟨rfl, Nat.le_refl _, fun _ => rfl, fun a q => (by cases q), fun a q => (by cases q), Kd.C_nil k119 _⟩, ⟨fun a q => (by cases q)⟩, H⟩
  case round =>
    clear H HM0 HH
    obtain ⟨i, s, z, l, M, rfl, HI, HL, HV, HP, HW, HM, HB8, H⟩ := hrel
    cases gk with
    | zero =>
      have hi : i = rows.length := by have := HI.out; omega
      subst hi
      have c1 : decide ((rows.length : Int) < (rows.length : Int)) = false := decide_eq_false (by omega)
      go_wp2
      go_ret
      exact ⟨rfl, H.out.lo⟩
    | succ k1 =>
      have hi : i < rows.length := by have := HI.out; omega
      have c1 : decide ((i : Int) < (rows.length : Int)) = true := decide_eq_true (by omega)
      have p1 : 0 ≤ (i : Int) := by omega
      have q1 : (i : Int) < (rows.length : Int) := by omega
      obtain ⟨ad, A0, c0, e0, x0, y0, z0⟩ := at_L1 (Kd.C_below HA.out H.out.lo) (i : Int) p1 q1
      obtain ⟨row, hrow⟩ : ∃ row, rd_L1 rows (i : Int) = row := ⟨_, rfl⟩
      rw [hrow] at x0 y0 z0
      cases e0
      have hin : ((i : Int)).toNat = i := by omega
      rw [hin] at x0
      replace p1 := eq_true p1
      replace q1 := eq_true q1
      have Z0 := Aside0.mk z0
      clear hrow hi hin y0 z0
      go_upto_region 12 with (first
        | (go_at_call 12; (with_reducible refine (decode_w A0 c0 row _ Z0.out (fun a => let ⟨r, h, _⟩ := clk_ a; ⟨r, h⟩)).mono ?_); rintro e wd ⟨⟨k, a, b, r, n, rfl⟩, hb⟩; replace H := Aside0.mk (H.out.below hb); replace HM := Aside0.mk (HM.out.below hb); clear hb x0 p1 q1)
        | ((with_reducible refine gate_dst (N := 10) rfl ?_); refine bxV1 10 52 #[.int .i64 0, .int .i64 0, .int .i64 0, .int .i64 0] H (fun _ => by kernel_rfl) ?_; clear H; intro b10 w10 hw H; have HD := Aside0.mk (fun a (e : z.A = some a) => Nat.ne_of_lt (Nat.lt_of_lt_of_le (HM.out.lt a e) hw.out.1)); replace HM := Aside0.mk (HM.out.below hw.out.2); clear hw)
        | (refine bxP1 52 10 48 3 H ?_; clear H; intro w11 hw H; replace HM := Aside0.mk (HM.out.far hw.out HD.out); clear hw HD)
        | fail)
      by_cases h0 : n = 0
      rotate_left
      · have c2 : (n != 0) = true := bne_iff_ne.mpr h0
        clear h0
        go_wp2
        go_roundg k1
        case rel => exact ⟨i + 1, s, z, l, M, congrArg (Value.int .i64) (by rw [w64_ (x := (i : Int) + 1) (by have := HI.out; have := HR.out; omega)]; rfl), ⟨by have := HI.out; omega⟩, ⟨by have := HL.out; omega⟩, HV, HP, HW, HM, HB8, ⟨Bx.head (L := [_, _, _]) H.out⟩⟩
        case measure => omega
      subst h0
      obtain ⟨K, hK, hF⟩ := check_law s HV.out z l (by have := HL.out; have := HI.out; have := HR.out; omega)
      obtain ⟨rt, hrt⟩ := rate_law HV.out hF
      have HD := Aside0.mk (fun W hx hT => do_law s HV.out z l K k a b r rt W hx (by have := HL.out; have := HI.out; have := HR.out; omega) hT hK hF hrt)
      have HCK := hK
      have HFT := Aside0.mk hF
      have HRT := Aside0.mk hrt
      clear hK hF hrt
      go_upto_region 14 with (first
        | (refine bxR 48 6 53 1 Tryz.underlying48 H ?_)
        | (refine bxR 52 10 54 3 Tryz.underlying52 H ?_)
        | (go_at_call 13; (with_reducible refine (HD.out _ HM.out.rd (tensB HT.out H.out.lo)).mono ?_); rintro e wd ⟨t, z', l', n, rfl, hl', ho, hb, hp⟩; have HL' := Aside0.mk hl'; have HO := Aside0.mk ho; have HP' := Aside0.mk hp; have HE := Aside0.mk (blk_lt (H.out.get 1 rfl)); have HB8' := Aside0.mk (fun a (e : z'.A = some a) => (by have := ho.ge a e; have := blk_lt (H.out.get 2 rfl); omega : a.block ≠ b8)); replace H := Aside0.mk (H.out.below hb); replace HM := Aside0.mk (HM.out.below hb); clear hl' ho hb hp)
        | ((with_reducible refine gate_dst (N := 12) rfl ?_); refine bxV1 12 48 Ln.zero.cells H run_alloc48 ?_; clear H; intro b12 w12 hw H; have HN := Aside0.mk (fun a (e : z.A = some a) => Nat.ne_of_lt (Nat.lt_of_lt_of_le (HM.out.lt a e) hw.out.1)); have HN' := Aside0.mk (fun a (e : z'.A = some a) => Nat.ne_of_lt (Nat.lt_of_lt_of_le (HO.out.lt a e) hw.out.1)); replace HM := Aside0.mk (HM.out.below hw.out.2); replace HO := Aside0.mk ((HO.out.mk' HE.out).low.below hw.out.2); clear hw)
        | (refine bxP1 48 12 56 4 H ?_; clear H; intro w13 hw H; replace HM := Aside0.mk (HM.out.far hw.out HN.out); replace HO := Aside0.mk (HO.out.far hw.out HN'.out); clear hw HN HN' HE)
        | fail)
      by_cases h0 : n = 0
      rotate_left
      · have c2 : (n != 0) = true := bne_iff_ne.mpr h0
        clear h0
        go_wp2
        go_roundg k1
        case rel => exact ⟨i + 1, s, z, l, M, congrArg (Value.int .i64) (by rw [w64_ (x := (i : Int) + 1) (by have := HI.out; have := HR.out; omega)]; rfl), ⟨by have := HI.out; omega⟩, ⟨by have := HL.out; omega⟩, HV, HP, HW, HM, HB8, ⟨Bx.head (L := [_, _, _]) H.out⟩⟩
        case measure => omega
      subst h0
      have HQ := Aside0.mk (HP'.out rfl).2
      have hKT := (HP'.out rfl).1
      subst hKT
      have ft := HFT.out rfl
      obtain ⟨T, hT⟩ := rtoOf_ s.has s.mean s.far s.seg s.mx s.fst s.grain s.least s.great s.burst s.back ft.back.1 ft.back.2
      obtain ⟨g, hg⟩ : ∃ g, t.now - s.now = g := ⟨_, rfl⟩
      have hg1 : 0 ≤ g ∧ g ≤ 1099511627776 := by have := HQ.out.now; have := ft.now; omega
      have hg2 : wrap64 (t.now - s.now) = g := by rw [w64_ (by omega), hg]
      have rt0 := (HRT.out rfl).2.1
      have HLK := Aside0.mk (fun (W : World) (hx : Mk b6 0 W z l) (hT' : Tens W) => look_w 66 s z rt T W ⟨fun W' hb => HCK.out W' (Kd.C_below hx.C hb) (tensB hT' hb)⟩ ⟨(HRT.out rfl).1⟩ ⟨hT⟩)
      have HG := Aside0.mk hg
      have HFN := Aside0.mk ft.now
      clear HD HFT HRT ft hT HCK hg
      have hfl := look_f
      go_upto_region 17 with (first
        | (refine bxR 48 6 60 1 Tryz.underlying48 H ?_)
        | (go_at_call 15; (with_reducible refine (HLK.out _ HM.out (tensB HT.out H.out.lo)).mono ?_); rintro e wl ⟨rfl, hb⟩; replace H := Aside0.mk (H.out.below hb); replace HO := Aside0.mk (HO.out.below hb); clear hb HM HLK)
        | (refine bxL (v := .int .i64 t.now) 63 64 4 7 l3 H ?_)
        | (refine bxL (v := .int .i64 s.now) 65 66 1 7 l3 H ?_)
        | fail)
      rw [hg2]
      clear hg2 hg1
      by_cases a1 : 2147483648 < rt
      · have c2 : decide (2147483648 < rt) = true := decide_eq_true a1
        clear a1 rt0
        go_wp2_with (first | (refine bxL (v := .int .i64 M) 75 76 2 1 l3 H ?_) | fail)
        go_ret
        exact ⟨rfl, H.out.lo⟩
      have c2 : decide (2147483648 < rt) = false := decide_eq_false a1
      by_cases a2 : 16777216 < g
      · have c3 : decide (16777216 < g) = true := decide_eq_true a2
        clear a1 a2 rt0
        go_wp2_with (first | (refine bxL (v := .int .i64 M) 75 76 2 1 l3 H ?_) | fail)
        go_ret
        exact ⟨rfl, H.out.lo⟩
      have c3 : decide (16777216 < g) = false := decide_eq_false a2
      by_cases a3 : 2305843009213693952 < M
      · have c4 : decide (2305843009213693952 < M) = true := decide_eq_true a3
        clear a1 a2 a3 rt0
        go_wp2_with (first | (refine bxL (v := .int .i64 M) 75 76 2 1 l3 H ?_) | fail)
        go_ret
        exact ⟨rfl, H.out.lo⟩
      have c4 : decide (2305843009213693952 < M) = false := decide_eq_false a3
      have hg1 : 0 ≤ g := by have := HG.out; have := HQ.out.now; omega
      have m := mul_le (a := rt) (b := g) (A := 2147483648) (C := 16777216) rt0 (by omega) hg1 (by omega)
      have hp := HW.out
      have hp2 := HP.out
      have hp3 := HV.out.bh
      have hm : wrap64 (M + wrap64 (rt * g)) = M + rt * g := by rw [w64_ (x := rt * g) (by omega), w64_ (by omega)]
      have hb := HQ.out.bk
      have hq := HQ.out.pos
      have hi2 := HQ.out.inv.bh
      rw [HG.out] at hb
      obtain ⟨p, hpp⟩ : ∃ p, rt * g = p := ⟨_, rfl⟩
      rw [hpp] at m hb hm
      have ht : 0 ≤ t.sent * 1000000 ∧ t.sent * 1000000 + t.bhave ≤ M + p ∧ M + p ≤ 4611686018427387904 := by omega
      have c5 : decide (M + p < wrap64 (t.sent * 1000000)) = false := decide_eq_false (by rw [w64_ (by omega)]; omega)
      have HT5 := Aside0.mk ht
      have HM5 := Aside0.mk hm
      have HP5 := Aside0.mk hpp
      clear a1 a2 a3 rt0 hg1 m hp hp2 hp3 hb hq hi2 ht
      go_upto_region 20 with (first
        | (refine bxL (v := .int .i64 M) 75 76 2 1 l3 H ?_)
        | (refine bxL (v := .int .i64 M) 80 81 2 1 l3 H ?_)
        | (refine bxS1 86 (.tmp 85) 2 1 s3 H ?_; clear H; intro w14 hw H; replace HO := Aside0.mk (HO.out.far hw.out HB8'.out); clear hw)
        | fail)
      rw [hm] at H
      have H := Aside0.mk H.out
      go_wp2_with (first
        | (refine bxL (v := .int .i64 t.sent) 88 89 4 12 l3 H ?_)
        | (refine bxL (v := .int .i64 (M + p)) 91 92 2 1 l3 H ?_)
        | (refine bxR 48 12 94 4 Tryz.underlying48 H ?_)
        | (refine bxP1 48 6 94 1 H ?_; clear H; intro w15 hw H; replace HO := Aside0.mk (HO.out.wr hw.out); clear hw)
        | fail)
      go_roundg k1
      case rel => exact ⟨i + 1, t, z', l', M + p, congrArg (Value.int .i64) (by rw [w64_ (x := (i : Int) + 1) (by have := HI.out; have := HR.out; omega)]; rfl), ⟨by have := HI.out; omega⟩, ⟨by have := HL.out; have := HL'.out; omega⟩, ⟨HQ.out.inv⟩, ⟨HQ.out.pos⟩, ⟨HT5.out.2⟩, HO, HB8', ⟨Bx.head (L := [_, _, _]) H.out⟩⟩
      case measure => omega
end
end Go.Proofs.YtfahbgkoldoflaaGreatDoor.Px
