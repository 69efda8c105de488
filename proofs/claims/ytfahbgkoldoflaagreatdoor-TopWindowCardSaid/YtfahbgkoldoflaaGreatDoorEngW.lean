/- The engine, by hand: part W. Conditions: none beside the theorems' own. -/
import Derived.Test.YtfahbgkoldoflaaGreatDoorEngE
import Derived.Test.YtfahbgkoldoflaaGreatDoorPx0
import Derived.Test.YtfahbgkoldoflaaGreatDoorPx11
import Derived.Test.YtfahbgkoldoflaaGreatDoorPx13
namespace Go.Proofs.YtfahbgkoldoflaaGreatDoor.Px
open Go.RowKit Go.Proofs.YtfahbgkoldoflaaGreatDoorW.PrintWords Go.Proofs.YtfahbgkoldoflaaGreatDoorW.PrintLast Go.Proofs.YtfahbgkoldoflaaGreatDoorW.PrintMore
attribute [local go_sem] max2_int min2_int max_two min_two max_three min_three max_four min_four
set_option linter.unusedVariables false
set_option linter.unusedSimpArgs false
section
open Go.Proofs.YtfahbgkoldoflaaGreatDoor.Sp
set_option maxRecDepth 100000 in
set_option maxHeartbeats 8000000 in
theorem window_w (seg mx fst grain least great burst : Int) (A : Option Addr) (c : Nat) (rows : List (List Int)) (w : World) (hA : Kd.C (Kd.slice 3 (Kd.int .i64)) w A rows.length rows) (hc : rows.length ≤ c) (hr : rows.length ≤ 9223372036854775807) (hL : Tens w) :
    Calls Tryz.prog 4 #[.agg #[.int .i64 seg, .int .i64 mx, .int .i64 fst, .int .i64 grain, .int .i64 least, .int .i64 great, .int .i64 burst], .slice A rows.length c] w fun e w' => e = .returned (.bool true) ∧ Below w.heap.size w w' := by
  have H := Aside0.mk (Bx.start w)
  have HA := Aside0.mk hA
  have HC := Aside0.mk hc
  have HT := Aside0.mk hL
  obtain ⟨kf, r, hf, hf2⟩ := few_ rows hr
  have HF := Aside0.mk hf
  clear hf hA hc hL hr
  obtain rfl | rfl := Bool.eq_false_or_eq_true r
  rotate_left
  · go_enter Tryz.func4, Tryz.ntmps4
    go_wp2_with (first
      | ((with_reducible refine gate_dst (N := 2) rfl ?_); refine bxB 2 33 (.tmp 0) H ?_; clear H; intro b2 _ H)
      | (go_at_call 6; (with_reducible refine (awake_w _ (tensB HT.out H.out.lo)).mono ?_); rintro e wc ⟨rfl, hb⟩; replace H := Aside0.mk (H.out.below hb); clear hb)
      | (go_at_call 10; (with_reducible refine (sawtoothref20_Few.calls kf A c rows 60 false _ (Kd.C_below HA.out H.out.lo) HC.out HF.out).mono ?_); rintro e wc ⟨rfl, ⟨nd, rfl⟩⟩; replace H := Aside0.mk (H.out.drewN nd))
      | fail)
    go_ret
    exact ⟨rfl, H.out.lo⟩
  have HR := Aside0.mk (hf2 rfl)
  clear hf2
  by_cases hk : cfgOk seg mx fst grain least great burst
  rotate_left
  · have HK := Aside0.mk hk
    clear hk
    go_enter Tryz.func4, Tryz.ntmps4
    go_wp2_with (first
      | ((with_reducible refine gate_dst (N := 2) rfl ?_); refine bxB 2 33 (.tmp 0) H ?_; clear H; intro b2 _ H)
      | (go_at_call 6; (with_reducible refine (awake_w _ (tensB HT.out H.out.lo)).mono ?_); rintro e wc ⟨rfl, hb⟩; replace H := Aside0.mk (H.out.below hb); clear hb)
      | (go_at_call 10; (with_reducible refine (sawtoothref20_Few.calls kf A c rows 60 true _ (Kd.C_below HA.out H.out.lo) HC.out HF.out).mono ?_); rintro e wc ⟨rfl, ⟨nd, rfl⟩⟩; replace H := Aside0.mk (H.out.drewN nd))
      | (refine bxR 33 2 22 0 Tryz.underlying33 H ?_)
      | (go_at_call 11; (with_reducible refine (new_bad HK.out _).mono ?_); rintro e wc ⟨rfl, hb⟩; replace H := Aside0.mk (H.out.below hb); clear hb)
      | ((with_reducible refine gate_dst (N := 6) rfl ?_); refine bxV 6 48 Ln.zero.cells H run_alloc48 ?_; clear H; intro b6 _ H)
      | (refine bxP 48 6 24 1 H ?_; clear H; intro _ H)
      | fail)
    go_ret
    exact ⟨rfl, H.out.lo⟩
  have HK := Aside0.mk hk
  clear hk
  go_enter Tryz.func4, Tryz.ntmps4
  go_wp2_with (first
    | ((with_reducible refine gate_dst (N := 2) rfl ?_); refine bxB 2 33 (.tmp 0) H ?_; clear H; intro b2 _ H)
    | (go_at_call 6; (with_reducible refine (awake_w _ (tensB HT.out H.out.lo)).mono ?_); rintro e wc ⟨rfl, hb⟩; replace H := Aside0.mk (H.out.below hb); clear hb)
    | (go_at_call 10; (with_reducible refine (sawtoothref20_Few.calls kf A c rows 60 true _ (Kd.C_below HA.out H.out.lo) HC.out HF.out).mono ?_); rintro e wc ⟨rfl, ⟨nd, rfl⟩⟩; replace H := Aside0.mk (H.out.drewN nd))
    | (refine bxR 33 2 22 0 Tryz.underlying33 H ?_)
    | (go_at_call 11; (with_reducible refine (new_ok HK.out _).mono ?_); rintro e wc ⟨rfl, hb⟩; replace H := Aside0.mk (H.out.below hb); clear hb)
    | ((with_reducible refine gate_dst (N := 6) rfl ?_); refine bxV 6 48 Ln.zero.cells H run_alloc48 ?_; clear H; intro b6 _ H)
    | (refine bxP 48 6 24 1 H ?_; clear H; intro _ H)
    | fail)
  go_loopg [8, 9] rows.length (fun kq v8 v9 wr => ∃ (i : Nat) (s : Ln) (z : Sl) (l : List S119), v9 = .int .i64 i ∧ v8 = .int .i64 (s.sent - s.told - s.out) ∧ Aside0 (i + kq = rows.length) ∧ Aside0 (l.length ≤ i) ∧ Aside0 (Inv s) ∧ Aside0 (0 ≤ s.told ∧ 0 ≤ s.out ∧ s.told + s.out ≤ s.sent) ∧ Aside0 (s.seg = seg) ∧ Aside0 (Mk b6 0 wr z l) ∧ Aside0 (Bx w [(b2, .cells #[.int .i64 seg, .int .i64 mx, .int .i64 fst, .int .i64 grain, .int .i64 least, .int .i64 great, .int .i64 burst] 33 (0, 0)), (b6, .cells (s.at z).cells 48 (0, 0))] wr))
  case atStart => exact ⟨0, Ln.new seg mx fst grain least great burst, ⟨none, 0, 0⟩, [], rfl, rfl, ⟨by omega⟩, ⟨by simp⟩, ⟨new_inv HK.out⟩, ⟨Int.le_refl 0, Int.le_refl 0, Int.le_refl 0⟩, ⟨rfl⟩, ⟨rfl, Nat.le_refl _, fun _ => rfl, fun a q => (by cases q), fun a q => (by cases q), Kd.C_nil k119 _⟩, H⟩
  case round =>
    clear H
    obtain ⟨i, s, z, l, rfl, rfl, HI, HL, HV, HP, HS, HM, H⟩ := hrel
    cases gk with
    | zero =>
      have hi : i = rows.length := by have := HI.out; omega
      subst hi
      have c1 : decide ((rows.length : Int) < (rows.length : Int)) = false := decide_eq_false (by omega)
      go_wp2
      go_ret
      exact ⟨rfl, H.out.lo⟩
    | succ k1 =>
      have hi : i < rows.length := by have := HI.out; omega
      have c1 : decide ((i : Int) < (rows.length : Int)) = true := decide_eq_true (by omega)
      have p1 : 0 ≤ (i : Int) := by omega
      have q1 : (i : Int) < (rows.length : Int) := by omega
      obtain ⟨ad, A0, c0, e0, x0, y0, z0⟩ := at_L1 (Kd.C_below HA.out H.out.lo) (i : Int) p1 q1
      obtain ⟨row, hrow⟩ : ∃ row, rd_L1 rows (i : Int) = row := ⟨_, rfl⟩
      rw [hrow] at x0 y0 z0
      cases e0
      have hin : ((i : Int)).toNat = i := by omega
      rw [hin] at x0
      replace p1 := eq_true p1
      replace q1 := eq_true q1
      have Z0 := Aside0.mk z0
      clear hrow hi hin y0 z0
      go_upto_region 12 with (first
        | (go_at_call 12; (with_reducible refine (decode_w A0 c0 row _ Z0.out (fun a => let ⟨r, h, _⟩ := clk_ a; ⟨r, h⟩)).mono ?_); rintro e wd ⟨⟨k, a, b, r, n, rfl⟩, hb⟩; replace H := Aside0.mk (H.out.below hb); replace HM := Aside0.mk (HM.out.below hb); clear hb x0 p1 q1)
        | ((with_reducible refine gate_dst (N := 10) rfl ?_); refine bxV1 10 52 #[.int .i64 0, .int .i64 0, .int .i64 0, .int .i64 0] H (fun _ => by kernel_rfl) ?_; clear H; intro b10 w10 hw H; have HD := Aside0.mk (fun a (e : z.A = some a) => Nat.ne_of_lt (Nat.lt_of_lt_of_le (HM.out.lt a e) hw.out.1)); replace HM := Aside0.mk (HM.out.below hw.out.2); clear hw)
        | (refine bxP1 52 10 41 2 H ?_; clear H; intro w11 hw H; replace HM := Aside0.mk (HM.out.far hw.out HD.out); clear hw HD)
        | fail)
      by_cases h0 : n = 0
      rotate_left
      · have c2 : (n != 0) = true := bne_iff_ne.mpr h0
        clear h0
        go_wp2
        go_roundg k1
        case rel => exact ⟨i + 1, s, z, l, congrArg (Value.int .i64) (by rw [w64_ (x := (i : Int) + 1) (by have := HI.out; have := HR.out; omega)]; rfl), rfl, ⟨by have := HI.out; omega⟩, ⟨by have := HL.out; omega⟩, HV, HP, HS, HM, ⟨Bx.head (L := [_, _]) H.out⟩⟩
        case measure => omega
      subst h0
      obtain ⟨K, hK, hF⟩ := check_law s HV.out z l (by have := HL.out; have := HI.out; have := HR.out; omega)
      obtain ⟨rt, hrt⟩ := rate_law HV.out hF
      have HD := Aside0.mk (fun W hx hT => do_law s HV.out z l K k a b r rt W hx (by have := HL.out; have := HI.out; have := HR.out; omega) hT hK hF hrt)
      clear hK hF hrt
      go_upto_region 14 with (first
        | (refine bxR 48 6 46 1 Tryz.underlying48 H ?_)
        | (refine bxR 52 10 47 2 Tryz.underlying52 H ?_)
        | (go_at_call 13; (with_reducible refine (HD.out _ HM.out.rd (tensB HT.out H.out.lo)).mono ?_); rintro e wd ⟨t, z', l', n, rfl, hl', ho, hb, hp⟩; have HL' := Aside0.mk hl'; have HO := Aside0.mk ho; have HP' := Aside0.mk hp; have HE := Aside0.mk (blk_lt (H.out.get 1 rfl)); replace H := Aside0.mk (H.out.below hb); replace HM := Aside0.mk (HM.out.below hb); clear hl' ho hb hp)
        | ((with_reducible refine gate_dst (N := 12) rfl ?_); refine bxV1 12 48 Ln.zero.cells H run_alloc48 ?_; clear H; intro b12 w12 hw H; have HN := Aside0.mk (fun a (e : z.A = some a) => Nat.ne_of_lt (Nat.lt_of_lt_of_le (HM.out.lt a e) hw.out.1)); have HN' := Aside0.mk (fun a (e : z'.A = some a) => Nat.ne_of_lt (Nat.lt_of_lt_of_le (HO.out.lt a e) hw.out.1)); replace HM := Aside0.mk (HM.out.below hw.out.2); replace HO := Aside0.mk ((HO.out.mk' HE.out).low.below hw.out.2); clear hw)
        | (refine bxP1 48 12 49 3 H ?_; clear H; intro w13 hw H; replace HM := Aside0.mk (HM.out.far hw.out HN.out); replace HO := Aside0.mk (HO.out.far hw.out HN'.out); clear hw HN HN' HE)
        | fail)
      by_cases h0 : n = 0
      rotate_left
      · have c2 : (n != 0) = true := bne_iff_ne.mpr h0
        clear h0
        go_wp2
        go_roundg k1
        case rel => exact ⟨i + 1, s, z, l, congrArg (Value.int .i64) (by rw [w64_ (x := (i : Int) + 1) (by have := HI.out; have := HR.out; omega)]; rfl), rfl, ⟨by have := HI.out; omega⟩, ⟨by have := HL.out; omega⟩, HV, HP, HS, HM, ⟨Bx.head (L := [_, _]) H.out⟩⟩
        case measure => omega
      subst h0
      have HQ := Aside0.mk (HP'.out rfl).2
      clear HD HM
      have hB := bytes_ (w := t.win) (s := seg) (by have := HQ.out.win; omega) HQ.out.win.2 HK.out.1 HK.out.2.1
      have HB := Aside0.mk hB.1
      clear hB
      have q1 := HQ.out.snt
      have q2 := HQ.out.tld
      have q3 := HQ.out.out
      have q4 := HQ.out.pos
      have q5 := HQ.out.inv.st
      have q6 := HP.out
      have q7 := HV.out.st
      obtain ⟨L1, u1, u2⟩ : ∃ L1 : Int, (k = 2 → wrap64 (s.sent - s.told - s.out + b) = L1) ∧ (k ≠ 2 → s.sent - s.told - s.out = L1) := by
        by_cases q : k = 2
        · exact ⟨_, fun _ => rfl, fun p => absurd q p⟩
        · exact ⟨_, fun p => absurd p q, fun _ => rfl⟩
      obtain ⟨L2, u3, u4⟩ : ∃ L2 : Int, (k = 4 → wrap64 (L1 + s.out) = L2) ∧ (k ≠ 4 → L1 = L2) := by
        by_cases q : k = 4
        · exact ⟨_, fun _ => rfl, fun p => absurd q p⟩
        · exact ⟨_, fun p => absurd p q, fun _ => rfl⟩
      have HW := Aside0.mk (show L2 = t.sent - t.told - t.out by
        by_cases k2 : k = 2
        · subst k2
          rw [← u4 (by omega), ← u1 rfl]
          simp at q1 q2 q3
          rw [w64_ (by omega)]; omega
        have := u2 k2
        by_cases k4 : k = 4
        · subst k4
          rw [← u3 rfl, ← this]
          simp at q1 q2 q3
          rw [w64_ (by omega)]; omega
        rw [← u4 k4, ← this]
        (repeat' split at q1) <;> (repeat' split at q2) <;> (repeat' split at q3) <;> omega)
      have U1 := Aside0.mk u1
      have U2 := Aside0.mk u2
      have U3 := Aside0.mk u3
      have U4 := Aside0.mk u4
      clear u1 u2 u3 u4 q1 q2 q3 q6 q7
      go_upto_if 55 with (first | (refine bxL (v := .int .i64 k) 53 54 2 0 l3 H ?_) | fail)
      go_cut [8] (fun v8 wc => v8 = .int .i64 L1 ∧ Aside0 (Bx w [(b2, .cells #[.int .i64 seg, .int .i64 mx, .int .i64 fst, .int .i64 grain, .int .i64 least, .int .i64 great, .int .i64 burst] 33 (0, 0)), (b6, .cells (s.at z).cells 48 (0, 0)), (b10, .cells #[.int .i64 k, .int .i64 a, .int .i64 b, .int .i64 r] 52 (0, 0)), (b12, .cells (t.at z').cells 48 (0, 0))] wc) ∧ Aside0 (Mk b6 0 wc z' l'))
      case first =>
        by_cases k2 : k = 2
        · have c2 : (k == 2) = true := beq_iff_eq.mpr k2
          go_wp2_with (first | (refine bxL (v := .int .i64 b) 57 58 2 2 l3 H ?_) | fail)
          go_meet
          exact ⟨congrArg (Value.int .i64) (U1.out k2), H, HO⟩
        · have c2 : (k == 2) = false := beq_eq_false_iff_ne.mpr k2
          go_wp2
          go_meet
          exact ⟨congrArg (Value.int .i64) (U2.out k2), H, HO⟩
      case rest =>
        clear H HO
        obtain ⟨rfl, H, HO⟩ := hcut
        go_upto_if 62 with (first | (refine bxL (v := .int .i64 k) 60 61 2 0 l3 H ?_) | fail)
        go_cut [8] (fun v8 wc => v8 = .int .i64 L2 ∧ Aside0 (Bx w [(b2, .cells #[.int .i64 seg, .int .i64 mx, .int .i64 fst, .int .i64 grain, .int .i64 least, .int .i64 great, .int .i64 burst] 33 (0, 0)), (b6, .cells (s.at z).cells 48 (0, 0)), (b10, .cells #[.int .i64 k, .int .i64 a, .int .i64 b, .int .i64 r] 52 (0, 0)), (b12, .cells (t.at z').cells 48 (0, 0))] wc) ∧ Aside0 (Mk b6 0 wc z' l'))
        case first =>
          by_cases k4 : k = 4
          · have c4 : (k == 4) = true := beq_iff_eq.mpr k4
            go_wp2_with (first | (refine bxL (v := .int .i64 s.out) 65 66 1 14 l3 H ?_) | fail)
            go_meet
            exact ⟨congrArg (Value.int .i64) (U3.out k4), H, HO⟩
          · have c4 : (k == 4) = false := beq_eq_false_iff_ne.mpr k4
            go_wp2
            go_meet
            exact ⟨congrArg (Value.int .i64) (U4.out k4), H, HO⟩
        case rest =>
          clear H HO U1 U2 U3 U4
          obtain ⟨rfl, H, HO⟩ := hcut
          go_upto_region 20 with (first
            | (refine bxL (v := .int .i64 t.win) 69 70 3 9 l3 H ?_)
            | (refine bxL (v := .int .i64 seg) 71 72 0 0 l3 H ?_)
            | (go_at_call 14; (with_reducible refine (frac_BytesS.calls t.win seg (t.win * seg / 65536) 0 _ HB.out).mono ?_); rintro e we ⟨rfl, hb⟩; replace H := Aside0.mk (H.out.below hb); replace HO := Aside0.mk (HO.out.below hb); clear hb)
            | fail)
          obtain ⟨room, hroom⟩ : ∃ x, t.win * seg / 65536 = x := ⟨_, rfl⟩
          rw [hroom]
          have e1 : wrap64 (wrap64 (t.told + L2) + t.out) = t.sent := by
            rw [HW.out, w64_ (x := t.told + (t.sent - t.told - t.out)) (by omega), w64_ (by omega)]; omega
          have c9 : (t.sent != wrap64 (wrap64 (t.told + L2) + t.out)) = false := bne_eq_false_iff_eq.mpr e1.symm
          go_cut [104] (fun v104 wc => v104 = .bool false ∧ Aside0 (Bx w [(b2, .cells #[.int .i64 seg, .int .i64 mx, .int .i64 fst, .int .i64 grain, .int .i64 least, .int .i64 great, .int .i64 burst] 33 (0, 0)), (b6, .cells (s.at z).cells 48 (0, 0)), (b10, .cells #[.int .i64 k, .int .i64 a, .int .i64 b, .int .i64 r] 52 (0, 0)), (b12, .cells (t.at z').cells 48 (0, 0))] wc) ∧ Aside0 (Mk b6 0 wc z' l'))
          case first =>
            by_cases k6 : k = 6
            · have c6 : (k == 6) = true := beq_iff_eq.mpr k6
              have c8 : decide (room < t.out) = false := decide_eq_false (by have := HQ.out.room k6; rw [HQ.out.seg, HS.out, hroom] at this; omega)
              clear q4 q5 e1 k6 hroom
              go_wp2_with (first
                | (refine bxL (v := .int .i64 k) 79 80 2 0 l3 H ?_)
                | (refine bxL (v := .int .i64 t.out) 84 85 3 14 l3 H ?_)
                | (refine bxL (v := .int .i64 t.sent) 92 93 3 12 l3 H ?_)
                | (refine bxL (v := .int .i64 t.told) 95 96 3 13 l3 H ?_)
                | (refine bxL (v := .int .i64 t.out) 100 101 3 14 l3 H ?_)
                | fail)
              go_meet
              exact ⟨rfl, H, HO⟩
            · have c6 : (k == 6) = false := beq_eq_false_iff_ne.mpr k6
              clear q4 q5 e1 k6 hroom
              go_wp2_with (first
                | (refine bxL (v := .int .i64 k) 79 80 2 0 l3 H ?_)
                | (refine bxL (v := .int .i64 t.sent) 92 93 3 12 l3 H ?_)
                | (refine bxL (v := .int .i64 t.told) 95 96 3 13 l3 H ?_)
                | (refine bxL (v := .int .i64 t.out) 100 101 3 14 l3 H ?_)
                | fail)
              go_meet
              exact ⟨rfl, H, HO⟩
          case rest =>
            clear H HO c9 q4 q5 e1 hroom
            obtain ⟨rfl, H, HO⟩ := hcut
            go_wp2_with (first
              | (refine bxR 48 12 105 3 Tryz.underlying48 H ?_)
              | (refine bxP1 48 6 105 1 H ?_; clear H; intro w14 hw H; replace HO := Aside0.mk (HO.out.wr hw.out); clear hw)
              | fail)
            go_roundg k1
            case rel => exact ⟨i + 1, t, z', l', congrArg (Value.int .i64) (by rw [w64_ (x := (i : Int) + 1) (by have := HI.out; have := HR.out; omega)]; rfl), congrArg (Value.int .i64) HW.out, ⟨by have := HI.out; omega⟩, ⟨by have := HL.out; have := HL'.out; omega⟩, ⟨HQ.out.inv⟩, ⟨HQ.out.pos⟩, ⟨HQ.out.seg.trans HS.out⟩, HO, ⟨Bx.head (L := [_, _]) H.out⟩⟩
            case measure => omega
end
end Go.Proofs.YtfahbgkoldoflaaGreatDoor.Px
