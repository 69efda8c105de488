/- The engine, by hand: part C. Conditions: none beside the theorems' own. -/
import Derived.Test.YtfahbgkoldoflaaGreatDoorEngA
import Derived.Test.YtfahbgkoldoflaaGreatDoorPx11
import Derived.Test.YtfahbgkoldoflaaGreatDoorPx12
import Derived.Test.YtfahbgkoldoflaaGreatDoorPx13
import Derived.Test.YtfahbgkoldoflaaGreatDoorPx16
import Derived.Test.YtfahbgkoldoflaaGreatDoorPx17
import Derived.Test.YtfahbgkoldoflaaGreatDoorPx18
import Derived.Test.YtfahbgkoldoflaaGreatDoorPx19
namespace Go.Proofs.YtfahbgkoldoflaaGreatDoor.Px
open Go.RowKit Go.Proofs.YtfahbgkoldoflaaGreatDoorW.PrintWords Go.Proofs.YtfahbgkoldoflaaGreatDoorW.PrintLast Go.Proofs.YtfahbgkoldoflaaGreatDoorW.PrintMore
attribute [local go_sem] max2_int min2_int max_two min_two max_three min_three max_four min_four
set_option linter.unusedVariables false
set_option linter.unusedSimpArgs false
set_option maxRecDepth 100000 in
set_option maxHeartbeats 4000000 in
theorem line_send (g : Nat) (s : Ln) (k k2 : Nat) (ek ea eb er W1 p2 p3 p4 p5 p6 room f1 f2 f3 b1 b2 c1 c2 : Int) (p1 u : Bool) (w : World) (hA0 : At w g s)
    (hO : Aside0 (s.out = 0 → ∃ T, rto_Of.f k s.has s.mean s.far s.seg s.mx s.fst s.grain s.least s.great s.burst s.back = some T ∧ guide_Idle.f s.win s.last ea T s.seg s.mx s.fst s.grain s.least s.great s.burst = some W1 ∧ guide_Pause.f s.eon s.estart s.efirst s.emax s.ek s.eest s.last ea = some (p1, p2, p3, p4, p5, p6))) (hO' : Aside0 (s.out ≠ 0 → s.win = W1 ∧ s.eon = p1 ∧ s.estart = p2 ∧ s.efirst = p3 ∧ s.emax = p4 ∧ s.ek = p5 ∧ s.eest = p6))
    (hR : Aside0 (frac_BytesS.f W1 s.seg = some (room, 0))) (hS : Aside0 (flight_Send.f k2 s.sent s.told s.out eb room = some (f1, f2, f3, c1))) (hB : Aside0 (bucket_TakeS.f s.bat s.bhave eb = some (b1, b2, c2))) (hU : Aside0 (guide_UsedS.f W1 f3 s.seg = some u)) :
    Calls Tryz.prog 38 #[.pointer (some ⟨g, 0, none⟩), .agg #[.int .i64 ek, .int .i64 ea, .int .i64 eb, .int .i64 er]] w fun e w' => Wr g w w' ∧ (c1 = 0 ∧ c2 = 0 ∧ e = .returned (.tuple #[]) ∧ At w' g { s with last := ea, win := W1, sent := f1, told := f2, out := f3, eon := p1, estart := p2, efirst := p3, emax := p4, ek := p5, eest := p6, bat := b1, bhave := b2, lim := !u } ∨ (c1 ≠ 0 ∨ c2 ≠ 0) ∧ ∃ n, n ≠ 0 ∧ e = .panicked (erL n)) := by
  have hA := Aside0.mk hA0
  clear hA0
  go_enter Tryz.func38, Tryz.ntmps38
  go_upto_if 12 with (first | (((with_reducible refine gate_dst (N := 3) rfl ?_); refine box_event ?hg (N := 3) ?hd (cs := #[.int .i64 ek, .int .i64 ea, .int .i64 eb, .int .i64 er]) (t := 52) ?hr ?_; (case hd => rfl); (case hg => rfl); (case hr => first | (go_simp; done) | (go_simp; rfl)); intro be hg wb hbox hb; have H := Aside0.mk (StL.begin hA.out hg hbox hb); clear hA hb hbox hg); have z14 := H.out.z 14 (.int .i64 s.out) rfl) | fail)
  clear z14
  go_cut [0] (fun v0 wc => v0 = .pointer (some ⟨g, 0, none⟩) ∧ Aside0 (StL g (some be) #[.int .i64 ek, .int .i64 ea, .int .i64 eb, .int .i64 er] w { s with win := W1, eon := p1, estart := p2, efirst := p3, emax := p4, ek := p5, eest := p6 } wc))
  case first =>
    by_cases c0 : s.out = 0
    · obtain ⟨T, hT, hI, hP⟩ := hO.out c0
      have c0b : (s.out == 0) = true := beq_iff_eq.mpr c0
      replace hT := Aside0.mk hT; replace hI := Aside0.mk hI; replace hP := Aside0.mk hP; clear c0
      go_upto_region 2 with fail
      clear c0b
      refine rgL #[N,N,N,N,N,N,N,N,N,N,N,N,N,N,N,N,N,N,N,N,N,N,N,N,N] [24] H ?_; clear H; intro _ H
      refine pL 0 (some 13) #[Y,N,N,N,N,N,N,N,N,N,N,N,N,N,N,N,N,N,N,N,N,N,N,N,N] ?_
      refine fL 1 14 15 16 17 18 #[Y,Y,Y,Y,Y,Y,N,N,N,N,N,N,N,N,N,N,N,N,N,N,N,N,N,N,N] 3 (ldI (c := 9) (n := s.win)) H ?_
      refine fL 6 19 20 21 22 23 #[Y,Y,Y,Y,Y,Y,Y,Y,Y,Y,Y,N,N,N,N,N,N,N,N,N,N,N,N,N,N] 2 (ldI (c := 8) (n := s.last)) H ?_
      refine eL 11 24 25 #[Y,Y,Y,Y,Y,Y,Y,Y,Y,Y,Y,Y,Y,N,N,N,N,N,N,N,N,N,N,N,N] (ldE (c := 1) (n := ea)) H ?_
      refine pL 13 (some 26) #[Y,Y,Y,Y,Y,Y,Y,Y,Y,Y,Y,Y,Y,Y,N,N,N,N,N,N,N,N,N,N,N] ?_
      refine fL 15 28 29 30 31 32 #[Y,Y,Y,Y,Y,Y,Y,Y,Y,Y,Y,Y,Y,Y,N,Y,Y,Y,Y,Y,N,N,N,N,N] 0 (ldConfig _) H ?_
      refine cL 14 (some 27) #[Y,Y,Y,Y,Y,Y,Y,Y,Y,Y,Y,Y,Y,Y,Y,Y,Y,Y,Y,Y,N,N,N,N,N] Tryz.func46 H (lr_timeout g s k T hT _ H.out.row) ?_; clear H; intro _ H
      refine cL 20 (some 33) #[Y,Y,Y,Y,Y,Y,Y,Y,Y,Y,Y,Y,Y,Y,Y,Y,Y,Y,Y,Y,Y,N,N,N,N] Tryz.func77 H (guide_Idle.calls s.win s.last ea T s.seg s.mx s.fst s.grain s.least s.great s.burst W1 _ hI.out) ?_; clear H; intro _ H
      refine nL 21 34 35 36 #[Y,Y,Y,Y,Y,Y,Y,Y,Y,Y,Y,Y,Y,Y,Y,Y,Y,Y,Y,Y,Y,Y,Y,Y,N] 3 9 ?_
      refine sL (s' := { s with win := W1 }) 24 #[Y,Y,Y,Y,Y,Y,Y,Y,Y,Y,Y,Y,Y,Y,Y,Y,Y,Y,Y,Y,Y,Y,Y,Y,Y] (sdI (c := 9) (n := W1)) H ?_; clear H; intro _ H
      refine done_ (by kernel_rfl) ?_
      go_upto_region 3 with fail
      refine rgL #[N,N,N,N,N,N,N,N,N,N,N,N,N,N,N,N,N,N] [17] H ?_; clear H; intro _ H
      refine pL 0 (some 37) #[Y,N,N,N,N,N,N,N,N,N,N,N,N,N,N,N,N,N] ?_
      refine fL 1 38 39 40 41 42 #[Y,Y,Y,Y,Y,Y,N,N,N,N,N,N,N,N,N,N,N,N] 11 (ldEpoch _) H ?_
      refine fL 6 43 44 45 46 47 #[Y,Y,Y,Y,Y,Y,Y,Y,Y,Y,Y,N,N,N,N,N,N,N] 2 (ldI (c := 8) (n := s.last)) H ?_
      refine eL 11 48 49 #[Y,Y,Y,Y,Y,Y,Y,Y,Y,Y,Y,Y,Y,N,N,N,N,N] (ldE (c := 1) (n := ea)) H ?_
      refine cL 13 (some 50) #[Y,Y,Y,Y,Y,Y,Y,Y,Y,Y,Y,Y,Y,Y,N,N,N,N] Tryz.func78 H (guide_Pause.calls s.eon s.estart s.efirst s.emax s.ek s.eest s.last ea p1 p2 p3 p4 p5 p6 _ hP.out) ?_; clear H; intro _ H
      refine nL 14 51 52 53 #[Y,Y,Y,Y,Y,Y,Y,Y,Y,Y,Y,Y,Y,Y,Y,Y,Y,N] 11 28 ?_
      refine sL (s' := { s with win := W1, eon := p1, estart := p2, efirst := p3, emax := p4, ek := p5, eest := p6 }) 17 #[Y,Y,Y,Y,Y,Y,Y,Y,Y,Y,Y,Y,Y,Y,Y,Y,Y,Y] (sdEpoch _ p1 p2 p3 p4 p5 p6) H ?_; clear H; intro _ H
      refine done_ (by kernel_rfl) ?_
      go_wp2
      go_meet
      exact ⟨rfl, H⟩
    · obtain ⟨rfl, rfl, rfl, rfl, rfl, rfl, rfl⟩ := hO'.out c0
      have c0b : (s.out == 0) = false := beq_eq_false_iff_ne.mpr c0
      clear c0
      go_wp2
      go_meet
      exact ⟨rfl, H⟩
  case rest =>
    obtain ⟨rfl, H⟩ := hcut
    go_upto_region 4 with fail
    refine rgL #[N,N,N,N,N,N,N,N,N,N,N,N,N,N,N,N,N] [] H ?_; clear H; intro _ H
    refine fL 0 55 56 57 58 59 #[Y,Y,Y,Y,Y,N,N,N,N,N,N,N,N,N,N,N,N] 3 (ldI (c := 9) (n := W1)) H ?_
    refine fM 5 60 61 62 63 64 65 #[Y,Y,Y,Y,Y,Y,Y,Y,Y,Y,Y,N,N,N,N,N,N] 0 0 33 0 (ldI (c := 0) (n := s.seg)) H ?_
    refine cL 11 (some 66) #[Y,Y,Y,Y,Y,Y,Y,Y,Y,Y,Y,Y,N,N,N,N,N] Tryz.func14 H (frac_BytesS.calls W1 s.seg room 0 _ hR.out) ?_; clear H; intro _ H
    refine pL 12 (some 54) #[Y,Y,Y,Y,Y,Y,Y,Y,Y,Y,Y,Y,Y,N,N,N,N] ?_
    refine pL 13 (some 67) #[Y,Y,Y,Y,Y,Y,Y,Y,Y,Y,Y,Y,Y,Y,N,N,N] ?_
    refine pL 14 (some 68) #[Y,Y,Y,Y,Y,Y,Y,Y,Y,Y,Y,Y,Y,Y,Y,N,N] ?_
    refine pL 15 (some 4) #[Y,Y,Y,Y,Y,Y,Y,Y,Y,Y,Y,Y,Y,Y,Y,Y,N] ?_
    refine pL 16 (some 5) #[Y,Y,Y,Y,Y,Y,Y,Y,Y,Y,Y,Y,Y,Y,Y,Y,Y] ?_
    refine done_ (by kernel_rfl) ?_
    go_upto_region 6 with (first | (go_at_call 31; refine (must_w 0 _).mono ?_; rintro e wm ⟨rfl, ⟨_, rfl⟩ | ⟨h0, _⟩⟩; rotate_left; exact absurd rfl h0) | fail)
    refine rgL #[N,N,N,N,N,N,N,N,N,N,N,N,N,N,N,N,N] [16] H ?_; clear H; intro _ H
    refine pL 0 (some 71) #[Y,N,N,N,N,N,N,N,N,N,N,N,N,N,N,N,N] ?_
    refine fL 1 72 73 74 75 76 #[Y,Y,Y,Y,Y,Y,N,N,N,N,N,N,N,N,N,N,N] 6 (ldFlight _) H ?_
    refine eL 6 77 78 #[Y,Y,Y,Y,Y,Y,Y,Y,N,N,N,N,N,N,N,N,N] (ldE (c := 2) (n := eb)) H ?_
    refine pL 8 (some 79) #[Y,Y,Y,Y,Y,Y,Y,Y,Y,N,N,N,N,N,N,N,N] ?_
    refine cL 9 (some 80) #[Y,Y,Y,Y,Y,Y,Y,Y,Y,Y,N,N,N,N,N,N,N] Tryz.func80 H (flight_Send.calls k2 s.sent s.told s.out eb room f1 f2 f3 c1 _ hS.out) ?_; clear H; intro _ H
    refine pL 10 (some 81) #[Y,Y,Y,Y,Y,Y,Y,Y,Y,Y,Y,N,N,N,N,N,N] ?_
    refine pL 11 (some 82) #[Y,Y,Y,Y,Y,Y,Y,Y,Y,Y,Y,Y,N,N,N,N,N] ?_
    refine gL 12 (some 83) #[Y,Y,Y,Y,Y,Y,Y,Y,Y,Y,Y,Y,Y,N,N,N,N] Tryz.func79 H (got_flight f1 f2 f3 c1 _) (fun h W S => ⟨rfl, S.wr, .inr ⟨.inl h, _, h, rfl⟩⟩) ?_; clear H; intro h0 _ H; have K1 := Aside0.mk h0; clear h0
    refine nL 13 84 85 86 #[Y,Y,Y,Y,Y,Y,Y,Y,Y,Y,Y,Y,Y,Y,Y,Y,N] 6 12 ?_
    refine sL (s' := { s with win := W1, sent := f1, told := f2, out := f3, eon := p1, estart := p2, efirst := p3, emax := p4, ek := p5, eest := p6 }) 16 #[Y,Y,Y,Y,Y,Y,Y,Y,Y,Y,Y,Y,Y,Y,Y,Y,Y] (sdFlight _ f1 f2 f3) H ?_; clear H; intro _ H
    refine done_ (by kernel_rfl) ?_
    go_upto_region 7 with fail
    refine rgL #[N,N,N,N,N,N,N,N,N,N,N,N,N,N,N,N] [15] H ?_; clear H; intro _ H
    refine pL 0 (some 87) #[Y,N,N,N,N,N,N,N,N,N,N,N,N,N,N,N] ?_
    refine fL 1 88 89 90 91 92 #[Y,Y,Y,Y,Y,Y,N,N,N,N,N,N,N,N,N,N] 14 (ldBucket _) H ?_
    refine eL 6 93 94 #[Y,Y,Y,Y,Y,Y,Y,Y,N,N,N,N,N,N,N,N] (ldE (c := 2) (n := eb)) H ?_
    refine cL 8 (some 95) #[Y,Y,Y,Y,Y,Y,Y,Y,Y,N,N,N,N,N,N,N] Tryz.func81 H (bucket_TakeS.calls s.bat s.bhave eb b1 b2 c2 _ hB.out) ?_; clear H; intro _ H
    refine pL 9 (some 96) #[Y,Y,Y,Y,Y,Y,Y,Y,Y,Y,N,N,N,N,N,N] ?_
    refine pL 10 (some 97) #[Y,Y,Y,Y,Y,Y,Y,Y,Y,Y,Y,N,N,N,N,N] ?_
    refine gL 11 (some 98) #[Y,Y,Y,Y,Y,Y,Y,Y,Y,Y,Y,Y,N,N,N,N] Tryz.func34 H (got_bucket b1 b2 c2 _) (fun h W S => ⟨rfl, S.wr, .inr ⟨.inr h, _, h, rfl⟩⟩) ?_; clear H; intro h0 _ H; have K2 := Aside0.mk h0; clear h0
    refine nL 12 99 100 101 #[Y,Y,Y,Y,Y,Y,Y,Y,Y,Y,Y,Y,Y,Y,Y,N] 14 36 ?_
    refine sL (s' := { s with win := W1, sent := f1, told := f2, out := f3, eon := p1, estart := p2, efirst := p3, emax := p4, ek := p5, eest := p6, bat := b1, bhave := b2 }) 15 #[Y,Y,Y,Y,Y,Y,Y,Y,Y,Y,Y,Y,Y,Y,Y,Y] (sdBucket _ b1 b2) H ?_; clear H; intro _ H
    refine done_ (by kernel_rfl) ?_
    go_upto_region 8 with fail
    refine rgL #[N,N,N,N,N,N,N,N,N,N,N,N,N,N,N,N,N,N,N,N,N,N,N,N,N,N,N,N,N,N,N] [26, 30] H ?_; clear H; intro _ H
    refine pL 0 (some 102) #[Y,N,N,N,N,N,N,N,N,N,N,N,N,N,N,N,N,N,N,N,N,N,N,N,N,N,N,N,N,N,N] ?_
    refine pL 1 (some 103) #[Y,Y,N,N,N,N,N,N,N,N,N,N,N,N,N,N,N,N,N,N,N,N,N,N,N,N,N,N,N,N,N] ?_
    refine eL 2 104 105 #[Y,Y,Y,Y,N,N,N,N,N,N,N,N,N,N,N,N,N,N,N,N,N,N,N,N,N,N,N,N,N,N,N] (ldE (c := 1) (n := ea)) H ?_
    refine fL 4 106 107 108 109 110 #[Y,Y,Y,Y,Y,Y,Y,Y,Y,N,N,N,N,N,N,N,N,N,N,N,N,N,N,N,N,N,N,N,N,N,N] 3 (ldI (c := 9) (n := W1)) H ?_
    refine fM 9 111 112 113 114 115 116 #[Y,Y,Y,Y,Y,Y,Y,Y,Y,Y,Y,Y,Y,Y,Y,N,N,N,N,N,N,N,N,N,N,N,N,N,N,N,N] 6 12 37 2 (ldI (c := 14) (n := f3)) H ?_
    refine fM 15 117 118 119 120 121 122 #[Y,Y,Y,Y,Y,Y,Y,Y,Y,Y,Y,Y,Y,Y,Y,Y,Y,Y,Y,Y,Y,N,N,N,N,N,N,N,N,N,N] 0 0 33 0 (ldI (c := 0) (n := s.seg)) H ?_
    refine cL 21 (some 123) #[Y,Y,Y,Y,Y,Y,Y,Y,Y,Y,Y,Y,Y,Y,Y,Y,Y,Y,Y,Y,Y,Y,N,N,N,N,N,N,N,N,N] Tryz.func82 H (guide_UsedS.calls W1 f3 s.seg u _ hU.out) ?_; clear H; intro _ H
    refine pL 22 (some 124) #[Y,Y,Y,Y,Y,Y,Y,Y,Y,Y,Y,Y,Y,Y,Y,Y,Y,Y,Y,Y,Y,Y,Y,N,N,N,N,N,N,N,N] ?_
    refine nL 23 125 126 127 #[Y,Y,Y,Y,Y,Y,Y,Y,Y,Y,Y,Y,Y,Y,Y,Y,Y,Y,Y,Y,Y,Y,Y,Y,Y,Y,N,N,N,N,N] 2 8 ?_
    refine sL (s' := { s with last := ea, win := W1, sent := f1, told := f2, out := f3, eon := p1, estart := p2, efirst := p3, emax := p4, ek := p5, eest := p6, bat := b1, bhave := b2 }) 26 #[Y,Y,Y,Y,Y,Y,Y,Y,Y,Y,Y,Y,Y,Y,Y,Y,Y,Y,Y,Y,Y,Y,Y,Y,Y,Y,Y,N,N,N,N] (sdI (c := 8) (n := ea)) H ?_; clear H; intro _ H
    refine nL 27 128 129 130 #[Y,Y,Y,Y,Y,Y,Y,Y,Y,Y,Y,Y,Y,Y,Y,Y,Y,Y,Y,Y,Y,Y,Y,Y,Y,Y,Y,Y,Y,Y,N] 15 38 ?_
    refine sL (s' := { s with last := ea, win := W1, sent := f1, told := f2, out := f3, eon := p1, estart := p2, efirst := p3, emax := p4, ek := p5, eest := p6, bat := b1, bhave := b2, lim := !u }) 30 #[Y,Y,Y,Y,Y,Y,Y,Y,Y,Y,Y,Y,Y,Y,Y,Y,Y,Y,Y,Y,Y,Y,Y,Y,Y,Y,Y,Y,Y,Y,Y] (sdB (c := 38) (n := !u)) H ?_; clear H; intro _ H
    refine done_ (by kernel_rfl) ?_
    go_wp2
    go_end0
    exact ⟨H.out.wr, .inl ⟨K1.out, K2.out, rfl, H.out.row⟩⟩
/-- What less is: a connection whose window is cut, if it does not recover. -/
noncomputable def cutL (s : Ln) (W1 H1 : Int) : Ln := if wrap64 (s.sent - s.out) < s.recov then s else { s with win := W1, thresh := W1, high := H1, recov := s.sent, eon := false, estart := 0, efirst := 0, emax := 0, ek := 0, eest := 0, hlast := 0, hleast := 0, hmany := 0, hgentle := false, hdone := true, hbase := 0, hrounds := 0 }

set_option maxRecDepth 100000 in
set_option maxHeartbeats 2000000 in
theorem line_cut (g : Nat) (s : Ln) (W1 H1 : Int) (hC : Aside0 (cut_LossS.f s.win s.high = some (W1, H1))) (w : World) (hA0 : At w g s) :
    Calls Tryz.prog 95 #[.pointer (some ⟨g, 0, none⟩)] w fun e w' => Wr g w w' ∧ e = .returned (.tuple #[]) ∧ At w' g (cutL s W1 H1) := by
  have H := Aside0.mk (StL.start hA0)
  clear hA0
  by_cases c0 : wrap64 (s.sent - s.out) < s.recov
  · have c0b : decide (wrap64 (s.sent - s.out) < s.recov) = true := decide_eq_true c0
    rw [show cutL s W1 H1 = s from if_pos c0]
    clear c0
    go_enter Tryz.func95, Tryz.ntmps95
    go_wp2_with (first | (go_at_call 89; (with_reducible refine (lr_recovers g s _ H.out.row).mono ?_); rintro e wr ⟨rfl, hb⟩; rw [c0b]; replace H := Aside0.mk (H.out.below hb); clear hb) | fail)
    refine bodyPost_ret (results_none rfl _ _ _) rfl ⟨H.out.wr, rfl, H.out.row⟩
  · have c0b : decide (wrap64 (s.sent - s.out) < s.recov) = false := decide_eq_false c0
    rw [show cutL s W1 H1 = { s with win := W1, thresh := W1, high := H1, recov := s.sent, eon := false, estart := 0, efirst := 0, emax := 0, ek := 0, eest := 0, hlast := 0, hleast := 0, hmany := 0, hgentle := false, hdone := true, hbase := 0, hrounds := 0 } from if_neg c0]
    clear c0
    go_enter Tryz.func95, Tryz.ntmps95
    go_upto_region 1 with (first | (go_at_call 89; (with_reducible refine (lr_recovers g s _ H.out.row).mono ?_); rintro e wr ⟨rfl, hb⟩; rw [c0b]; replace H := Aside0.mk (H.out.below hb); clear hb) | fail)
    refine rgL #[N,N,N,N,N,N,N,N,N,N,N,N,N,N,N,N,N,N,N,N,N,N,N,N] [19, 23] H ?_; clear H; intro _ H
    refine pL 0 (some 5) #[Y,N,N,N,N,N,N,N,N,N,N,N,N,N,N,N,N,N,N,N,N,N,N,N] ?_
    refine pL 1 (some 6) #[Y,Y,N,N,N,N,N,N,N,N,N,N,N,N,N,N,N,N,N,N,N,N,N,N] ?_
    refine fL 2 7 8 9 10 11 #[Y,Y,Y,Y,Y,Y,Y,N,N,N,N,N,N,N,N,N,N,N,N,N,N,N,N,N] 3 (ldI (c := 9) (n := s.win)) H ?_
    refine fL 7 12 13 14 15 16 #[Y,Y,Y,Y,Y,Y,Y,Y,Y,Y,Y,Y,N,N,N,N,N,N,N,N,N,N,N,N] 5 (ldI (c := 11) (n := s.high)) H ?_
    refine cL 12 (some 17) #[Y,Y,Y,Y,Y,Y,Y,Y,Y,Y,Y,Y,Y,N,N,N,N,N,N,N,N,N,N,N] Tryz.func143 H (cut_LossS.calls s.win s.high W1 H1 _ hC.out) ?_; clear H; intro _ H
    refine pL 13 (some 4) #[Y,Y,Y,Y,Y,Y,Y,Y,Y,Y,Y,Y,Y,Y,N,N,N,N,N,N,N,N,N,N] ?_
    refine pL 14 (some 18) #[Y,Y,Y,Y,Y,Y,Y,Y,Y,Y,Y,Y,Y,Y,Y,N,N,N,N,N,N,N,N,N] ?_
    refine pL 15 (some 19) #[Y,Y,Y,Y,Y,Y,Y,Y,Y,Y,Y,Y,Y,Y,Y,Y,N,N,N,N,N,N,N,N] ?_
    refine nL 16 20 21 22 #[Y,Y,Y,Y,Y,Y,Y,Y,Y,Y,Y,Y,Y,Y,Y,Y,Y,Y,Y,N,N,N,N,N] 3 9 ?_
    refine sL (s' := { s with win := W1 }) 19 #[Y,Y,Y,Y,Y,Y,Y,Y,Y,Y,Y,Y,Y,Y,Y,Y,Y,Y,Y,Y,N,N,N,N] (sdI (c := 9) (n := W1)) H ?_; clear H; intro _ H
    refine nL 20 23 24 25 #[Y,Y,Y,Y,Y,Y,Y,Y,Y,Y,Y,Y,Y,Y,Y,Y,Y,Y,Y,Y,Y,Y,Y,N] 5 11 ?_
    refine sL (s' := { s with win := W1, high := H1 }) 23 #[Y,Y,Y,Y,Y,Y,Y,Y,Y,Y,Y,Y,Y,Y,Y,Y,Y,Y,Y,Y,Y,Y,Y,Y] (sdI (c := 11) (n := H1)) H ?_; clear H; intro _ H
    refine done_ (by kernel_rfl) ?_
    go_upto_region 2 with fail
    refine rgL #[N,N,N,N,N,N,N,N,N,N,N,N,N,N,N,N,N,N,N,N,N] [16, 20] H ?_; clear H; intro _ H
    refine pL 0 (some 26) #[Y,N,N,N,N,N,N,N,N,N,N,N,N,N,N,N,N,N,N,N,N] ?_
    refine pL 1 (some 27) #[Y,Y,N,N,N,N,N,N,N,N,N,N,N,N,N,N,N,N,N,N,N] ?_
    refine fL 2 28 29 30 31 32 #[Y,Y,Y,Y,Y,Y,Y,N,N,N,N,N,N,N,N,N,N,N,N,N,N] 3 (ldI (c := 9) (n := W1)) H ?_
    refine fM 7 33 34 35 36 37 38 #[Y,Y,Y,Y,Y,Y,Y,Y,Y,Y,Y,Y,Y,N,N,N,N,N,N,N,N] 6 12 37 0 (ldI (c := 12) (n := s.sent)) H ?_
    refine nL 13 39 40 41 #[Y,Y,Y,Y,Y,Y,Y,Y,Y,Y,Y,Y,Y,Y,Y,Y,N,N,N,N,N] 4 10 ?_
    refine sL (s' := { s with win := W1, thresh := W1, high := H1 }) 16 #[Y,Y,Y,Y,Y,Y,Y,Y,Y,Y,Y,Y,Y,Y,Y,Y,Y,N,N,N,N] (sdI (c := 10) (n := W1)) H ?_; clear H; intro _ H
    refine nL 17 42 43 44 #[Y,Y,Y,Y,Y,Y,Y,Y,Y,Y,Y,Y,Y,Y,Y,Y,Y,Y,Y,Y,N] 12 34 ?_
    refine sL (s' := { s with win := W1, thresh := W1, high := H1, recov := s.sent }) 20 #[Y,Y,Y,Y,Y,Y,Y,Y,Y,Y,Y,Y,Y,Y,Y,Y,Y,Y,Y,Y,Y] (sdI (c := 34) (n := s.sent)) H ?_; clear H; intro _ H
    refine done_ (by kernel_rfl) ?_
    have b25 : ∀ W : World, (Instr.build 25 #[]).run Tryz.prog W = .ok (.agg #[.bool false, .int .i64 0, .int .i64 0, .int .i64 0, .int .i64 0, .int .i64 0]) W := fun W => by kernel_rfl
    have b44 : ∀ W : World, (Instr.build 44 #[(4, .bool true)]).run Tryz.prog W = .ok (.agg #[.int .i64 0, .int .i64 0, .int .i64 0, .bool false, .bool true, .int .i64 0, .int .i64 0]) W := fun W => by kernel_rfl
    go_wp2_with (first | (refine stW 25 51 (.tmp 47) (sdEpoch _ false 0 0 0 0 0) H ?_; clear H; intro _ H) | (refine stW 44 54 (.tmp 48) (sdHystart _ 0 0 0 false true 0 0) H ?_; clear H; intro _ H) | fail)
    go_end0
    exact ⟨H.out.wr, rfl, H.out.row⟩

set_option maxRecDepth 100000 in
set_option maxHeartbeats 2000000 in
theorem line_lose (g : Nat) (s : Ln) (k2 : Nat) (ek ea eb er f1 f2 f3 c1 W1 H1 : Int) (hS : Aside0 (flight_Lose.f k2 s.sent s.told s.out eb = some (f1, f2, f3, c1))) (hC : Aside0 (cut_LossS.f s.win s.high = some (W1, H1))) (w : World) (hA0 : At w g s) :
    Calls Tryz.prog 40 #[.pointer (some ⟨g, 0, none⟩), .agg #[.int .i64 ek, .int .i64 ea, .int .i64 eb, .int .i64 er]] w fun e w' => Wr g w w' ∧ (c1 = 0 ∧ e = .returned (.tuple #[]) ∧ At w' g (cutL { s with sent := f1, told := f2, out := f3 } W1 H1) ∨ c1 ≠ 0 ∧ ∃ n, n ≠ 0 ∧ e = .panicked (erL n)) := by
  have hA := Aside0.mk hA0
  clear hA0
  go_enter Tryz.func40, Tryz.ntmps40
  go_upto_region 1 with (first | ((with_reducible refine gate_dst (N := 3) rfl ?_); refine box_event ?hg (N := 3) ?hd (cs := #[.int .i64 ek, .int .i64 ea, .int .i64 eb, .int .i64 er]) (t := 52) ?hr ?_; (case hd => rfl); (case hg => rfl); (case hr => first | (go_simp; done) | (go_simp; rfl)); intro be hg wb hbox hb; have H := Aside0.mk (StL.begin hA.out hg hbox hb); clear hA hb hbox hg) | fail)
  refine rgL #[N,N,N,N,N,N,N,N,N,N,N,N,N,N,N,N] [15] H ?_; clear H; intro _ H
  refine pL 0 (some 4) #[Y,N,N,N,N,N,N,N,N,N,N,N,N,N,N,N] ?_
  refine fL 1 5 6 7 8 9 #[Y,Y,Y,Y,Y,Y,N,N,N,N,N,N,N,N,N,N] 6 (ldFlight _) H ?_
  refine eL 6 10 11 #[Y,Y,Y,Y,Y,Y,Y,Y,N,N,N,N,N,N,N,N] (ldE (c := 2) (n := eb)) H ?_
  refine cL 8 (some 12) #[Y,Y,Y,Y,Y,Y,Y,Y,Y,N,N,N,N,N,N,N] Tryz.func94 H (flight_Lose.calls k2 s.sent s.told s.out eb f1 f2 f3 c1 _ hS.out) ?_; clear H; intro _ H
  refine pL 9 (some 13) #[Y,Y,Y,Y,Y,Y,Y,Y,Y,Y,N,N,N,N,N,N] ?_
  refine pL 10 (some 14) #[Y,Y,Y,Y,Y,Y,Y,Y,Y,Y,Y,N,N,N,N,N] ?_
  refine gL 11 (some 15) #[Y,Y,Y,Y,Y,Y,Y,Y,Y,Y,Y,Y,N,N,N,N] Tryz.func79 H (got_flight f1 f2 f3 c1 _) (fun h W S => ⟨rfl, S.wr, .inr ⟨h, _, h, rfl⟩⟩) ?_; clear H; intro h0 _ H; have K1 := Aside0.mk h0; clear h0
  refine nL 12 16 17 18 #[Y,Y,Y,Y,Y,Y,Y,Y,Y,Y,Y,Y,Y,Y,Y,N] 6 12 ?_
  refine sL (s' := { s with sent := f1, told := f2, out := f3 }) 15 #[Y,Y,Y,Y,Y,Y,Y,Y,Y,Y,Y,Y,Y,Y,Y,Y] (sdFlight _ f1 f2 f3) H ?_; clear H; intro _ H
  refine done_ (by kernel_rfl) ?_
  go_wp2_with (first | (go_at_call 95; (with_reducible refine (line_cut g { s with sent := f1, told := f2, out := f3 } W1 H1 hC _ H.out.row).mono ?_); rintro e wr ⟨hw, rfl, hr⟩; replace H := Aside0.mk (H.out.turn hr hw); clear hw hr) | fail)
  go_end0
  exact ⟨H.out.wr, .inl ⟨K1.out, rfl, H.out.row⟩⟩

set_option maxRecDepth 100000 in
set_option maxHeartbeats 2000000 in
theorem line_ecn (g : Nat) (s : Ln) (ek ea eb er W1 H1 : Int) (hC : Aside0 (cut_LossS.f s.win s.high = some (W1, H1))) (w : World) (hA0 : At w g s) :
    Calls Tryz.prog 41 #[.pointer (some ⟨g, 0, none⟩), .agg #[.int .i64 ek, .int .i64 ea, .int .i64 eb, .int .i64 er]] w fun e w' => Wr g w w' ∧ e = .returned (.tuple #[]) ∧ At w' g (cutL s W1 H1) := by
  have hA := Aside0.mk hA0
  clear hA0
  go_enter Tryz.func41, Tryz.ntmps41
  go_wp2_with (first | ((with_reducible refine gate_dst (N := 3) rfl ?_); refine box_event ?hg (N := 3) ?hd (cs := #[.int .i64 ek, .int .i64 ea, .int .i64 eb, .int .i64 er]) (t := 52) ?hr ?_; (case hd => rfl); (case hg => rfl); (case hr => first | (go_simp; done) | (go_simp; rfl)); intro be hg wb hbox hb; have H := Aside0.mk (StL.begin hA.out hg hbox hb); clear hA hb hbox hg) | (go_at_call 95; (with_reducible refine (line_cut g s W1 H1 hC _ H.out.row).mono ?_); rintro e wr ⟨hw, rfl, hr⟩; replace H := Aside0.mk (H.out.turn hr hw); clear hw hr) | fail)
  go_end0
  exact ⟨H.out.wr, rfl, H.out.row⟩

set_option maxRecDepth 100000 in
set_option maxHeartbeats 2000000 in
theorem line_idle (g : Nat) (s : Ln) (ek ea eb er : Int) (w : World) (hA0 : At w g s) :
    Calls Tryz.prog 43 #[.pointer (some ⟨g, 0, none⟩), .agg #[.int .i64 ek, .int .i64 ea, .int .i64 eb, .int .i64 er]] w fun e w' => Wr g w w' ∧ e = .returned (.tuple #[]) ∧ At w' g { s with lim := true } := by
  have hA := Aside0.mk hA0
  clear hA0
  go_enter Tryz.func43, Tryz.ntmps43
  go_wp2_with (first | ((with_reducible refine gate_dst (N := 3) rfl ?_); refine box_event ?hg (N := 3) ?hd (cs := #[.int .i64 ek, .int .i64 ea, .int .i64 eb, .int .i64 er]) (t := 52) ?hr ?_; (case hd => rfl); (case hg => rfl); (case hr => first | (go_simp; done) | (go_simp; rfl)); intro be hg wb hbox hb; have H := Aside0.mk (StL.begin hA.out hg hbox hb); clear hA hb hbox hg) | (refine stW 4 7 (.const (.bool true)) (sdB (c := 38) (n := true) (s' := { s with lim := true })) H ?_; clear H; intro _ H) | fail)
  go_end0
  exact ⟨H.out.wr, rfl, H.out.row⟩

set_option maxRecDepth 100000 in
set_option maxHeartbeats 2000000 in
theorem line_tick (g : Nat) (s : Ln) (ek ea eb er : Int) (w : World) (hA0 : At w g s) :
    Calls Tryz.prog 44 #[.pointer (some ⟨g, 0, none⟩), .agg #[.int .i64 ek, .int .i64 ea, .int .i64 eb, .int .i64 er]] w fun e w' => Wr g w w' ∧ e = .returned (.tuple #[]) ∧ At w' g s := by
  have hA := Aside0.mk hA0
  clear hA0
  go_enter Tryz.func44, Tryz.ntmps44
  go_wp2_with (first | ((with_reducible refine gate_dst (N := 3) rfl ?_); refine box_event ?hg (N := 3) ?hd (cs := #[.int .i64 ek, .int .i64 ea, .int .i64 eb, .int .i64 er]) (t := 52) ?hr ?_; (case hd => rfl); (case hg => rfl); (case hr => first | (go_simp; done) | (go_simp; rfl)); intro be hg wb hbox hb; have H := Aside0.mk (StL.begin hA.out hg hbox hb); clear hA hb hbox hg) | fail)
  go_end0
  exact ⟨H.out.wr, rfl, H.out.row⟩

set_option maxRecDepth 100000 in
set_option maxHeartbeats 2000000 in
theorem line_late (g : Nat) (s : Ln) (k k2 : Nat) (ek ea eb er B f1 f2 f3 c1 W1 H1 R1 : Int) (hB : Aside0 (rto_Back.f k s.has s.mean s.far s.seg s.mx s.fst s.grain s.least s.great s.burst s.back = some B)) (hC : Aside0 (cut_TimeoutS.f s.win s.high = some (131072, W1, H1))) (hS : Aside0 (flight_Lose.f k2 s.sent s.told s.out s.out = some (f1, f2, f3, c1))) (hR : Aside0 (round_Begin.f f1 = some (0, R1))) (w : World) (hA0 : At w g s) :
    Calls Tryz.prog 42 #[.pointer (some ⟨g, 0, none⟩), .agg #[.int .i64 ek, .int .i64 ea, .int .i64 eb, .int .i64 er]] w fun e w' => Wr g w w' ∧ (s.out ≠ 0 ∧ c1 = 0 ∧ e = .returned (.tuple #[]) ∧ At w' g { s with back := B, win := 131072, thresh := W1, high := H1, sent := f1, told := f2, out := f3, recov := f1, eon := false, estart := 0, efirst := 0, emax := 0, ek := 0, eest := 0, hlast := 0, hleast := 0, hmany := 0, hgentle := false, hdone := false, hbase := 0, hrounds := 0, rid := 0, rend := R1 } ∨ (s.out = 0 ∨ c1 ≠ 0) ∧ ∃ n, n ≠ 0 ∧ e = .panicked (erL n)) := by
  have hA := Aside0.mk hA0
  clear hA0
  by_cases c0 : s.out = 0
  · have c0b : (s.out == 0) = true := beq_iff_eq.mpr c0
    have C0 := Aside0.mk c0
    clear c0
    go_enter Tryz.func42, Tryz.ntmps42
    go_wp2_with (first | ((with_reducible refine gate_dst (N := 3) rfl ?_); refine box_event ?hg (N := 3) ?hd (cs := #[.int .i64 ek, .int .i64 ea, .int .i64 eb, .int .i64 er]) (t := 52) ?hr ?_; (case hd => rfl); (case hg => rfl); (case hr => first | (go_simp; done) | (go_simp; rfl)); intro be hg wb hbox hb; have H := Aside0.mk (StL.begin hA.out hg hbox hb); clear hA hb hbox hg) | (refine ldW 3 8 9 (ldI (c := 14) (n := s.out)) H ?_) | fail)
    exact ⟨rfl, H.out.wr, .inr ⟨.inl C0.out, 202, by decide, rfl⟩⟩
  have c0b : (s.out == 0) = false := beq_eq_false_iff_ne.mpr c0
  have C0 := Aside0.mk c0
  clear c0
  go_enter Tryz.func42, Tryz.ntmps42
  go_upto_region 3 with (first | ((with_reducible refine gate_dst (N := 3) rfl ?_); refine box_event ?hg (N := 3) ?hd (cs := #[.int .i64 ek, .int .i64 ea, .int .i64 eb, .int .i64 er]) (t := 52) ?hr ?_; (case hd => rfl); (case hg => rfl); (case hr => first | (go_simp; done) | (go_simp; rfl)); intro be hg wb hbox hb; have H := Aside0.mk (StL.begin hA.out hg hbox hb); clear hA hb hbox hg) | (refine ldW 3 8 9 (ldI (c := 14) (n := s.out)) H ?_) | fail)
  refine rgL #[N,N,N,N,N,N,N,N,N,N,N,N,N,N,N,N,N,N,N,N,N] [20] H ?_; clear H; intro _ H
  refine pL 0 (some 12) #[Y,N,N,N,N,N,N,N,N,N,N,N,N,N,N,N,N,N,N,N,N] ?_
  refine fL 1 13 14 15 16 17 #[Y,Y,Y,Y,Y,Y,N,N,N,N,N,N,N,N,N,N,N,N,N,N,N] 7 (ldRtt _) H ?_
  refine fL 6 18 19 20 21 22 #[Y,Y,Y,Y,Y,Y,Y,Y,Y,Y,Y,N,N,N,N,N,N,N,N,N,N] 0 (ldConfig _) H ?_
  refine fL 11 23 24 25 26 27 #[Y,Y,Y,Y,Y,Y,Y,Y,Y,Y,Y,Y,Y,Y,Y,Y,N,N,N,N,N] 13 (ldI (c := 35) (n := s.back)) H ?_
  refine cL 16 (some 28) #[Y,Y,Y,Y,Y,Y,Y,Y,Y,Y,Y,Y,Y,Y,Y,Y,Y,N,N,N,N] Tryz.func96 H (rto_Back.calls k s.has s.mean s.far s.seg s.mx s.fst s.grain s.least s.great s.burst s.back B _ hB.out) ?_; clear H; intro _ H
  refine nL 17 29 30 31 #[Y,Y,Y,Y,Y,Y,Y,Y,Y,Y,Y,Y,Y,Y,Y,Y,Y,Y,Y,Y,N] 13 35 ?_
  refine sL (s' := { s with back := B }) 20 #[Y,Y,Y,Y,Y,Y,Y,Y,Y,Y,Y,Y,Y,Y,Y,Y,Y,Y,Y,Y,Y] (sdI (c := 35) (n := B)) H ?_; clear H; intro _ H
  refine done_ (by kernel_rfl) ?_
  go_upto_region 4 with fail
  refine rgL #[N,N,N,N,N,N,N,N,N,N,N,N,N,N,N,N,N,N,N,N,N,N,N,N,N,N,N,N,N,N] [21, 25, 29] H ?_; clear H; intro _ H
  refine pL 0 (some 33) #[Y,N,N,N,N,N,N,N,N,N,N,N,N,N,N,N,N,N,N,N,N,N,N,N,N,N,N,N,N,N] ?_
  refine pL 1 (some 34) #[Y,Y,N,N,N,N,N,N,N,N,N,N,N,N,N,N,N,N,N,N,N,N,N,N,N,N,N,N,N,N] ?_
  refine pL 2 (some 35) #[Y,Y,Y,N,N,N,N,N,N,N,N,N,N,N,N,N,N,N,N,N,N,N,N,N,N,N,N,N,N,N] ?_
  refine fL 3 36 37 38 39 40 #[Y,Y,Y,Y,Y,Y,Y,Y,N,N,N,N,N,N,N,N,N,N,N,N,N,N,N,N,N,N,N,N,N,N] 3 (ldI (c := 9) (n := s.win)) H ?_
  refine fL 8 41 42 43 44 45 #[Y,Y,Y,Y,Y,Y,Y,Y,Y,Y,Y,Y,Y,N,N,N,N,N,N,N,N,N,N,N,N,N,N,N,N,N] 5 (ldI (c := 11) (n := s.high)) H ?_
  refine cL 13 (some 46) #[Y,Y,Y,Y,Y,Y,Y,Y,Y,Y,Y,Y,Y,Y,N,N,N,N,N,N,N,N,N,N,N,N,N,N,N,N] Tryz.func97 H (cut_TimeoutS.calls s.win s.high 131072 W1 H1 _ hC.out) ?_; clear H; intro _ H
  refine pL 14 (some 32) #[Y,Y,Y,Y,Y,Y,Y,Y,Y,Y,Y,Y,Y,Y,Y,N,N,N,N,N,N,N,N,N,N,N,N,N,N,N] ?_
  refine pL 15 (some 47) #[Y,Y,Y,Y,Y,Y,Y,Y,Y,Y,Y,Y,Y,Y,Y,Y,N,N,N,N,N,N,N,N,N,N,N,N,N,N] ?_
  refine pL 16 (some 48) #[Y,Y,Y,Y,Y,Y,Y,Y,Y,Y,Y,Y,Y,Y,Y,Y,Y,N,N,N,N,N,N,N,N,N,N,N,N,N] ?_
  refine pL 17 (some 49) #[Y,Y,Y,Y,Y,Y,Y,Y,Y,Y,Y,Y,Y,Y,Y,Y,Y,Y,N,N,N,N,N,N,N,N,N,N,N,N] ?_
  refine nL 18 50 51 52 #[Y,Y,Y,Y,Y,Y,Y,Y,Y,Y,Y,Y,Y,Y,Y,Y,Y,Y,Y,Y,Y,N,N,N,N,N,N,N,N,N] 3 9 ?_
  refine sL (s' := { s with win := 131072, back := B }) 21 #[Y,Y,Y,Y,Y,Y,Y,Y,Y,Y,Y,Y,Y,Y,Y,Y,Y,Y,Y,Y,Y,Y,N,N,N,N,N,N,N,N] (sdI (c := 9) (n := 131072)) H ?_; clear H; intro _ H
  refine nL 22 53 54 55 #[Y,Y,Y,Y,Y,Y,Y,Y,Y,Y,Y,Y,Y,Y,Y,Y,Y,Y,Y,Y,Y,Y,Y,Y,Y,N,N,N,N,N] 4 10 ?_
  refine sL (s' := { s with win := 131072, thresh := W1, back := B }) 25 #[Y,Y,Y,Y,Y,Y,Y,Y,Y,Y,Y,Y,Y,Y,Y,Y,Y,Y,Y,Y,Y,Y,Y,Y,Y,Y,N,N,N,N] (sdI (c := 10) (n := W1)) H ?_; clear H; intro _ H
  refine nL 26 56 57 58 #[Y,Y,Y,Y,Y,Y,Y,Y,Y,Y,Y,Y,Y,Y,Y,Y,Y,Y,Y,Y,Y,Y,Y,Y,Y,Y,Y,Y,Y,N] 5 11 ?_
  refine sL (s' := { s with win := 131072, thresh := W1, high := H1, back := B }) 29 #[Y,Y,Y,Y,Y,Y,Y,Y,Y,Y,Y,Y,Y,Y,Y,Y,Y,Y,Y,Y,Y,Y,Y,Y,Y,Y,Y,Y,Y,Y] (sdI (c := 11) (n := H1)) H ?_; clear H; intro _ H
  refine done_ (by kernel_rfl) ?_
  go_upto_region 5 with fail
  refine rgL #[N,N,N,N,N,N,N,N,N,N,N,N,N,N,N,N,N,N,N,N] [19] H ?_; clear H; intro _ H
  refine pL 0 (some 59) #[Y,N,N,N,N,N,N,N,N,N,N,N,N,N,N,N,N,N,N,N] ?_
  refine fL 1 60 61 62 63 64 #[Y,Y,Y,Y,Y,Y,N,N,N,N,N,N,N,N,N,N,N,N,N,N] 6 (ldFlight _) H ?_
  refine fM 6 65 66 67 68 69 70 #[Y,Y,Y,Y,Y,Y,Y,Y,Y,Y,Y,Y,N,N,N,N,N,N,N,N] 6 12 37 2 (ldI (c := 14) (n := s.out)) H ?_
  refine cL 12 (some 71) #[Y,Y,Y,Y,Y,Y,Y,Y,Y,Y,Y,Y,Y,N,N,N,N,N,N,N] Tryz.func94 H (flight_Lose.calls k2 s.sent s.told s.out s.out f1 f2 f3 c1 _ hS.out) ?_; clear H; intro _ H
  refine pL 13 (some 72) #[Y,Y,Y,Y,Y,Y,Y,Y,Y,Y,Y,Y,Y,Y,N,N,N,N,N,N] ?_
  refine pL 14 (some 73) #[Y,Y,Y,Y,Y,Y,Y,Y,Y,Y,Y,Y,Y,Y,Y,N,N,N,N,N] ?_
  refine gL 15 (some 74) #[Y,Y,Y,Y,Y,Y,Y,Y,Y,Y,Y,Y,Y,Y,Y,Y,N,N,N,N] Tryz.func79 H (got_flight f1 f2 f3 c1 _) (fun h W S => ⟨rfl, S.wr, .inr ⟨.inr h, _, h, rfl⟩⟩) ?_; clear H; intro h0 _ H; have K1 := Aside0.mk h0; clear h0
  refine nL 16 75 76 77 #[Y,Y,Y,Y,Y,Y,Y,Y,Y,Y,Y,Y,Y,Y,Y,Y,Y,Y,Y,N] 6 12 ?_
  refine sL (s' := { s with win := 131072, thresh := W1, high := H1, sent := f1, told := f2, out := f3, back := B }) 19 #[Y,Y,Y,Y,Y,Y,Y,Y,Y,Y,Y,Y,Y,Y,Y,Y,Y,Y,Y,Y] (sdFlight _ f1 f2 f3) H ?_; clear H; intro _ H
  refine done_ (by kernel_rfl) ?_
  have b25 : ∀ W : World, (Instr.build 25 #[]).run Tryz.prog W = .ok (.agg #[.bool false, .int .i64 0, .int .i64 0, .int .i64 0, .int .i64 0, .int .i64 0]) W := fun W => by kernel_rfl
  have b44 : ∀ W : World, (Instr.build 44 #[]).run Tryz.prog W = .ok (.agg #[.int .i64 0, .int .i64 0, .int .i64 0, .bool false, .bool false, .int .i64 0, .int .i64 0]) W := fun W => by kernel_rfl
  go_wp2_with (first | (refine ldW 3 83 84 (ldI (c := 12) (n := f1)) H ?_) | (refine stW 3 87 (.tmp 84) (sdI (c := 34) (n := f1) (s' := { s with back := B, win := 131072, thresh := W1, high := H1, sent := f1, told := f2, out := f3, recov := f1 })) H ?_; clear H; intro _ H) | (refine ldW 3 97 98 (ldI (c := 12) (n := f1)) H ?_) | (go_at_call 98; (with_reducible refine (round_Begin.calls f1 0 R1 _ hR.out).mono ?_); rintro e wr ⟨rfl, hb⟩; replace H := Aside0.mk (H.out.below hb); clear hb) | (refine stW 25 102 (.tmp 91) (sdEpoch _ false 0 0 0 0 0) H ?_; clear H; intro _ H) | (refine stW 44 105 (.tmp 92) (sdHystart _ 0 0 0 false false 0 0) H ?_; clear H; intro _ H) | (refine stW 42 108 (.tmp 99) (sdRound _ 0 R1) H ?_; clear H; intro _ H) | fail)
  go_end0
  exact ⟨H.out.wr, .inl ⟨C0.out, K1.out, rfl, H.out.row⟩⟩
set_option maxRecDepth 100000 in
set_option maxHeartbeats 4000000 in
theorem line_times (g B k : Nat) (s : Ln) (ek ea eb er r2 r3 c1 h1 h2 h3 h6 h7 c3 : Int) (r1 h4 h5 : Bool) (x : Sl) (l : List S119) (Z : Prop) (hZ : c1 ≠ 0 ∨ c3 ≠ 0 → Z) (w : World) (hA0 : At w g s) (hx : s.lv = x.val) (hM : Mk g B w x l) (he : er ≠ 0)
    (hR : Aside0 (rtt_Sample.f k s.has s.mean s.far er = some (r1, r2, r3, c1)))
    (hP : Aside0 (∀ W, Mk g B W x l → w.heap.size ≤ W.heap.size → Calls Tryz.prog 136 #[x.val, .int .i64 10000000, .int .i64 ea, .int .i64 er] W fun e W' => (∃ y : Sl × Int, e = .returned (.tuple #[y.1.val, .int .i64 y.2]) ∧ (y.2 = 0 → ∃ l', l'.length ≤ l.length + 1 ∧ Mk g B W' y.1 l') ∧ (y.2 ≠ 0 → Z)) ∧ Below W.heap.size W W'))
    (hH : Aside0 (s.win < s.thresh → ∀ W : World, Calls Tryz.prog 137 #[.agg #[.int .i64 s.hlast, .int .i64 s.hleast, .int .i64 s.hmany, .bool s.hgentle, .bool s.hdone, .int .i64 s.hbase, .int .i64 s.hrounds], .int .i64 er] W fun e W' => e = .returned (.tuple #[.agg #[.int .i64 h1, .int .i64 h2, .int .i64 h3, .bool h4, .bool h5, .int .i64 h6, .int .i64 h7], .int .i64 c3]) ∧ Below W.heap.size W W'))
    (hH' : Aside0 (¬ s.win < s.thresh → c3 = 0 ∧ s.hlast = h1 ∧ s.hleast = h2 ∧ s.hmany = h3 ∧ s.hgentle = h4 ∧ s.hdone = h5 ∧ s.hbase = h6 ∧ s.hrounds = h7)) :
    Calls Tryz.prog 84 #[.pointer (some ⟨g, 0, none⟩), .agg #[.int .i64 ek, .int .i64 ea, .int .i64 eb, .int .i64 er]] w fun e w' => Wr g w w' ∧ ((c1 = 0 ∧ c3 = 0 ∧ e = .returned (.tuple #[]) ∧ ∃ x l', l'.length ≤ l.length + 1 ∧ Mk g B w' x l' ∧ At w' g { s with has := r1, mean := r2, far := r3, lv := x.val, hlast := h1, hleast := h2, hmany := h3, hgentle := h4, hdone := h5, hbase := h6, hrounds := h7 }) ∨ Z ∧ ∃ n, n ≠ 0 ∧ e = .panicked (erL n)) := by
  have hA := Aside0.mk hA0
  have HX := Aside0.mk hx
  have HM := Aside0.mk hM
  have c0b : (er == 0) = false := beq_eq_false_iff_ne.mpr he
  clear hA0 hx hM he
  go_enter Tryz.func84, Tryz.ntmps84
  go_upto_region 2 with (first | (((with_reducible refine gate_dst (N := 3) rfl ?_); refine box_event ?hg (N := 3) ?hd (cs := #[.int .i64 ek, .int .i64 ea, .int .i64 eb, .int .i64 er]) (t := 52) ?hr ?_; (case hd => rfl); (case hg => rfl); (case hr => first | (go_simp; done) | (go_simp; rfl)); intro be hg wb hbox hb; have H := Aside0.mk (StL.begin hA.out hg hbox hb); clear hA hb hbox hg); have y3 := H.out.y 3 (.int .i64 er) rfl) | fail)
  clear y3 c0b
  refine rgL #[N,N,N,N,N,N,N,N,N,N,N,N,N,N,N,N] [15] H ?_; clear H; intro _ H
  refine pL 0 (some 7) #[Y,N,N,N,N,N,N,N,N,N,N,N,N,N,N,N] ?_
  refine fL 1 8 9 10 11 12 #[Y,Y,Y,Y,Y,Y,N,N,N,N,N,N,N,N,N,N] 7 (ldRtt _) H ?_
  refine eL 6 13 14 #[Y,Y,Y,Y,Y,Y,Y,Y,N,N,N,N,N,N,N,N] (ldE (c := 3) (n := er)) H ?_
  refine cL 8 (some 15) #[Y,Y,Y,Y,Y,Y,Y,Y,Y,N,N,N,N,N,N,N] Tryz.func134 H (rtt_Sample.calls k s.has s.mean s.far er r1 r2 r3 c1 _ hR.out) ?_; clear H; intro _ H
  refine pL 9 (some 16) #[Y,Y,Y,Y,Y,Y,Y,Y,Y,Y,N,N,N,N,N,N] ?_
  refine pL 10 (some 17) #[Y,Y,Y,Y,Y,Y,Y,Y,Y,Y,Y,N,N,N,N,N] ?_
  refine gL 11 (some 18) #[Y,Y,Y,Y,Y,Y,Y,Y,Y,Y,Y,Y,N,N,N,N] Tryz.func133 H (got_rtt r1 r2 r3 c1 _) (fun h W S => ⟨rfl, S.wr, .inr ⟨hZ (.inl h), _, h, rfl⟩⟩) ?_; clear H; intro h0 _ H; have K1 := Aside0.mk h0; clear h0
  refine nL 12 19 20 21 #[Y,Y,Y,Y,Y,Y,Y,Y,Y,Y,Y,Y,Y,Y,Y,N] 7 15 ?_
  refine sL (s' := { s with has := r1, mean := r2, far := r3 }) 15 #[Y,Y,Y,Y,Y,Y,Y,Y,Y,Y,Y,Y,Y,Y,Y,Y] (sdRtt _ r1 r2 r3) H ?_; clear H; intro _ H
  refine done_ (by kernel_rfl) ?_
  go_upto_region 3 with fail
  refine rgL #[N,N,N,N,N,N,N,N,N,N,N,N,N,N,N,N,N,N] [17] H ?_; clear H; intro _ H
  refine pL 0 (some 22) #[Y,N,N,N,N,N,N,N,N,N,N,N,N,N,N,N,N,N] ?_
  refine fL 1 23 24 25 26 27 #[Y,Y,Y,Y,Y,Y,N,N,N,N,N,N,N,N,N,N,N,N] 8 (ldMarks _) H ?_
  refine eL 6 28 29 #[Y,Y,Y,Y,Y,Y,Y,Y,N,N,N,N,N,N,N,N,N,N] (ldE (c := 1) (n := ea)) H ?_
  refine eL 8 30 31 #[Y,Y,Y,Y,Y,Y,Y,Y,Y,Y,N,N,N,N,N,N,N,N] (ldE (c := 3) (n := er)) H ?_
  refine xL 10 (some 32) #[Y,Y,Y,Y,Y,Y,Y,Y,Y,Y,Y,N,N,N,N,N,N,N] (mk := fun y : Sl × Int => .tuple #[y.1.val, .int .i64 y.2]) Tryz.func136 H (HX.out ▸ hP.out _ (HM.out.wr H.out.wr) H.out.wr.size) ?_; clear H; intro y _ HR H
  refine pL 11 (some 33) #[Y,Y,Y,Y,Y,Y,Y,Y,Y,Y,Y,Y,N,N,N,N,N,N] ?_
  refine pL 12 (some 34) #[Y,Y,Y,Y,Y,Y,Y,Y,Y,Y,Y,Y,Y,N,N,N,N,N] ?_
  refine gL0 13 (some 35) #[Y,Y,Y,Y,Y,Y,Y,Y,Y,Y,Y,Y,Y,Y,N,N,N,N] Tryz.func135 H (got_marks y.1.val y.2 _) (fun h S => ⟨rfl, S.wr, .inr ⟨HR.out.2 h, _, h, rfl⟩⟩) ?_; intro h0; have K2 := Aside0.mk h0; clear h0
  refine nL 14 36 37 38 #[Y,Y,Y,Y,Y,Y,Y,Y,Y,Y,Y,Y,Y,Y,Y,Y,Y,N] 8 18 ?_
  refine sL1 (s' := { s with has := r1, mean := r2, far := r3, lv := y.1.val }) 17 #[Y,Y,Y,Y,Y,Y,Y,Y,Y,Y,Y,Y,Y,Y,Y,Y,Y,Y] (sdMarks _ y.1.A y.1.m y.1.c) H ?_; clear H; intro _ HW H
  refine done_ (by kernel_rfl) ?_
  obtain ⟨l', hl, hm⟩ := HR.out.1 K2.out
  have HL := Aside0.mk hl; have HM2 := Aside0.mk (hm.wr HW.out); have HW0 := Aside0.mk H.out.wr; replace H := Aside0.mk H.out.here
  clear HR HW hl hm
  by_cases c0 : s.win < s.thresh
  · have hc := Aside0.mk (hH.out c0)
    have c0b : decide (s.win < s.thresh) = true := decide_eq_true c0
    clear c0
    go_upto_region 5 with (first | (go_at_call 76; (with_reducible refine (lr_slow g _ _ H.out.row).mono ?_); rintro e wr ⟨rfl, hb⟩; rw [show decide (s.win < s.thresh) = true from c0b]; replace H := Aside0.mk (H.out.below hb); clear hb) | fail)
    refine rgL #[N,N,N,N,N,N,N,N,N,N,N,N,N,N,N,N] [15] H ?_; clear H; intro _ H
    refine pL 0 (some 41) #[Y,N,N,N,N,N,N,N,N,N,N,N,N,N,N,N] ?_
    refine fL 1 42 43 44 45 46 #[Y,Y,Y,Y,Y,Y,N,N,N,N,N,N,N,N,N,N] 10 (ldHystart _) H ?_
    refine eL 6 47 48 #[Y,Y,Y,Y,Y,Y,Y,Y,N,N,N,N,N,N,N,N] (ldE (c := 3) (n := er)) H ?_
    refine cL 8 (some 49) #[Y,Y,Y,Y,Y,Y,Y,Y,Y,N,N,N,N,N,N,N] Tryz.func137 H ((hc.out _)) ?_; clear H; intro _ H
    refine pL 9 (some 50) #[Y,Y,Y,Y,Y,Y,Y,Y,Y,Y,N,N,N,N,N,N] ?_
    refine pL 10 (some 51) #[Y,Y,Y,Y,Y,Y,Y,Y,Y,Y,Y,N,N,N,N,N] ?_
    refine gL 11 (some 52) #[Y,Y,Y,Y,Y,Y,Y,Y,Y,Y,Y,Y,N,N,N,N] Tryz.func87 H (got_hystart h1 h2 h3 h4 h5 h6 h7 c3 _) (fun h W S => ⟨rfl, HW0.out.trans S.wr, .inr ⟨hZ (.inr h), _, h, rfl⟩⟩) ?_; clear H; intro h0 _ H; have K3 := Aside0.mk h0; clear h0
    refine nL 12 53 54 55 #[Y,Y,Y,Y,Y,Y,Y,Y,Y,Y,Y,Y,Y,Y,Y,N] 10 21 ?_
    refine sL (s' := { s with has := r1, mean := r2, far := r3, lv := y.1.val, hlast := h1, hleast := h2, hmany := h3, hgentle := h4, hdone := h5, hbase := h6, hrounds := h7 }) 15 #[Y,Y,Y,Y,Y,Y,Y,Y,Y,Y,Y,Y,Y,Y,Y,Y] (sdHystart _ h1 h2 h3 h4 h5 h6 h7) H ?_; clear H; intro _ H
    refine done_ (by kernel_rfl) ?_
    go_wp2
    go_end0
    exact ⟨HW0.out.trans H.out.wr, .inl ⟨K1.out, K3.out, rfl, y.1, l', HL.out, HM2.out.wr H.out.wr, H.out.row⟩⟩
  · have c0b : decide (s.win < s.thresh) = false := decide_eq_false c0
    obtain ⟨q0, rfl, rfl, rfl, rfl, rfl, rfl, rfl⟩ := hH'.out c0
    clear c0
    go_wp2_with (first | (go_at_call 76; (with_reducible refine (lr_slow g _ _ H.out.row).mono ?_); rintro e wr ⟨rfl, hb⟩; rw [show decide (s.win < s.thresh) = false from c0b]; replace H := Aside0.mk (H.out.below hb); clear hb) | fail)
    go_end0
    exact ⟨HW0.out.trans H.out.wr, .inl ⟨K1.out, q0, rfl, y.1, l', HL.out, HM2.out.wr H.out.wr, H.out.row⟩⟩

set_option maxRecDepth 100000 in
set_option maxHeartbeats 1000000 in
theorem line_times0 (g : Nat) (s : Ln) (ek ea eb : Int) (w : World) (hA0 : At w g s) :
    Calls Tryz.prog 84 #[.pointer (some ⟨g, 0, none⟩), .agg #[.int .i64 ek, .int .i64 ea, .int .i64 eb, .int .i64 0]] w fun e w' => Wr g w w' ∧ e = .returned (.tuple #[]) ∧ At w' g s := by
  have hA := Aside0.mk hA0
  clear hA0
  go_enter Tryz.func84, Tryz.ntmps84
  go_wp2_with (first | (((with_reducible refine gate_dst (N := 3) rfl ?_); refine box_event ?hg (N := 3) ?hd (cs := #[.int .i64 ek, .int .i64 ea, .int .i64 eb, .int .i64 0]) (t := 52) ?hr ?_; (case hd => rfl); (case hg => rfl); (case hr => first | (go_simp; done) | (go_simp; rfl)); intro be hg wb hbox hb; have H := Aside0.mk (StL.begin hA.out hg hbox hb); clear hA hb hbox hg); have y3 := H.out.y 3 (.int .i64 0) rfl) | fail)
  refine bodyPost_ret (results_none rfl _ _ _) rfl ⟨H.out.wr, rfl, H.out.row⟩
theorem tensW {w W : World} {g : Nat} {s : Ln} (h : Tens w) (hA : At w g s) (hw : Wr g w W) : Tens W := by
  obtain ⟨t, h⟩ := h
  refine ⟨t, hw.blk h fun e => ?_⟩
  subst e
  have q := hA.symm.trans h
  injection q with q
  injection q with q
  have := congrArg Array.size q
  rw [Ln.size] at this
  cases this
set_option maxRecDepth 100000 in
set_option maxHeartbeats 4000000 in
theorem line_calm (g k : Nat) (s : Ln) (ek ea eb er td p2 p3 p4 p5 p6 c1 E mn T tg G W2 : Int) (p1 : Bool) (w : World) (hA0 : At w g s) (hT0 : Tens w)
    (hB : Aside0 (s.eon = false → epoch_BeginS.f ea s.win s.high = some (p1, p2, p3, p4, p5, p6, c1))) (hB' : Aside0 (s.eon = true → p1 = s.eon ∧ p2 = s.estart ∧ p3 = s.efirst ∧ p4 = s.emax ∧ p5 = s.ek ∧ p6 = s.eest))
    (hS : Aside0 (reno_StepS.f p6 p4 s.win td = some E)) (hMn : Aside0 (rtt_Mean.f s.has s.mean s.far = some mn)) (hAf : Aside0 (clock_After.f k ea mn = some T)) (hTg : Aside0 (cubic_TargetS.f p1 p2 p3 p4 p5 E T s.win = some tg)) (hBo : Aside0 (grow_Both.f s.win tg E td = some G)) (hLi : Aside0 (grow_LimitS.f G (wrap64 (s.mx * 65536)) = some W2)) :
    Calls Tryz.prog 93 #[.pointer (some ⟨g, 0, none⟩), .agg #[.int .i64 ek, .int .i64 ea, .int .i64 eb, .int .i64 er], .int .i64 td] w fun e w' => Wr g w w' ∧ (e = .returned (.tuple #[]) ∧ At w' g { s with eon := p1, estart := p2, efirst := p3, emax := p4, ek := p5, eest := E, win := W2 } ∨ ∃ n, n ≠ 0 ∧ e = .panicked (erL n)) := by
  have hA := Aside0.mk hA0
  have HT := Aside0.mk (fun W h => tensW (W := W) hT0 hA0 h)
  clear hA0 hT0
  go_enter Tryz.func93, Tryz.ntmps93
  go_upto_if 13 with (first | (((with_reducible refine gate_dst (N := 4) rfl ?_); refine box_event ?hg (N := 4) ?hd (cs := #[.int .i64 ek, .int .i64 ea, .int .i64 eb, .int .i64 er]) (t := 52) ?hr ?_; (case hd => rfl); (case hg => rfl); (case hr => first | (go_simp; done) | (go_simp; rfl)); intro be hg wb hbox hb; have H := Aside0.mk (StL.begin hA.out hg hbox hb); clear hA hb hbox hg); have z28 := H.out.z 28 (.bool s.eon) rfl) | fail)
  clear z28
  go_cut [0] (fun v0 wc => v0 = .pointer (some ⟨g, 0, none⟩) ∧ Aside0 (StL g (some be) #[.int .i64 ek, .int .i64 ea, .int .i64 eb, .int .i64 er] w { s with eon := p1, estart := p2, efirst := p3, emax := p4, ek := p5, eest := p6 } wc))
  case first =>
    by_cases c0 : s.eon = false
    · have hb := Aside0.mk (hB.out c0)
      rw [show (!s.eon) = true by rw [c0]; rfl]
      clear c0
      go_upto_region 2 with fail
      refine rgL #[N,N,N,N,N,N,N,N,N,N,N,N,N,N,N,N,N,N,N,N,N] [20] H ?_; clear H; intro _ H
      refine pL 0 (some 14) #[Y,N,N,N,N,N,N,N,N,N,N,N,N,N,N,N,N,N,N,N,N] ?_
      refine eL 1 15 16 #[Y,Y,Y,N,N,N,N,N,N,N,N,N,N,N,N,N,N,N,N,N,N] (ldE (c := 1) (n := ea)) H ?_
      refine fL 3 17 18 19 20 21 #[Y,Y,Y,Y,Y,Y,Y,Y,N,N,N,N,N,N,N,N,N,N,N,N,N] 3 (ldI (c := 9) (n := s.win)) H ?_
      refine fL 8 22 23 24 25 26 #[Y,Y,Y,Y,Y,Y,Y,Y,Y,Y,Y,Y,Y,N,N,N,N,N,N,N,N] 5 (ldI (c := 11) (n := s.high)) H ?_
      refine cL 13 (some 27) #[Y,Y,Y,Y,Y,Y,Y,Y,Y,Y,Y,Y,Y,Y,N,N,N,N,N,N,N] Tryz.func7 H (epoch_BeginS.calls ea s.win s.high p1 p2 p3 p4 p5 p6 c1 _ hb.out (HT.out _ H.out.wr)) ?_; clear H; intro _ H
      refine pL 14 (some 28) #[Y,Y,Y,Y,Y,Y,Y,Y,Y,Y,Y,Y,Y,Y,Y,N,N,N,N,N,N] ?_
      refine pL 15 (some 29) #[Y,Y,Y,Y,Y,Y,Y,Y,Y,Y,Y,Y,Y,Y,Y,Y,N,N,N,N,N] ?_
      refine gL 16 (some 30) #[Y,Y,Y,Y,Y,Y,Y,Y,Y,Y,Y,Y,Y,Y,Y,Y,Y,N,N,N,N] Tryz.func139 H (got_epoch p1 p2 p3 p4 p5 p6 c1 _) (fun h W S => ⟨rfl, S.wr, .inr ⟨_, h, rfl⟩⟩) ?_; clear H; intro h0 _ H; have K1 := Aside0.mk h0; clear h0
      refine nL 17 31 32 33 #[Y,Y,Y,Y,Y,Y,Y,Y,Y,Y,Y,Y,Y,Y,Y,Y,Y,Y,Y,Y,N] 11 28 ?_
      refine sL (s' := { s with eon := p1, estart := p2, efirst := p3, emax := p4, ek := p5, eest := p6 }) 20 #[Y,Y,Y,Y,Y,Y,Y,Y,Y,Y,Y,Y,Y,Y,Y,Y,Y,Y,Y,Y,Y] (sdEpoch _ p1 p2 p3 p4 p5 p6) H ?_; clear H; intro _ H
      refine done_ (by kernel_rfl) ?_
      go_wp2
      go_meet
      exact ⟨rfl, H⟩
    · have c1 : s.eon = true := by simpa using c0
      rw [show (!s.eon) = false by rw [c1]; rfl]
      obtain ⟨rfl, rfl, rfl, rfl, rfl, rfl⟩ := hB'.out c1
      clear c0 c1
      go_wp2
      go_meet
      exact ⟨rfl, H⟩
  case rest =>
    obtain ⟨rfl, H⟩ := hcut
    go_upto_region 3 with fail
    refine rgL #[N,N,N,N,N,N,N,N,N,N,N,N,N,N,N,N,N,N,N,N,N,N,N,N,N] [24] H ?_; clear H; intro _ H
    refine pL 0 (some 34) #[Y,N,N,N,N,N,N,N,N,N,N,N,N,N,N,N,N,N,N,N,N,N,N,N,N] ?_
    refine fM 1 35 36 37 38 39 40 #[Y,Y,Y,Y,Y,Y,Y,N,N,N,N,N,N,N,N,N,N,N,N,N,N,N,N,N,N] 11 28 25 5 (ldI (c := 33) (n := p6)) H ?_
    refine fM 7 41 42 43 44 45 46 #[Y,Y,Y,Y,Y,Y,Y,Y,Y,Y,Y,Y,Y,N,N,N,N,N,N,N,N,N,N,N,N] 11 28 25 3 (ldI (c := 31) (n := p4)) H ?_
    refine fL 13 47 48 49 50 51 #[Y,Y,Y,Y,Y,Y,Y,Y,Y,Y,Y,Y,Y,Y,Y,Y,Y,Y,N,N,N,N,N,N,N] 3 (ldI (c := 9) (n := s.win)) H ?_
    refine pL 18 (some 52) #[Y,Y,Y,Y,Y,Y,Y,Y,Y,Y,Y,Y,Y,Y,Y,Y,Y,Y,Y,N,N,N,N,N,N] ?_
    refine cL 19 (some 53) #[Y,Y,Y,Y,Y,Y,Y,Y,Y,Y,Y,Y,Y,Y,Y,Y,Y,Y,Y,Y,N,N,N,N,N] Tryz.func140 H (reno_StepS.calls p6 p4 s.win td E _ hS.out) ?_; clear H; intro _ H
    refine nL 20 54 55 56 #[Y,Y,Y,Y,Y,Y,Y,Y,Y,Y,Y,Y,Y,Y,Y,Y,Y,Y,Y,Y,Y,Y,Y,N,N] 11 28 ?_
    refine pL 23 (some 57) #[Y,Y,Y,Y,Y,Y,Y,Y,Y,Y,Y,Y,Y,Y,Y,Y,Y,Y,Y,Y,Y,Y,Y,Y,N] ?_
    refine sL (s' := { s with eon := p1, estart := p2, efirst := p3, emax := p4, ek := p5, eest := E }) 24 #[Y,Y,Y,Y,Y,Y,Y,Y,Y,Y,Y,Y,Y,Y,Y,Y,Y,Y,Y,Y,Y,Y,Y,Y,Y] (sdI (c := 33) (n := E)) H ?_; clear H; intro _ H
    refine done_ (by kernel_rfl) ?_
    go_upto_region 4 with fail
    refine rgL #[N,N,N,N,N,N,N,N,N,N,N,N,N,N,N,N,N,N,N,N,N] [] H ?_; clear H; intro _ H
    refine fL 0 58 59 60 61 62 #[Y,Y,Y,Y,Y,N,N,N,N,N,N,N,N,N,N,N,N,N,N,N,N] 11 (ldEpoch _) H ?_
    refine eL 5 63 64 #[Y,Y,Y,Y,Y,Y,Y,N,N,N,N,N,N,N,N,N,N,N,N,N,N] (ldE (c := 1) (n := ea)) H ?_
    refine fL 7 65 66 67 68 69 #[Y,Y,Y,Y,Y,Y,Y,Y,Y,Y,Y,Y,N,N,N,N,N,N,N,N,N] 7 (ldRtt _) H ?_
    refine fL 14 72 73 74 75 76 #[Y,Y,Y,Y,Y,Y,Y,Y,Y,Y,Y,Y,N,N,Y,Y,Y,Y,Y,N,N] 3 (ldI (c := 9) (n := s.win)) H ?_
    refine cL 12 (some 70) #[Y,Y,Y,Y,Y,Y,Y,Y,Y,Y,Y,Y,Y,N,Y,Y,Y,Y,Y,N,N] Tryz.func142 H (rtt_Mean.calls s.has s.mean s.far mn _ hMn.out) ?_; clear H; intro _ H
    refine cL 13 (some 71) #[Y,Y,Y,Y,Y,Y,Y,Y,Y,Y,Y,Y,Y,Y,Y,Y,Y,Y,Y,N,N] Tryz.func141 H (clock_After.calls k ea mn T _ hAf.out) ?_; clear H; intro _ H
    refine cL 19 (some 77) #[Y,Y,Y,Y,Y,Y,Y,Y,Y,Y,Y,Y,Y,Y,Y,Y,Y,Y,Y,Y,N] Tryz.func9 H (cubic_TargetS.calls p1 p2 p3 p4 p5 E T s.win tg _ hTg.out (HT.out _ H.out.wr)) ?_; clear H; intro _ H
    refine pL 20 (some 6) #[Y,Y,Y,Y,Y,Y,Y,Y,Y,Y,Y,Y,Y,Y,Y,Y,Y,Y,Y,Y,Y] ?_
    refine done_ (by kernel_rfl) ?_
    go_upto_region 5 with fail
    refine rgL #[N,N,N,N,N,N,N,N,N,N,N,N,N,N,N,N,N,N,N,N,N,N,N,N,N,N,N] [26] H ?_; clear H; intro _ H
    refine pL 0 (some 78) #[Y,N,N,N,N,N,N,N,N,N,N,N,N,N,N,N,N,N,N,N,N,N,N,N,N,N,N] ?_
    refine fL 1 79 80 81 82 83 #[Y,Y,Y,Y,Y,Y,N,N,N,N,N,N,N,N,N,N,N,N,N,N,N,N,N,N,N,N,N] 3 (ldI (c := 9) (n := s.win)) H ?_
    refine pL 6 (some 84) #[Y,Y,Y,Y,Y,Y,Y,N,N,N,N,N,N,N,N,N,N,N,N,N,N,N,N,N,N,N,N] ?_
    refine fM 7 85 86 87 88 89 90 #[Y,Y,Y,Y,Y,Y,Y,Y,Y,Y,Y,Y,Y,N,N,N,N,N,N,N,N,N,N,N,N,N,N] 11 28 25 5 (ldI (c := 33) (n := E)) H ?_
    refine pL 13 (some 91) #[Y,Y,Y,Y,Y,Y,Y,Y,Y,Y,Y,Y,Y,Y,N,N,N,N,N,N,N,N,N,N,N,N,N] ?_
    refine fM 15 93 94 95 96 97 98 #[Y,Y,Y,Y,Y,Y,Y,Y,Y,Y,Y,Y,Y,Y,N,Y,Y,Y,Y,Y,Y,N,N,N,N,N,N] 0 0 33 1 (ldI (c := 1) (n := s.mx)) H ?_
    refine pL 21 (some 99) #[Y,Y,Y,Y,Y,Y,Y,Y,Y,Y,Y,Y,Y,Y,N,Y,Y,Y,Y,Y,Y,Y,N,N,N,N,N] ?_
    refine cL 14 (some 92) #[Y,Y,Y,Y,Y,Y,Y,Y,Y,Y,Y,Y,Y,Y,Y,Y,Y,Y,Y,Y,Y,Y,N,N,N,N,N] Tryz.func8 H (grow_Both.calls s.win tg E td G _ hBo.out) ?_; clear H; intro _ H
    refine cL 22 (some 100) #[Y,Y,Y,Y,Y,Y,Y,Y,Y,Y,Y,Y,Y,Y,Y,Y,Y,Y,Y,Y,Y,Y,Y,N,N,N,N] Tryz.func91 H (grow_LimitS.calls G _ W2 _ hLi.out) ?_; clear H; intro _ H
    refine nL 23 101 102 103 #[Y,Y,Y,Y,Y,Y,Y,Y,Y,Y,Y,Y,Y,Y,Y,Y,Y,Y,Y,Y,Y,Y,Y,Y,Y,Y,N] 3 9 ?_
    refine sL (s' := { s with win := W2, eon := p1, estart := p2, efirst := p3, emax := p4, ek := p5, eest := E }) 26 #[Y,Y,Y,Y,Y,Y,Y,Y,Y,Y,Y,Y,Y,Y,Y,Y,Y,Y,Y,Y,Y,Y,Y,Y,Y,Y,Y] (sdI (c := 9) (n := W2)) H ?_; clear H; intro _ H
    refine done_ (by kernel_rfl) ?_
    go_wp2
    go_end0
    exact ⟨H.out.wr, .inl ⟨rfl, H.out.row⟩⟩
set_option maxRecDepth 100000 in
set_option maxHeartbeats 8000000 in
theorem line_ack (g B k1 : Nat) (s : Ln) (ek ea eb er f1 f2 f3 c1 r2 r3 h1 h2 h3 h6 h7 q1 q2 c4 e1 e2 e3 e6 e7 c5 td c6 G W2 : Int) (r1 h4 h5 ov b e4 e5 : Bool) (l : List S119) (R : Sl → Ln → Prop) (Z : Prop) (hZ : c1 ≠ 0 ∨ c5 ≠ 0 ∨ c6 ≠ 0 → Z) (w : World) (hA0 : At w g s)
    (hF : Aside0 (flight_Ack.f k1 s.sent s.told s.out eb = some (f1, f2, f3, c1)))
    (hT : Aside0 (∀ W, At W g { s with sent := f1, told := f2, out := f3, back := 0 } → Wr g w W → Calls Tryz.prog 84 #[.pointer (some ⟨g, 0, none⟩), .agg #[.int .i64 ek, .int .i64 ea, .int .i64 eb, .int .i64 er]] W fun e W' => Wr g W W' ∧ ((e = .returned (.tuple #[]) ∧ ∃ y l', l'.length ≤ l.length + 1 ∧ Mk g B W' y l' ∧ At W' g { s with sent := f1, told := f2, out := f3, back := 0, has := r1, mean := r2, far := r3, lv := y.val, hlast := h1, hleast := h2, hmany := h3, hgentle := h4, hdone := h5, hbase := h6, hrounds := h7 }) ∨ Z ∧ ∃ n, n ≠ 0 ∧ e = .panicked (erL n))))
    (hRd : Aside0 (∀ W : World, Calls Tryz.prog 85 #[.agg #[.int .i64 s.rid, .int .i64 s.rend], .int .i64 (wrap64 (f1 - f3)), .int .i64 f1] W fun e W' => e = .returned (.tuple #[.agg #[.int .i64 q1, .int .i64 q2], .bool ov, .int .i64 c4]) ∧ Below W.heap.size W W'))
    (hb : Aside0 ((ov && decide (s.win < s.thresh)) = b))
    (hH : Aside0 (b = true → ∀ W : World, Calls Tryz.prog 88 #[.agg #[.int .i64 h1, .int .i64 h2, .int .i64 h3, .bool h4, .bool h5, .int .i64 h6, .int .i64 h7]] W fun e W' => e = .returned (.tuple #[.agg #[.int .i64 e1, .int .i64 e2, .int .i64 e3, .bool e4, .bool e5, .int .i64 e6, .int .i64 e7], .int .i64 c5]) ∧ Below W.heap.size W W'))
    (hH' : Aside0 (b = false → h1 = e1 ∧ h2 = e2 ∧ h3 = e3 ∧ h4 = e4 ∧ h5 = e5 ∧ h6 = e6 ∧ h7 = e7))
    (hS : Aside0 (frac_SegsS.f eb s.seg = some (td, c6))) (hG : Aside0 (grow_Slow.f s.win td e1 e2 e3 e4 e5 e6 e7 = some G)) (hL : Aside0 (grow_LimitS.f G (wrap64 (s.mx * 65536)) = some W2))
    (hR0 : Aside0 ((wrap64 (f1 - f3) < s.recov ∨ s.lim = true) → ∀ y, R y { s with sent := f1, told := f2, out := f3, back := 0, has := r1, mean := r2, far := r3, lv := y.val, rid := q1, rend := q2, hlast := e1, hleast := e2, hmany := e3, hgentle := e4, hdone := e5, hbase := e6, hrounds := e7 }))
    (hR1 : Aside0 (¬ (wrap64 (f1 - f3) < s.recov ∨ s.lim = true) → s.win < s.thresh → ∀ y, R y { s with sent := f1, told := f2, out := f3, back := 0, has := r1, mean := r2, far := r3, lv := y.val, rid := q1, rend := q2, hlast := e1, hleast := e2, hmany := e3, hgentle := e4, hdone := e5, hbase := e6, hrounds := e7, win := W2, thresh := cond e5 W2 s.thresh }))
    (hK : Aside0 (¬ (wrap64 (f1 - f3) < s.recov ∨ s.lim = true) → ¬ s.win < s.thresh → ∀ W y, At W g { s with sent := f1, told := f2, out := f3, back := 0, has := r1, mean := r2, far := r3, lv := y.val, rid := q1, rend := q2, hlast := e1, hleast := e2, hmany := e3, hgentle := e4, hdone := e5, hbase := e6, hrounds := e7 } → Wr g w W → Calls Tryz.prog 93 #[.pointer (some ⟨g, 0, none⟩), .agg #[.int .i64 ek, .int .i64 ea, .int .i64 eb, .int .i64 er], .int .i64 td] W fun e W' => Wr g W W' ∧ ((e = .returned (.tuple #[]) ∧ ∃ t, R y t ∧ At W' g t) ∨ Z ∧ ∃ n, n ≠ 0 ∧ e = .panicked (erL n)))) :
    Calls Tryz.prog 39 #[.pointer (some ⟨g, 0, none⟩), .agg #[.int .i64 ek, .int .i64 ea, .int .i64 eb, .int .i64 er]] w fun e w' => Wr g w w' ∧ ((c1 = 0 ∧ e = .returned (.tuple #[]) ∧ ∃ y l' t, l'.length ≤ l.length + 1 ∧ Mk g B w' y l' ∧ R y t ∧ At w' g t) ∨ Z ∧ ∃ n, n ≠ 0 ∧ e = .panicked (erL n)) := by
  have hA := Aside0.mk hA0
  clear hA0
  go_enter Tryz.func39, Tryz.ntmps39
  go_upto_region 1 with (first | ((with_reducible refine gate_dst (N := 3) rfl ?_); refine box_event ?hg (N := 3) ?hd (cs := #[.int .i64 ek, .int .i64 ea, .int .i64 eb, .int .i64 er]) (t := 52) ?hr ?_; (case hd => rfl); (case hg => rfl); (case hr => first | (go_simp; done) | (go_simp; rfl)); intro be hg wb hbox hb; have H := Aside0.mk (StL.begin hA.out hg hbox hb); clear hA hb hbox hg) | fail)
  refine rgL #[N,N,N,N,N,N,N,N,N,N,N,N,N,N,N,N] [15] H ?_; clear H; intro _ H
  refine pL 0 (some 6) #[Y,N,N,N,N,N,N,N,N,N,N,N,N,N,N,N] ?_
  refine fL 1 7 8 9 10 11 #[Y,Y,Y,Y,Y,Y,N,N,N,N,N,N,N,N,N,N] 6 (ldFlight _) H ?_
  refine eL 6 12 13 #[Y,Y,Y,Y,Y,Y,Y,Y,N,N,N,N,N,N,N,N] (ldE (c := 2) (n := eb)) H ?_
  refine cL 8 (some 14) #[Y,Y,Y,Y,Y,Y,Y,Y,Y,N,N,N,N,N,N,N] Tryz.func83 H (flight_Ack.calls k1 s.sent s.told s.out eb f1 f2 f3 c1 _ hF.out) ?_; clear H; intro _ H
  refine pL 9 (some 15) #[Y,Y,Y,Y,Y,Y,Y,Y,Y,Y,N,N,N,N,N,N] ?_
  refine pL 10 (some 16) #[Y,Y,Y,Y,Y,Y,Y,Y,Y,Y,Y,N,N,N,N,N] ?_
  refine gL 11 (some 17) #[Y,Y,Y,Y,Y,Y,Y,Y,Y,Y,Y,Y,N,N,N,N] Tryz.func79 H (got_flight f1 f2 f3 c1 _) (fun h W S => ⟨rfl, S.wr, .inr ⟨hZ (.inl h), _, h, rfl⟩⟩) ?_; clear H; intro h0 _ H; have K1 := Aside0.mk h0; clear h0
  refine nL 12 18 19 20 #[Y,Y,Y,Y,Y,Y,Y,Y,Y,Y,Y,Y,Y,Y,Y,N] 6 12 ?_
  refine sL (s' := { s with sent := f1, told := f2, out := f3 }) 15 #[Y,Y,Y,Y,Y,Y,Y,Y,Y,Y,Y,Y,Y,Y,Y,Y] (sdFlight _ f1 f2 f3) H ?_; clear H; intro _ H
  refine done_ (by kernel_rfl) ?_
  go_upto_region 5 with (first | (refine stW 3 24 (.const (.int .i64 0)) (sdI (c := 35) (n := 0) (s' := { s with sent := f1, told := f2, out := f3, back := 0 })) H ?_; clear H; intro _ H; have y0 := H.out.y 0 (.int .i64 ek) rfl; have y1 := H.out.y 1 (.int .i64 ea) rfl; have y2 := H.out.y 2 (.int .i64 eb) rfl; have y3 := H.out.y 3 (.int .i64 er) rfl) | (go_at_call 84; (with_reducible refine (hT.out _ H.out.row H.out.wr).mono ?_); rintro e wm ⟨hw, ⟨rfl, y, l', hl, hm, hr⟩ | ⟨hz, n, hn, rfl⟩⟩; rotate_left; exact ⟨rfl, H.out.wr.trans hw, .inr ⟨hz, n, hn, rfl⟩⟩) | fail)
  clear y0 y1 y2 y3
  replace H := Aside0.mk (H.out.turn hr hw)
  have HW0 := Aside0.mk H.out.wr; have HM := Aside0.mk hm; have HL := Aside0.mk hl; replace H := Aside0.mk H.out.here
  clear hw hr hm hl hT
  refine rgL #[N,N,N,N,N,N,N,N,N,N,N,N,N,N,N,N,N,N,N,N,N,N,N,N] [22] H ?_; clear H; intro _ H
  refine pL 0 (some 29) #[Y,N,N,N,N,N,N,N,N,N,N,N,N,N,N,N,N,N,N,N,N,N,N,N] ?_
  refine fL 1 30 31 32 33 34 #[Y,Y,Y,Y,Y,Y,N,N,N,N,N,N,N,N,N,N,N,N,N,N,N,N,N,N] 9 (ldRound _) H ?_
  refine pL 6 (some 35) #[Y,Y,Y,Y,Y,Y,Y,N,N,N,N,N,N,N,N,N,N,N,N,N,N,N,N,N] ?_
  refine fM 8 37 38 39 40 41 42 #[Y,Y,Y,Y,Y,Y,Y,N,Y,Y,Y,Y,Y,Y,N,N,N,N,N,N,N,N,N,N] 6 12 37 0 (ldI (c := 12) (n := f1)) H ?_
  refine cL 7 (some 36) #[Y,Y,Y,Y,Y,Y,Y,Y,Y,Y,Y,Y,Y,Y,N,N,N,N,N,N,N,N,N,N] Tryz.func86 H (lr_resolved g _ _ H.out.row) ?_; clear H; intro _ H
  refine cL 14 (some 43) #[Y,Y,Y,Y,Y,Y,Y,Y,Y,Y,Y,Y,Y,Y,Y,N,N,N,N,N,N,N,N,N] Tryz.func85 H (hRd.out _) ?_; clear H; intro _ H
  refine pL 15 (some 28) #[Y,Y,Y,Y,Y,Y,Y,Y,Y,Y,Y,Y,Y,Y,Y,Y,N,N,N,N,N,N,N,N] ?_
  refine pL 16 (some 44) #[Y,Y,Y,Y,Y,Y,Y,Y,Y,Y,Y,Y,Y,Y,Y,Y,Y,N,N,N,N,N,N,N] ?_
  refine pL 17 (some 45) #[Y,Y,Y,Y,Y,Y,Y,Y,Y,Y,Y,Y,Y,Y,Y,Y,Y,Y,N,N,N,N,N,N] ?_
  refine pL 18 (some 46) #[Y,Y,Y,Y,Y,Y,Y,Y,Y,Y,Y,Y,Y,Y,Y,Y,Y,Y,Y,N,N,N,N,N] ?_
  refine nL 19 47 48 49 #[Y,Y,Y,Y,Y,Y,Y,Y,Y,Y,Y,Y,Y,Y,Y,Y,Y,Y,Y,Y,Y,Y,N,N] 9 19 ?_
  refine sL (s' := { s with sent := f1, told := f2, out := f3, has := r1, mean := r2, far := r3, lv := y.val, rid := q1, rend := q2, hlast := h1, hleast := h2, hmany := h3, hgentle := h4, hdone := h5, hbase := h6, hrounds := h7, back := 0 }) 22 #[Y,Y,Y,Y,Y,Y,Y,Y,Y,Y,Y,Y,Y,Y,Y,Y,Y,Y,Y,Y,Y,Y,Y,N] (sdRound _ q1 q2) H ?_; clear H; intro _ H
  refine pL 23 (some 4) #[Y,Y,Y,Y,Y,Y,Y,Y,Y,Y,Y,Y,Y,Y,Y,Y,Y,Y,Y,Y,Y,Y,Y,Y] ?_
  refine done_ (by kernel_rfl) ?_
  go_upto_region 6 with fail
  go_cut [54] (fun v54 wc => v54 = .bool b ∧ Aside0 (StL g (some be) #[.int .i64 ek, .int .i64 ea, .int .i64 eb, .int .i64 er] wm { s with sent := f1, told := f2, out := f3, back := 0, has := r1, mean := r2, far := r3, lv := y.val, rid := q1, rend := q2, hlast := h1, hleast := h2, hmany := h3, hgentle := h4, hdone := h5, hbase := h6, hrounds := h7 } wc))
  case first =>
    have hb := hb.out
    obtain rfl | rfl := Bool.eq_false_or_eq_true ov
    · by_cases c0 : s.win < s.thresh
      · have c0b : decide (s.win < s.thresh) = true := decide_eq_true c0
        rw [c0b] at hb; obtain rfl : true = b := hb
        clear c0
        go_wp2_with (first | (go_at_call 76; (with_reducible refine (lr_slow g _ _ H.out.row).mono ?_); rintro e wr ⟨rfl, hb⟩; rw [show decide (s.win < s.thresh) = true from c0b]; replace H := Aside0.mk (H.out.below hb); clear hb) | fail)
        go_meet
        exact ⟨rfl, H⟩
      · have c0b : decide (s.win < s.thresh) = false := decide_eq_false c0
        rw [c0b] at hb; obtain rfl : false = b := hb
        clear c0
        go_wp2_with (first | (go_at_call 76; (with_reducible refine (lr_slow g _ _ H.out.row).mono ?_); rintro e wr ⟨rfl, hb⟩; rw [show decide (s.win < s.thresh) = false from c0b]; replace H := Aside0.mk (H.out.below hb); clear hb) | fail)
        go_meet
        exact ⟨rfl, H⟩
    · obtain rfl : false = b := hb
      go_wp2
      go_meet
      exact ⟨rfl, H⟩
  case rest =>
    obtain ⟨rfl, H⟩ := hcut
    clear hRd hb
    go_upto_if 54 with fail
    go_cut [0] (fun v0 wc => v0 = .pointer (some ⟨g, 0, none⟩) ∧ Aside0 (StL g (some be) #[.int .i64 ek, .int .i64 ea, .int .i64 eb, .int .i64 er] wm { s with sent := f1, told := f2, out := f3, back := 0, has := r1, mean := r2, far := r3, lv := y.val, rid := q1, rend := q2, hlast := e1, hleast := e2, hmany := e3, hgentle := e4, hdone := e5, hbase := e6, hrounds := e7 } wc))
    case first =>
      obtain rfl | rfl := Bool.eq_false_or_eq_true b
      · have hh := Aside0.mk (hH.out rfl)
        have hu44 := Tryz.underlying44
        go_wp2_with (first | (refine ldW 44 59 60 (ldHystart _) H ?_) | (go_at_call 88; (with_reducible refine (hh.out _).mono ?_); rintro e wr ⟨rfl, hb⟩; replace H := Aside0.mk (H.out.below hb); clear hb) | (go_at_call 87; (with_reducible refine (got_hystart e1 e2 e3 e4 e5 e6 e7 c5 _).mono ?_); rintro e wr ⟨hb, ⟨h0, rfl⟩ | ⟨h0, rfl⟩⟩ <;> replace H := Aside0.mk (H.out.below hb) <;> clear hb; rotate_left; exact ⟨rfl, HW0.out.trans H.out.wr, .inr ⟨hZ (.inr (.inl h0)), _, h0, rfl⟩⟩) | (refine stW 44 67 (.tmp 64) (sdHystart _ e1 e2 e3 e4 e5 e6 e7) H ?_; clear H; intro _ H) | fail)
        go_meet
        exact ⟨rfl, H⟩
      · obtain ⟨rfl, rfl, rfl, rfl, rfl, rfl, rfl⟩ := hH'.out rfl
        go_wp2
        go_meet
        exact ⟨rfl, H⟩
    case rest =>
      obtain ⟨rfl, H⟩ := hcut
      clear hH hH'
      by_cases c0 : wrap64 (f1 - f3) < s.recov
      · have c0b : decide (wrap64 (f1 - f3) < s.recov) = true := decide_eq_true c0
        have HR := Aside0.mk (hR0.out (.inl c0))
        clear c0
        go_wp2_with (first | (go_at_call 89; (with_reducible refine (lr_recovers g _ _ H.out.row).mono ?_); rintro e wr ⟨rfl, hb⟩; rw [show decide (wrap64 (f1 - f3) < s.recov) = true from c0b]; replace H := Aside0.mk (H.out.below hb); clear hb) | fail)
        refine bodyPost_ret (results_none rfl _ _ _) rfl ⟨HW0.out.trans H.out.wr, .inl ⟨K1.out, rfl, y, l', _, HL.out, HM.out.wr H.out.wr, HR.out y, H.out.row⟩⟩
      have c0b : decide (wrap64 (f1 - f3) < s.recov) = false := decide_eq_false c0
      by_cases cl : s.lim = true
      · have HR := Aside0.mk (hR0.out (.inr cl))
        have CL := Aside0.mk cl
        clear c0 cl
        go_wp2_with (first | (go_at_call 89; (with_reducible refine (lr_recovers g _ _ H.out.row).mono ?_); rintro e wr ⟨rfl, hb⟩; rw [show decide (wrap64 (f1 - f3) < s.recov) = false from c0b]; replace H := Aside0.mk (H.out.below hb); clear hb; have z38 := H.out.z 38 (.bool true) (by rw [← CL.out]; rfl)) | fail)
        refine bodyPost_ret (results_none rfl _ _ _) rfl ⟨HW0.out.trans H.out.wr, .inl ⟨K1.out, rfl, y, l', _, HL.out, HM.out.wr H.out.wr, HR.out y, H.out.row⟩⟩
      have CN := Aside0.mk (show ¬ (wrap64 (f1 - f3) < s.recov ∨ s.lim = true) from fun h => h.elim c0 cl)
      have CL := Aside0.mk (show s.lim = false by simpa using cl)
      clear c0 cl
      go_upto_region 9 with (first | (go_at_call 89; (with_reducible refine (lr_recovers g _ _ H.out.row).mono ?_); rintro e wr ⟨rfl, hb⟩; rw [show decide (wrap64 (f1 - f3) < s.recov) = false from c0b]; replace H := Aside0.mk (H.out.below hb); clear hb; have z38 := H.out.z 38 (.bool false) (by rw [← CL.out]; rfl)) | fail)
      clear z38 c0b
      refine rgL #[N,N,N,N,N,N,N,N,N,N,N,N,N] [] H ?_; clear H; intro _ H
      refine eL 0 77 78 #[Y,Y,N,N,N,N,N,N,N,N,N,N,N] (ldE (c := 2) (n := eb)) H ?_
      refine fM 2 79 80 81 82 83 84 #[Y,Y,Y,Y,Y,Y,Y,Y,N,N,N,N,N] 0 0 33 0 (ldI (c := 0) (n := s.seg)) H ?_
      refine cL 8 (some 85) #[Y,Y,Y,Y,Y,Y,Y,Y,Y,N,N,N,N] Tryz.func90 H (frac_SegsS.calls eb s.seg td c6 _ hS.out) ?_; clear H; intro _ H
      refine pL 9 (some 86) #[Y,Y,Y,Y,Y,Y,Y,Y,Y,Y,N,N,N] ?_
      refine pL 10 (some 87) #[Y,Y,Y,Y,Y,Y,Y,Y,Y,Y,Y,N,N] ?_
      refine gL0 11 (some 88) #[Y,Y,Y,Y,Y,Y,Y,Y,Y,Y,Y,Y,N] Tryz.func32 H (got_int (.int .i64 td) c6 _) (fun h S => ⟨rfl, HW0.out.trans S.wr, .inr ⟨hZ (.inr (.inr h)), _, h, rfl⟩⟩) ?_; intro _
      refine pL 12 (some 5) #[Y,Y,Y,Y,Y,Y,Y,Y,Y,Y,Y,Y,Y] ?_
      refine done_ (by kernel_rfl) ?_
      by_cases c0 : s.win < s.thresh
      · have c0b : decide (s.win < s.thresh) = true := decide_eq_true c0
        have HR := Aside0.mk (hR1.out CN.out c0)
        clear c0
        go_upto_region 11 with (first | (go_at_call 76; (with_reducible refine (lr_slow g _ _ H.out.row).mono ?_); rintro e wr ⟨rfl, hb⟩; rw [show decide (s.win < s.thresh) = true from c0b]; replace H := Aside0.mk (H.out.below hb); clear hb) | fail)
        clear c0b
        refine rgL #[N,N,N,N,N,N,N,N,N,N,N,N,N,N,N,N,N,N,N,N,N,N,N,N,N] [24] H ?_; clear H; intro _ H
        refine pL 0 (some 91) #[Y,N,N,N,N,N,N,N,N,N,N,N,N,N,N,N,N,N,N,N,N,N,N,N,N] ?_
        refine fL 1 92 93 94 95 96 #[Y,Y,Y,Y,Y,Y,N,N,N,N,N,N,N,N,N,N,N,N,N,N,N,N,N,N,N] 3 (ldI (c := 9) (n := s.win)) H ?_
        refine pL 6 (some 97) #[Y,Y,Y,Y,Y,Y,Y,N,N,N,N,N,N,N,N,N,N,N,N,N,N,N,N,N,N] ?_
        refine fL 7 98 99 100 101 102 #[Y,Y,Y,Y,Y,Y,Y,Y,Y,Y,Y,Y,N,N,N,N,N,N,N,N,N,N,N,N,N] 10 (ldHystart _) H ?_
        refine fM 13 104 105 106 107 108 109 #[Y,Y,Y,Y,Y,Y,Y,Y,Y,Y,Y,Y,N,Y,Y,Y,Y,Y,Y,N,N,N,N,N,N] 0 0 33 1 (ldI (c := 1) (n := s.mx)) H ?_
        refine pL 19 (some 110) #[Y,Y,Y,Y,Y,Y,Y,Y,Y,Y,Y,Y,N,Y,Y,Y,Y,Y,Y,Y,N,N,N,N,N] ?_
        refine cL 12 (some 103) #[Y,Y,Y,Y,Y,Y,Y,Y,Y,Y,Y,Y,Y,Y,Y,Y,Y,Y,Y,Y,N,N,N,N,N] Tryz.func92 H (grow_Slow.calls s.win td e1 e2 e3 e4 e5 e6 e7 G _ hG.out) ?_; clear H; intro _ H
        refine cL 20 (some 111) #[Y,Y,Y,Y,Y,Y,Y,Y,Y,Y,Y,Y,Y,Y,Y,Y,Y,Y,Y,Y,Y,N,N,N,N] Tryz.func91 H (grow_LimitS.calls G _ W2 _ hL.out) ?_; clear H; intro _ H
        refine nL 21 112 113 114 #[Y,Y,Y,Y,Y,Y,Y,Y,Y,Y,Y,Y,Y,Y,Y,Y,Y,Y,Y,Y,Y,Y,Y,Y,N] 3 9 ?_
        refine sL (s' := { s with win := W2, sent := f1, told := f2, out := f3, has := r1, mean := r2, far := r3, lv := y.val, rid := q1, rend := q2, hlast := e1, hleast := e2, hmany := e3, hgentle := e4, hdone := e5, hbase := e6, hrounds := e7, back := 0 }) 24 #[Y,Y,Y,Y,Y,Y,Y,Y,Y,Y,Y,Y,Y,Y,Y,Y,Y,Y,Y,Y,Y,Y,Y,Y,Y] (sdI (c := 9) (n := W2)) H ?_; clear H; intro _ H
        refine done_ (by kernel_rfl) ?_
        obtain rfl | rfl := Bool.eq_false_or_eq_true e5
        · go_wp2_with (first | (refine ldW 4 119 120 (ldB (c := 25) (n := true)) H ?_) | (refine ldW 3 125 126 (ldI (c := 9) (n := W2)) H ?_) | (refine stW 3 129 (.tmp 126) (sdI (c := 10) (n := W2) (s' := { s with win := W2, thresh := W2, sent := f1, told := f2, out := f3, has := r1, mean := r2, far := r3, lv := y.val, rid := q1, rend := q2, hlast := e1, hleast := e2, hmany := e3, hgentle := e4, hdone := true, hbase := e6, hrounds := e7, back := 0 })) H ?_; clear H; intro _ H) | fail)
          refine bodyPost_ret (results_none rfl _ _ _) rfl ⟨HW0.out.trans H.out.wr, .inl ⟨K1.out, rfl, y, l', _, HL.out, HM.out.wr H.out.wr, HR.out y, H.out.row⟩⟩
        · go_wp2_with (first | (refine ldW 4 119 120 (ldB (c := 25) (n := false)) H ?_) | fail)
          refine bodyPost_ret (results_none rfl _ _ _) rfl ⟨HW0.out.trans H.out.wr, .inl ⟨K1.out, rfl, y, l', _, HL.out, HM.out.wr H.out.wr, HR.out y, H.out.row⟩⟩
      · have c0b : decide (s.win < s.thresh) = false := decide_eq_false c0
        have hk := Aside0.mk (hK.out CN.out (by omega))
        clear c0
        go_wp2_with (first | (go_at_call 76; (with_reducible refine (lr_slow g _ _ H.out.row).mono ?_); rintro e wr ⟨rfl, hb⟩; rw [show decide (s.win < s.thresh) = false from c0b]; replace H := Aside0.mk (H.out.below hb); clear hb; have y0 := H.out.y 0 (.int .i64 ek) rfl; have y1 := H.out.y 1 (.int .i64 ea) rfl; have y2 := H.out.y 2 (.int .i64 eb) rfl; have y3 := H.out.y 3 (.int .i64 er) rfl) | (go_at_call 93; (with_reducible refine (hk.out _ y H.out.row (HW0.out.trans H.out.wr)).mono ?_); rintro e wz ⟨hw, ⟨rfl, t, ht, hr⟩ | ⟨hz, n, hn, rfl⟩⟩; rotate_left; exact ⟨rfl, HW0.out.trans (H.out.wr.trans hw), .inr ⟨hz, n, hn, rfl⟩⟩) | fail)
        go_end0
        exact ⟨HW0.out.trans (H.out.wr.trans hw), .inl ⟨K1.out, rfl, y, l', t, HL.out, HM.out.wr (H.out.wr.trans hw), ht, hr⟩⟩
end Go.Proofs.YtfahbgkoldoflaaGreatDoor.Px
