/- By hand. Conditions: none beside the theorems' own. -/
import Derived.Test.YtfahbgkoldoflaaGreatDoorPx0
import Derived.Test.YtfahbgkoldoflaaGreatDoorPx6
import Derived.Test.YtfahbgkoldoflaaGreatDoorPx7
import Derived.Test.YtfahbgkoldoflaaGreatDoorPx8
import Derived.Test.YtfahbgkoldoflaaGreatDoorPx10
import Derived.Test.YtfahbgkoldoflaaGreatDoorPx12
import Derived.Test.YtfahbgkoldoflaaGreatDoorPx20
import Derived.Test.YtfahbgkoldoflaaGreatDoorPx24
import Derived.Test.YtfahbgkoldoflaaGreatDoorPx26
import Derived.Test.YtfahbgkoldoflaaGreatDoorPx28
namespace Go.Proofs.YtfahbgkoldoflaaGreatDoor.Px
open Go.RowKit Go.Proofs.YtfahbgkoldoflaaGreatDoorW.PrintWords Go.Proofs.YtfahbgkoldoflaaGreatDoorW.PrintLast Go.Proofs.YtfahbgkoldoflaaGreatDoorW.PrintMore
attribute [local go_sem] max2_int min2_int max_two min_two max_three min_three max_four min_four   -- for this text's walks alone
set_option linter.unusedVariables false
set_option linter.unusedSimpArgs false

/-! ### top_check: function 30 -/
/-! top: by hand -/
theorem between_b (a b c : Int) (r : Bool) (W : World) (h : engine_between.f a b c = some r) : Calls Tryz.prog 64 #[.int .i64 a, .int .i64 b, .int .i64 c] W fun e w' => e = .returned (.bool r) ∧ Below W.heap.size W w' :=
  (engine_between.calls a b c r W h).mono fun e w' ⟨h1, nd, h2⟩ => ⟨h1, by rw [h2]; exact pw_below_drewN (Below.refl _ _) nd⟩
theorem clock_Check_b (a : Int) (r : Bool) (W : World) (h : clock_Check.f a = some r) : Calls Tryz.prog 61 #[.int .i64 a] W fun e w' => e = .returned (.bool r) ∧ Below W.heap.size W w' :=
  (clock_Check.calls a r W h).mono fun e w' ⟨h1, nd, h2⟩ => ⟨h1, by rw [h2]; exact pw_below_drewN (Below.refl _ _) nd⟩
/-- A connection that may be. -/
structure LnFine (s : Ln) (l : List S119) : Prop where
  cfg : guide_Check.f s.seg s.mx s.fst s.grain s.least s.great s.burst = some 0
  now : clock_Check.f s.now = some true
  last : engine_between.f s.last 0 s.now = some true
  win : engine_between.f s.win 131072 (wrap64 (s.mx * 65536)) = some true
  thresh : engine_between.f s.thresh 131072 68719476736 = some true
  high : engine_between.f s.high 0 68719476736 = some true
  flight : flight_Check.f s.sent s.told s.out = some true
  rtt : rtt_Check.f s.has s.mean s.far = some true
  least : ∀ (A : Option Addr) (c : Nat) (W : World), Kd.C k119 W A l.length l → l.length ≤ c → Calls Tryz.prog 67 #[.slice A l.length c] W fun e w' => e = .returned (.bool true) ∧ Below W.heap.size W w'
  late : firstIx (fun m => decide (m.f0 > s.now) || !(decide (m.f1 ≥ 1) && decide (m.f1 ≤ 1073741824))) l = -1
  round : round_Check.f s.rid s.rend = some true
  hystart : ∀ W : World, Calls Tryz.prog 70 #[.agg #[.int .i64 s.hlast, .int .i64 s.hleast, .int .i64 s.hmany, .bool s.hgentle, .bool s.hdone, .int .i64 s.hbase, .int .i64 s.hrounds]] W fun e w' => e = .returned (.bool true) ∧ Below W.heap.size W w'
  epoch : epoch_CheckS.f s.eon s.estart s.efirst s.emax s.ek s.eest = some true
  bucket : bucket_CheckS.f s.bat s.bhave = some true
  bat : decide (s.bat > s.now) = false
  recov : engine_between.f s.recov 0 s.sent = some true
  back : engine_between.f s.back 0 64 = some true
set_option maxRecDepth 100000 in
set_option maxHeartbeats 4000000 in
theorem engine_Check_true (s : Ln) (l : List S119) (A : Option Addr) (c : Nat) (w : World) (hF : LnFine s l) (hs : s.lv = .slice A l.length c) (hC : Kd.C k119 w A l.length l) (hc : l.length ≤ c) (hl : l.length ≤ 1000000) (hL : Tens w) :
    Calls Tryz.prog 30 #[.agg s.cells] w fun e w' => e = .returned (.bool true) ∧ Below w.heap.size w w' := by
  have HB := Aside0.mk (Below.refl w.heap.size w)
  have hmf : ∀ (fn : Fn) (first cap : Array Value) (w : World), (Instr.makeFunc fn first cap).run Tryz.prog w = .ok (.func fn first cap) w := fun _ _ _ _ => rfl
  have HF := Aside0.mk hF
  have HC := Aside0.mk hC
  have HS := Aside0.mk hs
  have HL := Aside0.mk hl
  have HLv : Aside0 (s.cells[18]? = some (.slice A l.length c)) := ⟨by rw [← hs]; rfl⟩
  have HCc := Aside0.mk hc
  have HT := Aside0.mk hL
  clear hF hC hs hl hc hL
  go_enter Tryz.func30, Tryz.ntmps30
  go_upto_region 2 with (first | ((with_reducible refine gate_dst (N := 1) rfl ?_); refine new_box rfl 48 (.tmp 0) rfl (some 1) rfl s.cells rfl (run_box48 _ _) ?_; intro b1 hg wb hbox hb; have B1 := Aside0.mk hbox; obtain ⟨G1, nHB⟩ := geA hg hb; replace HB := nHB; clear nHB hg hb hbox) | fail)
  have z0 := czZ B1 0 (.int .i64 s.seg)
  have z1 := czZ B1 1 (.int .i64 s.mx)
  have z2 := czZ B1 2 (.int .i64 s.fst)
  have z3 := czZ B1 3 (.int .i64 s.grain)
  have z4 := czZ B1 4 (.int .i64 s.least)
  have z5 := czZ B1 5 (.int .i64 s.great)
  have z6 := czZ B1 6 (.int .i64 s.burst)
  go_upto_region 3 with (first | (go_at_call 25; (with_reducible refine (guide_Check.calls s.seg s.mx s.fst s.grain s.least s.great s.burst 0 _ HF.out.cfg).mono ?_); rintro e w20 ⟨rfl, hb9⟩; clear z0 z1 z2 z3 z4 z5 z6; replace B1 := bbZ B1 hb9; replace HB := Aside0.mk (below_step HB.out hb9); clear hb9) | fail)
  have z7 := czZ B1 7 (.int .i64 s.now)
  go_upto_region 4 with (first | (go_at_call 61; (with_reducible refine (clock_Check_b s.now true _ HF.out.now).mono ?_); rintro e w30 ⟨rfl, hb9⟩; clear z7; replace B1 := bbZ B1 hb9; replace HB := Aside0.mk (below_step HB.out hb9); clear hb9) | fail)
  have z7 := czZ B1 7 (.int .i64 s.now)
  have z8 := czZ B1 8 (.int .i64 s.last)
  go_upto_region 6 with (first | (go_at_call 64; (with_reducible refine (between_b s.last 0 s.now true _ HF.out.last).mono ?_); rintro e w40 ⟨rfl, hb9⟩; clear z7 z8; replace B1 := bbZ B1 hb9; replace HB := Aside0.mk (below_step HB.out hb9); clear hb9) | fail)
  have z9 := czZ B1 9 (.int .i64 s.win)
  have z1 := czZ B1 1 (.int .i64 s.mx)
  go_upto_region 7 with (first | (go_at_call 64; (with_reducible refine (between_b s.win 131072 (wrap64 (s.mx * 65536)) true _ HF.out.win).mono ?_); rintro e w60 ⟨rfl, hb9⟩; clear z9 z1; replace B1 := bbZ B1 hb9; replace HB := Aside0.mk (below_step HB.out hb9); clear hb9) | fail)
  have z10 := czZ B1 10 (.int .i64 s.thresh)
  go_upto_region 8 with (first | (go_at_call 64; (with_reducible refine (between_b s.thresh 131072 68719476736 true _ HF.out.thresh).mono ?_); rintro e w70 ⟨rfl, hb9⟩; clear z10; replace B1 := bbZ B1 hb9; replace HB := Aside0.mk (below_step HB.out hb9); clear hb9) | fail)
  have z11 := czZ B1 11 (.int .i64 s.high)
  go_upto_region 10 with (first | (go_at_call 64; (with_reducible refine (between_b s.high 0 68719476736 true _ HF.out.high).mono ?_); rintro e w80 ⟨rfl, hb9⟩; clear z11; replace B1 := bbZ B1 hb9; replace HB := Aside0.mk (below_step HB.out hb9); clear hb9) | fail)
  have z12 := czZ B1 12 (.int .i64 s.sent)
  have z13 := czZ B1 13 (.int .i64 s.told)
  have z14 := czZ B1 14 (.int .i64 s.out)
  go_upto_region 11 with (first | (go_at_call 65; (with_reducible refine (flight_Check.calls s.sent s.told s.out true _ HF.out.flight).mono ?_); rintro e w100 ⟨rfl, hb9⟩; clear z12 z13 z14; replace B1 := bbZ B1 hb9; replace HB := Aside0.mk (below_step HB.out hb9); clear hb9) | fail)
  have z15 := czZ B1 15 (.bool s.has)
  have z16 := czZ B1 16 (.int .i64 s.mean)
  have z17 := czZ B1 17 (.int .i64 s.far)
  go_upto_region 12 with (first | (go_at_call 66; (with_reducible refine (rtt_Check.calls s.has s.mean s.far true _ HF.out.rtt).mono ?_); rintro e w110 ⟨rfl, hb9⟩; clear z15 z16 z17; replace B1 := bbZ B1 hb9; replace HB := Aside0.mk (below_step HB.out hb9); clear hb9) | fail)
  have z18 := czZ B1 18 (.slice A l.length c) HLv.out
  go_upto_region 13 with (first | (go_at_call 67; (with_reducible refine (HF.out.least A c _ (Kd.C_below HC.out HB.out) HCc.out).mono ?_); rintro e w120 ⟨rfl, hb9⟩; clear z18; replace B1 := bbZ B1 hb9; replace HB := Aside0.mk (below_step HB.out hb9); clear hb9) | fail)
  have HX := Aside0.mk (marks_contains (fun m => decide (m.f0 > s.now) || !(decide (m.f1 ≥ 1) && decide (m.f1 ≤ 1073741824))) 63 Tryz.f63 Tryz.func63 rfl (by kernel_rfl) #[.pointer (some ⟨b1, 0, none⟩)] A c l w120 (Kd.C_below HC.out HB.out) ⟨by have := HL.out; omega⟩ (fun W m hb => check_late b1 s.cells s.now m W (blk_below B1.out hb) rfl))
  rw [HF.out.late] at HX
  have HX : Aside0 (Calls Tryz.prog 68 #[.slice A l.length c, .func (.func 63) #[] #[.pointer (some ⟨b1, 0, none⟩)]] w120 fun e w' => e = .returned (.bool false) ∧ Below (World.heap w120).size w120 w') := HX
  have z18 := czZ B1 18 (.slice A l.length c) HLv.out
  go_upto_region 15 with (first | (go_at_call 68; (with_reducible refine (HX.out).mono ?_); rintro e w130 ⟨rfl, hb9⟩; clear z18; replace B1 := bbZ B1 hb9; replace HB := Aside0.mk (below_step HB.out hb9); clear hb9) | fail)
  clear HX
  have z19 := czZ B1 19 (.int .i64 s.rid)
  have z20 := czZ B1 20 (.int .i64 s.rend)
  go_upto_region 16 with (first | (go_at_call 69; (with_reducible refine (round_Check.calls s.rid s.rend true _ HF.out.round).mono ?_); rintro e w150 ⟨rfl, hb9⟩; clear z19 z20; replace B1 := bbZ B1 hb9; replace HB := Aside0.mk (below_step HB.out hb9); clear hb9) | fail)
  have z21 := czZ B1 21 (.int .i64 s.hlast)
  have z22 := czZ B1 22 (.int .i64 s.hleast)
  have z23 := czZ B1 23 (.int .i64 s.hmany)
  have z24 := czZ B1 24 (.bool s.hgentle)
  have z25 := czZ B1 25 (.bool s.hdone)
  have z26 := czZ B1 26 (.int .i64 s.hbase)
  have z27 := czZ B1 27 (.int .i64 s.hrounds)
  go_upto_region 17 with (first | (go_at_call 70; (with_reducible refine (HF.out.hystart _).mono ?_); rintro e w160 ⟨rfl, hb9⟩; clear z21 z22 z23 z24 z25 z26 z27; replace B1 := bbZ B1 hb9; replace HB := Aside0.mk (below_step HB.out hb9); clear hb9) | fail)
  have z28 := czZ B1 28 (.bool s.eon)
  have z29 := czZ B1 29 (.int .i64 s.estart)
  have z30 := czZ B1 30 (.int .i64 s.efirst)
  have z31 := czZ B1 31 (.int .i64 s.emax)
  have z32 := czZ B1 32 (.int .i64 s.ek)
  have z33 := czZ B1 33 (.int .i64 s.eest)
  go_upto_region 18 with (first | (go_at_call 53; (with_reducible refine (epoch_CheckS.calls s.eon s.estart s.efirst s.emax s.ek s.eest true _ HF.out.epoch (tensB HT.out HB.out)).mono ?_); rintro e w170 ⟨rfl, hb9⟩; clear z28 z29 z30 z31 z32 z33; replace B1 := bbZ B1 hb9; replace HB := Aside0.mk (below_step HB.out hb9); clear hb9) | fail)
  have z36 := czZ B1 36 (.int .i64 s.bat)
  have z37 := czZ B1 37 (.int .i64 s.bhave)
  go_upto_region 19 with (first | (go_at_call 71; (with_reducible refine (bucket_CheckS.calls s.bat s.bhave true _ HF.out.bucket).mono ?_); rintro e w180 ⟨rfl, hb9⟩; clear z36 z37; replace B1 := bbZ B1 hb9; replace HB := Aside0.mk (below_step HB.out hb9); clear hb9) | fail)
  have d1 := HF.out.bat
  have z36 := czZ B1 36 (.int .i64 s.bat)
  have z7 := czZ B1 7 (.int .i64 s.now)
  go_upto_region 21 with fail
  clear z36 z7 d1
  have z34 := czZ B1 34 (.int .i64 s.recov)
  have z12 := czZ B1 12 (.int .i64 s.sent)
  have z35 := czZ B1 35 (.int .i64 s.back)
  go_wp2_with (first | (go_at_call 64; (with_reducible refine (between_b s.recov 0 s.sent true _ HF.out.recov).mono ?_); rintro e w210 ⟨rfl, hb9⟩; clear z34 z12 z35; replace B1 := bbZ B1 hb9; replace HB := Aside0.mk (below_step HB.out hb9); clear hb9; have z34 := czZ B1 34 (.int .i64 s.recov); have z12 := czZ B1 12 (.int .i64 s.sent); have z35 := czZ B1 35 (.int .i64 s.back)) | (go_at_call 64; (with_reducible refine (between_b s.back 0 64 true _ HF.out.back).mono ?_); rintro e w211 ⟨rfl, hb9⟩; clear z34 z12 z35; replace B1 := bbZ B1 hb9; replace HB := Aside0.mk (below_step HB.out hb9); clear hb9) | fail)
  go_ret
  exact ⟨rfl, HB.out⟩

end Go.Proofs.YtfahbgkoldoflaaGreatDoor.Px
