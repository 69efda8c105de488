/- The engine, by hand: part B. Conditions: none beside the theorems' own. -/
import Derived.Test.YtfahbgkoldoflaaGreatDoorEngA
import Derived.Test.YtfahbgkoldoflaaGreatDoorPx11
import Derived.Test.YtfahbgkoldoflaaGreatDoorPx12
import Derived.Test.YtfahbgkoldoflaaGreatDoorPx13
import Derived.Test.YtfahbgkoldoflaaGreatDoorPx16
namespace Go.Proofs.YtfahbgkoldoflaaGreatDoor.Px
open Go.RowKit Go.Proofs.YtfahbgkoldoflaaGreatDoorW.PrintWords Go.Proofs.YtfahbgkoldoflaaGreatDoorW.PrintLast Go.Proofs.YtfahbgkoldoflaaGreatDoorW.PrintMore
attribute [local go_sem] max2_int min2_int max_two min_two max_three min_three max_four min_four
set_option linter.unusedVariables false
set_option linter.unusedSimpArgs false
section
/-! ### Maps of whole numbers that a function makes for itself: each 'insert' adds an entry behind; a lookup finds it -/
section
open Go.MapKept
variable {P : Program} {ops : Array Oper} {rest : List Oper} {o : Oper} {a : Act} {W : World} {Q : Exit → Act → World → Prop}
theorem run_missed {t kt et : TypeId} {r n : Nat} {es : Array MapEntry} {k : Int} {z : Value} (ht : P.underlying t = some (.map kt et)) (hk : P.underlying kt = some (.int .i64)) (hr : W.heap[r]? = some (.map es n)) (hn : Instr.findNow (.int .i64) (.int .i64 k) es.toList 0 = some none) (hz : (zeroValue et).run P W = .ok z W) :
    (Instr.lookup t (.map (some r)) (.int .i64 k) true).run P W = .ok (.tuple #[z, .bool false]) W := by
  simp [Instr.lookup, run_underlying ht, MapKept.run_getObj_map hr, MapKept.run_checkKey hk (k := .int .i64 k) rfl, MapKept.run_findKey hk hn, Result.andThen, hz]
end
def kinds_map : Array MapEntry := #[⟨.int .i64 1, .func (.func 116) #[] #[], 0⟩, ⟨.int .i64 2, .func (.func 117) #[] #[], 1⟩, ⟨.int .i64 6, .func (.func 117) #[] #[], 2⟩, ⟨.int .i64 3, .func (.func 118) #[] #[], 3⟩, ⟨.int .i64 4, .func (.func 118) #[] #[], 4⟩, ⟨.int .i64 5, .func (.func 118) #[] #[], 5⟩, ⟨.int .i64 7, .func (.func 118) #[] #[], 6⟩]
end
theorem calls_b {f : FuncId} {args : Array Value} {w : World} {x r : Bool} (h : x = r) (c : Calls Tryz.prog f args w fun e w' => e = .returned (.bool x) ∧ Below w.heap.size w w') : Calls Tryz.prog f args w fun e w' => e = .returned (.bool r) ∧ Below w.heap.size w w' := h ▸ c
theorem between_b (a b c : Int) (r : Bool) (W : World) (h : engine_between.f a b c = some r) : Calls Tryz.prog 64 #[.int .i64 a, .int .i64 b, .int .i64 c] W fun e W' => e = .returned (.bool r) ∧ Below W.heap.size W W' :=
  (engine_between.calls a b c r W h).mono fun e w' ⟨h1, nd, h2⟩ => ⟨h1, by rw [h2]; exact pw_below_drewN (Below.refl _ _) nd⟩
theorem clock_Check_b (a : Int) (r : Bool) (W : World) (h : clock_Check.f a = some r) : Calls Tryz.prog 61 #[.int .i64 a] W fun e W' => e = .returned (.bool r) ∧ Below W.heap.size W W' :=
  (clock_Check.calls a r W h).mono fun e w' ⟨h1, nd, h2⟩ => ⟨h1, by rw [h2]; exact pw_below_drewN (Below.refl _ _) nd⟩
set_option maxRecDepth 100000 in
set_option maxHeartbeats 8000000 in
theorem check_w (s : Ln) (A : Option Addr) (c : Nat) (l : List S119) (n0 : Int) (b1 b2 b3 b4 b5 b6 b7 b8 b9 b10 b11 b12 b13 b14 b15 b16 : Bool) (w : World) (hC : Kd.C k119 w A l.length l) (hl : l.length ≤ 1000000) (hL : Tens w)
    (h0 : Aside0 (guide_Check.f s.seg s.mx s.fst s.grain s.least s.great s.burst = some n0))
    (h1 : Aside0 (clock_Check.f s.now = some b1))
    (h2 : Aside0 (engine_between.f s.last 0 s.now = some b2))
    (h3 : Aside0 (engine_between.f s.win 131072 (wrap64 (s.mx * 65536)) = some b3))
    (h4 : Aside0 (engine_between.f s.thresh 131072 68719476736 = some b4))
    (h5 : Aside0 (engine_between.f s.high 0 68719476736 = some b5))
    (h6 : Aside0 (flight_Check.f s.sent s.told s.out = some b6))
    (h7 : Aside0 (rtt_Check.f s.has s.mean s.far = some b7))
    (h8 : Aside0 (leastOk l = b8))
    (h9 : Aside0 (decide (firstIx (fun m => decide (m.f0 > s.now) || !(decide (m.f1 ≥ 1) && decide (m.f1 ≤ 1073741824))) l ≥ 0) = !b9))
    (h10 : Aside0 (round_Check.f s.rid s.rend = some b10))
    (h11 : Aside0 (hyCheck s.hlast s.hleast s.hmany s.hgentle s.hdone s.hbase s.hrounds = b11))
    (h12 : Aside0 (epoch_CheckS.f s.eon s.estart s.efirst s.emax s.ek s.eest = some b12))
    (h13 : Aside0 (bucket_CheckS.f s.bat s.bhave = some b13))
    (h14 : Aside0 (decide (s.bat > s.now) = !b14))
    (h15 : Aside0 (engine_between.f s.recov 0 s.sent = some b15))
    (h16 : Aside0 (engine_between.f s.back 0 64 = some b16)) :
    Calls Tryz.prog 30 #[.agg (s.at ⟨A, l.length, c⟩).cells] w fun e w' => e = .returned (.bool ((n0 == 0) && (b1 && (b2 && (b3 && (b4 && (b5 && (b6 && (b7 && (b8 && (b9 && (b10 && (b11 && (b12 && (b13 && (b14 && (b15 && (b16)))))))))))))))))) ∧ Below w.heap.size w w' := by
  have H := Aside0.mk (Bx.start w)
  have hmf : ∀ (fn : Fn) (first cap : Array Value) (w : World), (Instr.makeFunc fn first cap).run Tryz.prog w = .ok (.func fn first cap) w := fun _ _ _ _ => rfl
  have HC := Aside0.mk hC
  have HL := Aside0.mk hl
  have HT := Aside0.mk hL
  clear hC hl hL
  obtain ⟨b0, hb0⟩ : ∃ b, (n0 == 0) = b := ⟨_, rfl⟩
  rw [hb0]
  have hb0' : (n0 != 0) = !b0 := by rw [← hb0]; rfl
  go_enter Tryz.func30, Tryz.ntmps30
  go_upto_region 2 with (first | ((with_reducible refine gate_dst (N := 1) rfl ?_); refine bxB 1 48 (.tmp 0) (cs := (s.at ⟨A, l.length, c⟩).cells) H ?_ (hx := by rfl) (hrun := run_box48 _); clear H; intro b1_ _ H) | fail)
  have z0 := H.out.z 0 0 (.int .i64 s.seg); have z1 := H.out.z 0 1 (.int .i64 s.mx); have z2 := H.out.z 0 2 (.int .i64 s.fst); have z3 := H.out.z 0 3 (.int .i64 s.grain); have z4 := H.out.z 0 4 (.int .i64 s.least); have z5 := H.out.z 0 5 (.int .i64 s.great); have z6 := H.out.z 0 6 (.int .i64 s.burst)
  obtain rfl | rfl := Bool.eq_false_or_eq_true b0
  rotate_left
  · go_wp2_with (first | (go_at_call 25; (with_reducible refine (guide_Check.calls s.seg s.mx s.fst s.grain s.least s.great s.burst n0 _ h0.out).mono ?_); rintro e w9 ⟨rfl, hb⟩; clear z0 z1 z2 z3 z4 z5 z6; replace H := Aside0.mk (H.out.below hb); clear hb) | fail)
    go_ret
    exact ⟨rfl, H.out.lo⟩
  go_upto_region 3 with (first | (go_at_call 25; (with_reducible refine (guide_Check.calls s.seg s.mx s.fst s.grain s.least s.great s.burst n0 _ h0.out).mono ?_); rintro e w9 ⟨rfl, hb⟩; clear z0 z1 z2 z3 z4 z5 z6; replace H := Aside0.mk (H.out.below hb); clear hb) | fail)
  clear hb0 hb0'
  have z7 := H.out.z 0 7 (.int .i64 s.now)
  obtain rfl | rfl := Bool.eq_false_or_eq_true b1
  rotate_left
  · go_wp2_with (first | (go_at_call 61; (with_reducible refine (clock_Check_b s.now _ _ h1.out).mono ?_); rintro e w9 ⟨rfl, hb⟩; clear z7; replace H := Aside0.mk (H.out.below hb); clear hb) | fail)
    go_ret
    exact ⟨rfl, H.out.lo⟩
  go_upto_region 4 with (first | (go_at_call 61; (with_reducible refine (clock_Check_b s.now _ _ h1.out).mono ?_); rintro e w9 ⟨rfl, hb⟩; clear z7; replace H := Aside0.mk (H.out.below hb); clear hb) | fail)
  have z8 := H.out.z 0 8 (.int .i64 s.last); have z7 := H.out.z 0 7 (.int .i64 s.now)
  obtain rfl | rfl := Bool.eq_false_or_eq_true b2
  rotate_left
  · go_wp2_with (first | (go_at_call 64; (with_reducible refine (between_b s.last 0 s.now _ _ h2.out).mono ?_); rintro e w9 ⟨rfl, hb⟩; clear z8 z7; replace H := Aside0.mk (H.out.below hb); clear hb) | fail)
    go_ret
    exact ⟨rfl, H.out.lo⟩
  go_upto_region 6 with (first | (go_at_call 64; (with_reducible refine (between_b s.last 0 s.now _ _ h2.out).mono ?_); rintro e w9 ⟨rfl, hb⟩; clear z8 z7; replace H := Aside0.mk (H.out.below hb); clear hb) | fail)
  have z9 := H.out.z 0 9 (.int .i64 s.win); have z1 := H.out.z 0 1 (.int .i64 s.mx)
  obtain rfl | rfl := Bool.eq_false_or_eq_true b3
  rotate_left
  · go_wp2_with (first | (go_at_call 64; (with_reducible refine (between_b s.win 131072 (wrap64 (s.mx * 65536)) _ _ h3.out).mono ?_); rintro e w9 ⟨rfl, hb⟩; clear z9 z1; replace H := Aside0.mk (H.out.below hb); clear hb) | fail)
    go_ret
    exact ⟨rfl, H.out.lo⟩
  go_upto_region 7 with (first | (go_at_call 64; (with_reducible refine (between_b s.win 131072 (wrap64 (s.mx * 65536)) _ _ h3.out).mono ?_); rintro e w9 ⟨rfl, hb⟩; clear z9 z1; replace H := Aside0.mk (H.out.below hb); clear hb) | fail)
  have z10 := H.out.z 0 10 (.int .i64 s.thresh)
  obtain rfl | rfl := Bool.eq_false_or_eq_true b4
  rotate_left
  · go_wp2_with (first | (go_at_call 64; (with_reducible refine (between_b s.thresh 131072 68719476736 _ _ h4.out).mono ?_); rintro e w9 ⟨rfl, hb⟩; clear z10; replace H := Aside0.mk (H.out.below hb); clear hb) | fail)
    go_ret
    exact ⟨rfl, H.out.lo⟩
  go_upto_region 8 with (first | (go_at_call 64; (with_reducible refine (between_b s.thresh 131072 68719476736 _ _ h4.out).mono ?_); rintro e w9 ⟨rfl, hb⟩; clear z10; replace H := Aside0.mk (H.out.below hb); clear hb) | fail)
  have z11 := H.out.z 0 11 (.int .i64 s.high)
  obtain rfl | rfl := Bool.eq_false_or_eq_true b5
  rotate_left
  · go_wp2_with (first | (go_at_call 64; (with_reducible refine (between_b s.high 0 68719476736 _ _ h5.out).mono ?_); rintro e w9 ⟨rfl, hb⟩; clear z11; replace H := Aside0.mk (H.out.below hb); clear hb) | fail)
    go_ret
    exact ⟨rfl, H.out.lo⟩
  go_upto_region 10 with (first | (go_at_call 64; (with_reducible refine (between_b s.high 0 68719476736 _ _ h5.out).mono ?_); rintro e w9 ⟨rfl, hb⟩; clear z11; replace H := Aside0.mk (H.out.below hb); clear hb) | fail)
  have z12 := H.out.z 0 12 (.int .i64 s.sent); have z13 := H.out.z 0 13 (.int .i64 s.told); have z14 := H.out.z 0 14 (.int .i64 s.out)
  obtain rfl | rfl := Bool.eq_false_or_eq_true b6
  rotate_left
  · go_wp2_with (first | (go_at_call 65; (with_reducible refine (flight_Check.calls s.sent s.told s.out _ _ h6.out).mono ?_); rintro e w9 ⟨rfl, hb⟩; clear z12 z13 z14; replace H := Aside0.mk (H.out.below hb); clear hb) | fail)
    go_ret
    exact ⟨rfl, H.out.lo⟩
  go_upto_region 11 with (first | (go_at_call 65; (with_reducible refine (flight_Check.calls s.sent s.told s.out _ _ h6.out).mono ?_); rintro e w9 ⟨rfl, hb⟩; clear z12 z13 z14; replace H := Aside0.mk (H.out.below hb); clear hb) | fail)
  have z15 := H.out.z 0 15 (.bool s.has); have z16 := H.out.z 0 16 (.int .i64 s.mean); have z17 := H.out.z 0 17 (.int .i64 s.far)
  obtain rfl | rfl := Bool.eq_false_or_eq_true b7
  rotate_left
  · go_wp2_with (first | (go_at_call 66; (with_reducible refine (rtt_Check.calls s.has s.mean s.far _ _ h7.out).mono ?_); rintro e w9 ⟨rfl, hb⟩; clear z15 z16 z17; replace H := Aside0.mk (H.out.below hb); clear hb) | fail)
    go_ret
    exact ⟨rfl, H.out.lo⟩
  go_upto_region 12 with (first | (go_at_call 66; (with_reducible refine (rtt_Check.calls s.has s.mean s.far _ _ h7.out).mono ?_); rintro e w9 ⟨rfl, hb⟩; clear z15 z16 z17; replace H := Aside0.mk (H.out.below hb); clear hb) | fail)
  have z18 := H.out.z 0 18 (.slice A l.length c)
  obtain rfl | rfl := Bool.eq_false_or_eq_true b8
  rotate_left
  · go_wp2_with (first | (go_at_call 67; (with_reducible refine (calls_b h8.out (lcheck_w A c l _ (Kd.C_below HC.out H.out.lo) HL.out)).mono ?_); rintro e w9 ⟨rfl, hb⟩; clear z18; replace H := Aside0.mk (H.out.below hb); clear hb) | fail)
    go_ret
    exact ⟨rfl, H.out.lo⟩
  go_upto_region 13 with (first | (go_at_call 67; (with_reducible refine (calls_b h8.out (lcheck_w A c l _ (Kd.C_below HC.out H.out.lo) HL.out)).mono ?_); rintro e w9 ⟨rfl, hb⟩; clear z18; replace H := Aside0.mk (H.out.below hb); clear hb) | fail)
  have HX := Aside0.mk (marks_contains (fun m => decide (m.f0 > s.now) || !(decide (m.f1 ≥ 1) && decide (m.f1 ≤ 1073741824))) 63 Tryz.f63 Tryz.func63 rfl (by kernel_rfl) #[.pointer (some ⟨b1_, 0, none⟩)] A c l _ (Kd.C_below HC.out H.out.lo) ⟨by have := HL.out; omega⟩ (fun W m hb => check_late b1_ (s.at ⟨A, l.length, c⟩).cells s.now m W (blk_below (H.out.get 0 rfl) hb) rfl))
  rw [h9.out] at HX
  have z18 := H.out.z 0 18 (.slice A l.length c)
  obtain rfl | rfl := Bool.eq_false_or_eq_true b9
  rotate_left
  · go_wp2_with (first | (go_at_call 68; (with_reducible refine (HX.out).mono ?_); rintro e w9 ⟨rfl, hb⟩; clear z18; replace H := Aside0.mk (H.out.below hb); clear hb) | fail)
    go_ret
    exact ⟨rfl, H.out.lo⟩
  go_upto_region 15 with (first | (go_at_call 68; (with_reducible refine (HX.out).mono ?_); rintro e w9 ⟨rfl, hb⟩; clear z18; replace H := Aside0.mk (H.out.below hb); clear hb) | fail)
  have z19 := H.out.z 0 19 (.int .i64 s.rid); have z20 := H.out.z 0 20 (.int .i64 s.rend)
  obtain rfl | rfl := Bool.eq_false_or_eq_true b10
  rotate_left
  · go_wp2_with (first | (go_at_call 69; (with_reducible refine (round_Check.calls s.rid s.rend _ _ h10.out).mono ?_); rintro e w9 ⟨rfl, hb⟩; clear z19 z20; replace H := Aside0.mk (H.out.below hb); clear hb) | fail)
    go_ret
    exact ⟨rfl, H.out.lo⟩
  go_upto_region 16 with (first | (go_at_call 69; (with_reducible refine (round_Check.calls s.rid s.rend _ _ h10.out).mono ?_); rintro e w9 ⟨rfl, hb⟩; clear z19 z20; replace H := Aside0.mk (H.out.below hb); clear hb) | fail)
  have z21 := H.out.z 0 21 (.int .i64 s.hlast); have z22 := H.out.z 0 22 (.int .i64 s.hleast); have z23 := H.out.z 0 23 (.int .i64 s.hmany); have z24 := H.out.z 0 24 (.bool s.hgentle); have z25 := H.out.z 0 25 (.bool s.hdone); have z26 := H.out.z 0 26 (.int .i64 s.hbase); have z27 := H.out.z 0 27 (.int .i64 s.hrounds)
  obtain rfl | rfl := Bool.eq_false_or_eq_true b11
  rotate_left
  · go_wp2_with (first | (go_at_call 70; (with_reducible refine (calls_b h11.out (hcheck_w s.hlast s.hleast s.hmany s.hgentle s.hdone s.hbase s.hrounds _)).mono ?_); rintro e w9 ⟨rfl, hb⟩; clear z21 z22 z23 z24 z25 z26 z27; replace H := Aside0.mk (H.out.below hb); clear hb) | fail)
    go_ret
    exact ⟨rfl, H.out.lo⟩
  go_upto_region 17 with (first | (go_at_call 70; (with_reducible refine (calls_b h11.out (hcheck_w s.hlast s.hleast s.hmany s.hgentle s.hdone s.hbase s.hrounds _)).mono ?_); rintro e w9 ⟨rfl, hb⟩; clear z21 z22 z23 z24 z25 z26 z27; replace H := Aside0.mk (H.out.below hb); clear hb) | fail)
  have z28 := H.out.z 0 28 (.bool s.eon); have z29 := H.out.z 0 29 (.int .i64 s.estart); have z30 := H.out.z 0 30 (.int .i64 s.efirst); have z31 := H.out.z 0 31 (.int .i64 s.emax); have z32 := H.out.z 0 32 (.int .i64 s.ek); have z33 := H.out.z 0 33 (.int .i64 s.eest)
  obtain rfl | rfl := Bool.eq_false_or_eq_true b12
  rotate_left
  · go_wp2_with (first | (go_at_call 53; (with_reducible refine (epoch_CheckS.calls s.eon s.estart s.efirst s.emax s.ek s.eest _ _ h12.out (tensB HT.out H.out.lo)).mono ?_); rintro e w9 ⟨rfl, hb⟩; clear z28 z29 z30 z31 z32 z33; replace H := Aside0.mk (H.out.below hb); clear hb) | fail)
    go_ret
    exact ⟨rfl, H.out.lo⟩
  go_upto_region 18 with (first | (go_at_call 53; (with_reducible refine (epoch_CheckS.calls s.eon s.estart s.efirst s.emax s.ek s.eest _ _ h12.out (tensB HT.out H.out.lo)).mono ?_); rintro e w9 ⟨rfl, hb⟩; clear z28 z29 z30 z31 z32 z33; replace H := Aside0.mk (H.out.below hb); clear hb) | fail)
  have z36 := H.out.z 0 36 (.int .i64 s.bat); have z37 := H.out.z 0 37 (.int .i64 s.bhave)
  obtain rfl | rfl := Bool.eq_false_or_eq_true b13
  rotate_left
  · go_wp2_with (first | (go_at_call 71; (with_reducible refine (bucket_CheckS.calls s.bat s.bhave _ _ h13.out).mono ?_); rintro e w9 ⟨rfl, hb⟩; clear z36 z37; replace H := Aside0.mk (H.out.below hb); clear hb) | fail)
    go_ret
    exact ⟨rfl, H.out.lo⟩
  go_upto_region 19 with (first | (go_at_call 71; (with_reducible refine (bucket_CheckS.calls s.bat s.bhave _ _ h13.out).mono ?_); rintro e w9 ⟨rfl, hb⟩; clear z36 z37; replace H := Aside0.mk (H.out.below hb); clear hb) | fail)
  have h14' := h14.out
  have z36 := H.out.z 0 36 (.int .i64 s.bat); have z7 := H.out.z 0 7 (.int .i64 s.now)
  obtain rfl | rfl := Bool.eq_false_or_eq_true b14
  rotate_left
  · go_wp2
    go_ret
    exact ⟨rfl, H.out.lo⟩
  go_upto_region 21 with (first | fail | fail)
  clear z36 z7 h14'
  have z34 := H.out.z 0 34 (.int .i64 s.recov); have z12 := H.out.z 0 12 (.int .i64 s.sent); have z35 := H.out.z 0 35 (.int .i64 s.back)
  obtain rfl | rfl := Bool.eq_false_or_eq_true b15
  · go_wp2_with (first | (go_at_call 64; (with_reducible refine (between_b s.recov 0 s.sent _ _ h15.out).mono ?_); rintro e w9 ⟨rfl, hb⟩; clear z34 z12 z35; replace H := Aside0.mk (H.out.below hb); clear hb; have z35 := H.out.z 0 35 (.int .i64 s.back)) | (go_at_call 64; (with_reducible refine (between_b s.back 0 64 b16 _ h16.out).mono ?_); rintro e w9 ⟨rfl, hb⟩; clear z35; replace H := Aside0.mk (H.out.below hb); clear hb) | fail)
    go_ret
    exact ⟨rfl, H.out.lo⟩
  · go_wp2_with (first | (go_at_call 64; (with_reducible refine (between_b s.recov 0 s.sent _ _ h15.out).mono ?_); rintro e w9 ⟨rfl, hb⟩; clear z34 z12 z35; replace H := Aside0.mk (H.out.below hb); clear hb; have z35 := H.out.z 0 35 (.int .i64 s.back)) | fail)
    go_ret
    exact ⟨rfl, H.out.lo⟩
theorem s26 {n : Int} : Sd1 26 (.int .i64 n) := fun W p u z f => by go_simp
set_option maxRecDepth 100000 in
set_option maxHeartbeats 4000000 in
/-- What is deferred, behind a stop. -/
theorem do_stop (s : Ln) (x : Sl) (l : List S119) (n v5 : Int) (b2 b4 b5 : Nat) (p3 : Nat × Obj) (cs4 : Array Value) (w0 w : World) (hH : Bx w0 [(b2, .cells (s.at x).cells 48 (0, 0)), p3, (b4, .cells cs4 48 (0, 0)), (b5, .cells #[.int .i64 v5] 26 (0, 0))] w) (hcs : cs4.size = 39) (hC : Kd.C k119 w x.A x.m l) (hn : x.A = none → x.c = 0) (hl : l.length ≤ 1000000) :
    CallsD Tryz.prog 28 #[.pointer (some ⟨b2, 0, none⟩), .pointer (some ⟨b4, 0, none⟩), .pointer (some ⟨b5, 0, none⟩)] (.panicking (erL n)) w fun e u' w' => e = .returned (.tuple #[]) ∧ u' = .panicking [{ v := .iface 26 (.int .i64 n), recovered := true }] ∧
      ∃ y : Sl, Own w0.heap.size w' y l ∧ Bx w0 [(b2, .cells (s.at x).cells 48 (0, 0)), p3, (b4, .cells (s.at y).cells 48 (0, 0)), (b5, .cells #[.int .i64 n] 26 (0, 0))] w' := by
  have hta : ∀ (w : World), (Instr.typeAssert (.iface 26 (.int .i64 n)) 20 26 true).run Tryz.prog w = .ok (.tuple #[.int .i64 n, .bool true]) w := fun w => by kernel_rfl
  have H := Aside0.mk hH
  have HC := Aside0.mk hC
  have HN := Aside0.mk hn
  have HL := Aside0.mk hl
  have H39 := Aside0.mk hcs
  clear hH hC hn hl hcs
  refine callsD_of_wpS Tryz.func28 rfl fun c₀ cs hu => ?_
  apply wpS_seq
  apply wpS_region
  simp [wpOpsS, go_sem, recoverD, hu, erL, Tryz.ntmps28, Exit.thenS, hta]
  apply wpS_seq
  apply wpS_region
  simp [wpOpsS, go_sem, Exit.thenS, Array.replicate]
  refine wpS_cond (t := true) (by simp [Act.eval, Array.replicate]) ?_
  simp only [if_true]
  refine wpS_of_wp ?_
  have hfd : ∀ (t : Ln) (W : World), (Instr.field 83 (.agg t.cells) 0).run Tryz.prog W = .ok (.agg t.cells) W := fun t W => by kernel_rfl
  go_wp2_with (first
    | (refine bxR 48 0 11 0 Tryz.underlying48 H ?_)
    | (go_at_call 29; (with_reducible refine (own_w s x l _ HC.out HN.out HL.out).mono ?_); rintro e wc ⟨y, rfl, ho, hb⟩; have HO := Aside0.mk ho; have L1 := Aside0.mk (blk_lt (H.out.get 2 rfl)); have L2 := Aside0.mk (blk_lt (H.out.get 3 rfl)); have L0 := Aside0.mk H.out.lo.size; replace H := Aside0.mk (H.out.below hb); clear ho hb)
    | (refine bxP1 48 1 13 2 H ?_ (ho := H39.out); clear H; intro we hw H; replace HO := Aside0.mk (HO.out.wr hw.out L1.out); clear hw)
    | (refine bxS1 2 (.tmp 14) 3 0 s26 H ?_; clear H; intro wf hw H; replace HO := Aside0.mk (HO.out.wr hw.out L2.out); clear hw)
    | fail)
  have hfin := Aside0.mk (show ∃ y : Sl, Own w0.heap.size wf y l ∧ Bx w0 [(b2, .cells (s.at x).cells 48 (0, 0)), p3, (b4, .cells (s.at y).cells 48 (0, 0)), (b5, .cells #[.int .i64 n] 26 (0, 0))] wf from ⟨y, HO.out.less (by exact Nat.le_trans (Nat.le_refl _) L0.out), H.out⟩)
  clear HO H L0 L1 L2 HC HN HL H39
  simp [bodyPostS, results, Tryz.results28]
  exact hfin.out
theorem run_zero26 (W : World) : (Instr.alloc 26 true (.tuple #[])).run Tryz.prog W = .ok (.pointer (some ⟨W.heap.size, 0, none⟩)) (W.alloc (.cells #[.int .i64 0] 26)) := by kernel_rfl
def do_map : Array MapEntry := #[⟨.int .i64 6, .func (.func 38) #[] #[], 0⟩, ⟨.int .i64 1, .func (.func 39) #[] #[], 1⟩, ⟨.int .i64 2, .func (.func 40) #[] #[], 2⟩, ⟨.int .i64 3, .func (.func 41) #[] #[], 3⟩, ⟨.int .i64 4, .func (.func 42) #[] #[], 4⟩, ⟨.int .i64 5, .func (.func 43) #[] #[], 5⟩, ⟨.int .i64 7, .func (.func 44) #[] #[], 6⟩]
theorem results_do {tmps : Array Value} {W : World} {go gb : Nat} {cs : Array Value} {x : Value} (h4 : tmps.getD 4 undef = .pointer (some ⟨go, 0, none⟩)) (h5 : tmps.getD 5 undef = .pointer (some ⟨gb, 0, none⟩)) (h1 : W.heap[go]? = some (.cells cs 48 (0, 0))) (h2 : W.heap[gb]? = some (.cells #[x] 26 (0, 0))) (hs : cs.size = 39) :
    (results Tryz.f13 tmps).run Tryz.prog W = .ok (.tuple #[.agg cs, x]) W := by
  have h4' : tmps[4]?.getD undef = .pointer (some ⟨go, 0, none⟩) := by simpa using h4
  have h5' : tmps[5]?.getD undef = .pointer (some ⟨gb, 0, none⟩) := by simpa using h5
  have c := blk_cell h2 0
  have hl := run_loadVar_row (P := Tryz.prog) W go 48 48 cs (0, 0) _ h1 Tryz.underlying48 rfl (by rw [info48, hs])
  simp [results, show Tryz.f13.results = #[.cell 4 48, .cell 5 26] from rfl, h4', h5', asAddr, hl]
  go_simp
theorem stop_end {tmps : Array Value} {R : Ending → World → Prop} {w0 W : World} {s : Ln} {x : Sl} {l : List S119} {n v5 : Int} {b2 b4 b5 : Nat} {p3 : Nat × Obj} {cs4 : Array Value} {L' : List (Nat × Obj)} (H : Bx w0 ([(b2, .cells (s.at x).cells 48 (0, 0)), p3, (b4, .cells cs4 48 (0, 0)), (b5, .cells #[.int .i64 v5] 26 (0, 0))] ++ L') W)
    (hC : Kd.C k119 w0 x.A x.m l) (hn : x.A = none → x.c = 0) (hl : l.length ≤ 1000000) (hR : ∀ W' y, Own w0.heap.size W' y l → Below w0.heap.size w0 W' → R (.returned (.tuple #[.agg (s.at y).cells, .int .i64 n])) W')
    (hcs : cs4.size = 39 := by rfl) (h4 : tmps.getD 4 undef = .pointer (some ⟨b4, 0, none⟩) := by rfl) (h5 : tmps.getD 5 undef = .pointer (some ⟨b5, 0, none⟩) := by rfl) :
    bodyPostD Tryz.prog Tryz.f13 R (.panic (erL n)) { tmps := tmps, defers := [{ target := .fn (.func 28) #[.pointer (some ⟨b2, 0, none⟩), .pointer (some ⟨b4, 0, none⟩), .pointer (some ⟨b5, 0, none⟩)], args := #[] }] } W := by
  have hb := H.head
  refine leaves_cons (f := 28) (args := #[.pointer (some ⟨b2, 0, none⟩), .pointer (some ⟨b4, 0, none⟩), .pointer (some ⟨b5, 0, none⟩)]) (by simp) (by simp [go_sem]) ?_
  refine (do_stop s x l n v5 b2 b4 b5 p3 cs4 w0 W hb hcs (Kd.C_below hC hb.lo) hn hl).mono ?_
  rintro e u' w'' ⟨rfl, rfl, y, ho, hb'⟩
  exact ⟨_, results_do h4 h5 (hb'.get 2 rfl) (hb'.get 3 rfl) (Ln.size _), hR w'' y ho hb'.lo⟩
set_option maxRecDepth 100000 in
set_option maxHeartbeats 2000000 in
theorem do_idle (a b c : Addr) (w : World) :
    CallsD Tryz.prog 28 #[.pointer (some a), .pointer (some b), .pointer (some c)] .returning w fun e u' w' => e = .returned (.tuple #[]) ∧ u' = .returning ∧ w' = w := by
  have hta : ∀ w : World, (Instr.typeAssert .nilIface 20 26 true).run Tryz.prog w = .ok (.tuple #[.int .i64 0, .bool false]) w := fun w => by kernel_rfl
  refine callsD_of_wpS Tryz.func28 rfl fun c₀ cs hu => ?_
  apply wpS_seq
  apply wpS_region
  simp [wpOpsS, go_sem, recoverD, hu, Tryz.ntmps28, Exit.thenS, hta]
  apply wpS_seq
  apply wpS_region
  simp [wpOpsS, go_sem, Exit.thenS, Array.replicate]
  refine wpS_cond (t := false) (by simp [Act.eval, Array.replicate]) ?_
  simp only [Bool.false_eq_true, if_false]
  refine wpS_of_wp (wp_skip ?_)
  cases c₀
  simp_all [bodyPostS, results, Tryz.results28]

theorem hmf_ (fn : Fn) (first cap : Array Value) (w : World) : (Instr.makeFunc fn first cap).run Tryz.prog w = .ok (.func fn first cap) w := rfl
/-- What reads a slice of marks. -/
def Rd (W : World) (z : Sl) (l : List S119) : Prop := Kd.C k119 W z.A z.m l ∧ (z.A = none → z.c = 0) ∧ z.m ≤ z.c
section
variable {ops : Array Oper} {rest : List Oper} {Q : Exit → Act → World → Prop} {a : Act} {W w0 : World} {L : List (Nat × Obj)} {o : Oper}
theorem bxV1 (n : Tmp) (t : TypeId) (cs : Array Value) {F : Nat → List (Nat × Obj)} (H : Aside0 (Bx w0 L W)) (hrun : ∀ W, (Instr.alloc t true (.tuple #[])).run Tryz.prog W = .ok (.pointer (some ⟨W.heap.size, 0, none⟩)) (W.alloc (.cells cs t)))
    (h : ∀ b W', Aside0 (W.heap.size ≤ b ∧ Below W.heap.size W W') → Aside0 (Bx w0 (F b) W') → wpList Tryz.prog ops Q rest (a.put (some n) (.pointer (some ⟨b, 0, none⟩))) W') (hop : o.op = .alloc t := by rfl) (hg : o.guard = none := by rfl) (hd : o.dst = some n := by rfl)
    (hs : ∀ b, L ++ [(b, .cells cs t (0, 0))] = F b := by intro b; simp only [List.nil_append, List.cons_append]; rfl) : wpList Tryz.prog ops Q (o :: rest) a W :=
  new_var hg t hop (some n) hd cs (hrun W) fun g e w1 h1 h2 => h g w1 ⟨⟨by omega, h2⟩⟩ ⟨hs g ▸ H.out.new e h1 h2⟩
theorem bxM1 (n : Tmp) (t : TypeId) {F : Nat → List (Nat × Obj)} (H : Aside0 (Bx w0 L W)) (h : ∀ r W', Aside0 (W.heap.size ≤ r) → Aside0 (Below W.heap.size W W') → Aside0 (Bx w0 (F r) W') → wpList Tryz.prog ops Q rest (a.put (some n) (.map (some r))) W')
    (hop : o.op = .makeMap t none := by rfl) (hg : o.guard = none := by rfl) (hd : o.dst = some n := by rfl) (hs : ∀ b, L ++ [(b, .map #[] 0)] = F b := by intro b; simp only [List.nil_append, List.cons_append]; rfl) : wpList Tryz.prog ops Q (o :: rest) a W :=
  map_made hg t hop fun r e w1 h1 h2 => by rw [hd]; exact h r w1 ⟨by omega⟩ ⟨h2⟩ ⟨hs r ▸ H.out.new e h1 h2⟩
theorem bxI1 (t kt et : TypeId) (x : Tmp) (y z : Operand) (i : Nat) (k : Int) {r n : Nat} {es : Array MapEntry} {L' : List (Nat × Obj)} (ht : Tryz.prog.underlying t = some (.map kt et)) (hk : Tryz.prog.underlying kt = some (.int .i64)) (H : Aside0 (Bx w0 L W)) (h : ∀ W', Aside0 (Wr r W W') → Aside0 (Bx w0 L' W') → wpList Tryz.prog ops Q rest a W')
    (hop : o.op = .insert t (.tmp x) y z := by rfl) (hg : o.guard = none := by rfl) (hd : o.dst = none := by rfl) (hi : L[i]? = some (r, .map es n) := by rfl) (hm : a.eval (.tmp x) = .map (some r) := by rfl) (hx : a.eval y = .int .i64 k := by rfl) (hn : Instr.findNow (.int .i64) (.int .i64 k) es.toList 0 = some none := by rfl)
    (hs : L.set i (r, .map (es.push { key := .int .i64 k, val := a.eval z, born := n }) (n + 1)) = L' := by simp only [List.set]; rfl) : wpList Tryz.prog ops Q (o :: rest) a W :=
  map_entry hg t kt et (.tmp x) y z hop hd ht hk r n es k hm hx (H.out.get i hi) hn fun w1 h1 h2 => h w1 ⟨h2⟩ ⟨hs ▸ H.out.turn i hi h2 h1⟩
theorem Bx.drop {L' : List (Nat × Obj)} {g : Nat} {ob : Obj} {W' : World} (h : Bx w0 (L ++ (g, ob) :: L') W) (hw : Wr g W W') : Bx w0 L W' := by
  have hd := h.nd
  rw [List.map_append, List.nodup_append] at hd
  refine ⟨hw.to_below h.lo (h.ge (g, ob) (by simp)) h.lo.size, fun p hp => h.ge p (List.mem_append_left _ hp), fun p hp => hw.blk (h.at_ p (List.mem_append_left _ hp)) (hd.2.2 p.1 (List.mem_map_of_mem hp) g (by simp)), hd.1⟩
theorem StopQ.normal {X : List PanicEntry → World → Prop} {T : Act → Prop} (h : Q .normal a W) : StopQ X T Q .normal a W := h
end
set_option maxRecDepth 100000 in
set_option maxHeartbeats 8000000 in
theorem do_w (s : Ln) (x : Sl) (l : List S119) (k : Bool) (ek ea eb er nE nw c0 rt b1 b2v cF : Int) (i F : Nat) (R : Ln → Prop) (Z : Prop) (G : List S119 → Prop) (hG : G l) (w : World) (hC : Kd.C k119 w x.A x.m l) (hn : x.A = none → x.c = 0) (hl : l.length ≤ 1000000) (hL : Tens w)
    (hCk : Aside0 (∀ W : World, Kd.C k119 W x.A x.m l → Tens W → Calls Tryz.prog 30 #[.agg (s.at x).cells] W fun e W' => e = .returned (.bool k) ∧ Below W.heap.size W W'))
    (hEv : Aside0 (∀ W : World, Calls Tryz.prog 27 #[.agg #[.int .i64 ek, .int .i64 ea, .int .i64 eb, .int .i64 er]] W fun e W' => e = .returned (.int .i64 nE) ∧ Below W.heap.size W W'))
    (hSt : Aside0 (k = true → nE = 0 → clock_Step.f s.now ea = some (nw, c0))) (hRt : Aside0 (k = true → rate_OfS.f s.win s.seg s.has s.mean s.far (decide (s.win < s.thresh)) = some rt)) (hFi : Aside0 (k = true → nE = 0 → c0 = 0 → bucket_FillS.f s.bat s.bhave nw rt (wrap64 (s.burst * s.seg)) = some (b1, b2v, cF)))
    (hf : Aside0 (nE = 0 → Instr.findNow (.int .i64) (.int .i64 ek) do_map.toList 0 = some (some (i, .func (.func F) #[] #[])))) (hen : Aside0 (∀ (args : Array Value) (W : World), (callFunc F args).run Tryz.prog W = .ok (.enter F args) W))
    (hM : Aside0 (k = true → nE = 0 → c0 = 0 → cF = 0 → ∀ (W : World) (g B : Nat) (y : Sl), At W g (Ln.at { s with now := nw, bat := b1, bhave := b2v } y) → Mk g B W y l → g < W.heap.size → B ≤ W.heap.size → Tens W → Calls Tryz.prog F #[.pointer (some ⟨g, 0, none⟩), .agg #[.int .i64 ek, .int .i64 ea, .int .i64 eb, .int .i64 er]] W fun e W' => Wr g W W' ∧ ((e = .returned (.tuple #[]) ∧ ∃ t z l', R t ∧ G l' ∧ Mk g B W' z l' ∧ At W' g (Ln.at t z)) ∨ Z ∧ ∃ n, n ≠ 0 ∧ e = .panicked (erL n)))) :
    Calls Tryz.prog 13 #[.agg (s.at x).cells, .agg #[.int .i64 ek, .int .i64 ea, .int .i64 eb, .int .i64 er]] w fun e w' => ∃ (t : Ln) (z : Sl) (l' : List S119) (n : Int), e = .returned (.tuple #[.agg (t.at z).cells, .int .i64 n]) ∧ G l' ∧ Own w.heap.size w' z l' ∧ Below w.heap.size w w' ∧ (n = 0 → k = true ∧ nE = 0 ∧ c0 = 0 ∧ cF = 0 ∧ R t) ∧ (n ≠ 0 → k = true → nE = 0 → c0 = 0 → cF = 0 → Z) := by
  have H := Aside0.mk (Bx.start w)
  have hmf := hmf_
  have HT := Aside0.mk hL
  have HC := Aside0.mk hC
  have HN := Aside0.mk hn
  have HL := Aside0.mk hl
  have ST := Aside0.mk (fun (n : Int) (h0 : n ≠ 0) (hz : k = true → nE = 0 → c0 = 0 → cF = 0 → Z) (W' : World) (y : Sl) (ho : Own w.heap.size W' y l) (hb : Below w.heap.size w W') => (show ∃ (t : Ln) (z : Sl) (l' : List S119) (m : Int), Ending.returned (.tuple #[.agg (s.at y).cells, .int .i64 n]) = .returned (.tuple #[.agg (t.at z).cells, .int .i64 m]) ∧ G l' ∧ Own w.heap.size W' z l' ∧ Below w.heap.size w W' ∧ (m = 0 → k = true ∧ nE = 0 ∧ c0 = 0 ∧ cF = 0 ∧ R t) ∧ (m ≠ 0 → k = true → nE = 0 → c0 = 0 → cF = 0 → Z) from ⟨s, y, l, n, rfl, hG, ho, hb, fun h => absurd h h0, fun _ => hz⟩))
  clear hL hC hn hl
  obtain rfl | rfl := Bool.eq_false_or_eq_true k
  rotate_left
  · go_enter_defers Tryz.func13, Tryz.ntmps13
    go_wp2_with (first
      | ((with_reducible refine gate_dst (N := 2) rfl ?_); refine bxB 2 48 (.tmp 0) (cs := (s.at x).cells) H ?_ (hx := by rfl) (hrun := run_box48 _); clear H; intro b2 _ H)
      | ((with_reducible refine gate_dst (N := 3) rfl ?_); refine bxB 3 52 (.tmp 1) H ?_; clear H; intro b3 _ H)
      | ((with_reducible refine gate_dst (N := 4) rfl ?_); refine bxV 4 48 Ln.zero.cells H run_alloc48 ?_; clear H; intro b4 _ H)
      | ((with_reducible refine gate_dst (N := 5) rfl ?_); refine bxV 5 26 #[.int .i64 0] H run_zero26 ?_; clear H; intro b5 _ H)
      | (refine bxR 48 2 10 0 Tryz.underlying48 H ?_)
      | (go_at_call 30; (with_reducible refine (hCk.out _ (Kd.C_below HC.out H.out.lo) (tensB HT.out H.out.lo)).mono ?_); rintro e wc ⟨rfl, hb⟩; replace H := Aside0.mk (H.out.below hb); clear hb)
      | fail)
    exact stop_end (L' := []) H.out HC.out HN.out HL.out (ST.out 201 (by decide) (fun q => by cases q))
  go_enter_defers Tryz.func13, Tryz.ntmps13
  go_upto_region 5 with (first
    | ((with_reducible refine gate_dst (N := 2) rfl ?_); refine bxB 2 48 (.tmp 0) (cs := (s.at x).cells) H ?_ (hx := by rfl) (hrun := run_box48 _); clear H; intro b2 _ H)
    | ((with_reducible refine gate_dst (N := 3) rfl ?_); refine bxB 3 52 (.tmp 1) H ?_; clear H; intro b3 _ H)
    | ((with_reducible refine gate_dst (N := 4) rfl ?_); refine bxV 4 48 Ln.zero.cells H run_alloc48 ?_; clear H; intro b4 _ H)
    | ((with_reducible refine gate_dst (N := 5) rfl ?_); refine bxV 5 26 #[.int .i64 0] H run_zero26 ?_; clear H; intro b5 _ H)
    | (refine bxR 48 2 10 0 Tryz.underlying48 H ?_)
    | (go_at_call 30; (with_reducible refine (hCk.out _ (Kd.C_below HC.out H.out.lo) (tensB HT.out H.out.lo)).mono ?_); rintro e wc ⟨rfl, hb⟩; replace H := Aside0.mk (H.out.below hb); clear hb)
    | (refine bxR 52 3 14 1 Tryz.underlying52 H ?_)
    | (go_at_call 27; (with_reducible refine (hEv.out _).mono ?_); rintro e wc ⟨rfl, hb⟩; replace H := Aside0.mk (H.out.below hb); clear hb)
    | (go_at_call 31; refine (must_w nE _).mono ?_; rintro e wm ⟨rfl, ⟨h0, rfl⟩ | ⟨h0, rfl⟩⟩; rotate_left; exact stop_end (L' := []) H.out HC.out HN.out HL.out (ST.out nE h0 (fun _ q => absurd q h0)))
    | fail)
  have K1 := Aside0.mk h0
  clear h0
  go_upto_region 6 with (first
    | (refine bxR 48 2 17 0 Tryz.underlying48 H ?_)
    | (go_at_call 29; (with_reducible refine (own_w s x l _ (Kd.C_below HC.out H.out.lo) HN.out HL.out).mono ?_); rintro e wo ⟨y, rfl, ho, hb⟩; have L2 := Aside0.mk (blk_lt (H.out.get 0 rfl)); have L3 := Aside0.mk (blk_lt (H.out.get 1 rfl)); have L4 := Aside0.mk (blk_lt (H.out.get 2 rfl)); have L5 := Aside0.mk (blk_lt (H.out.get 3 rfl)); have LW := Aside0.mk H.out.lo.size; have LB := Aside0.mk hb.size; have HO := Aside0.mk ho; replace H := Aside0.mk (H.out.below hb); clear ho hb)
    | ((with_reducible refine gate_dst (N := 6) rfl ?_); refine bxV1 6 83 Ln.zero.cells H run_alloc83 ?_; clear H; intro g wg hg H; have HM := Aside0.mk ((HO.out.mk3 hg.out.1).below hg.out.2); have HGB := Aside0.mk (Nat.le_trans LB.out hg.out.2.size); clear hg HO)
    | (refine bxP1 83 6 18 4 H ?_; clear H; intro w6 hw H; replace HM := Aside0.mk (HM.out.wr hw.out); replace HGB := Aside0.mk (Nat.le_trans HGB.out hw.out.size); clear hw)
    | fail)
  obtain ⟨B, HB⟩ : ∃ B, wm.heap.size = B := ⟨_, rfl⟩
  rw [HB] at L2 L3 L4 L5 HM HGB LW
  clear HB LB
  go_upto_region 7 with (first
    | (refine bxL (v := .int .i64 s.now) 19 20 0 7 l3 H ?_)
    | (refine bxL 21 22 1 1 l3 H ?_)
    | (go_at_call 33; (with_reducible refine (clock_Step.calls s.now ea nw c0 _ (hSt.out (by trivial) K1.out)).mono ?_); rintro e wc ⟨rfl, hb⟩; replace H := Aside0.mk (H.out.below hb); replace HM := Aside0.mk (HM.out.below hb); replace HGB := Aside0.mk (Nat.le_trans HGB.out hb.size); clear hb)
    | (go_at_call 32; refine (got_int (.int .i64 nw) c0 _).mono ?_; rintro e wn ⟨rfl, ⟨h0, rfl⟩ | ⟨h0, rfl⟩⟩; rotate_left; exact stop_end (L' := [(g, _)]) H.out HC.out HN.out HL.out (ST.out c0 h0 (fun _ _ q => absurd q h0)))
    | fail)
  have K2 := Aside0.mk h0
  clear h0
  have HX := H
  clear H
  have H := Aside0.mk (StL.start (s := s.at y) (HX.out.get 4 rfl))
  refine wp_stop (X := fun c W => ∃ n, n ≠ 0 ∧ (cF = 0 → Z) ∧ c = erL n ∧ ∃ cs, Bx w [(b2, .cells (s.at x).cells 48 (0, 0)), (b3, .cells #[.int .i64 ek, .int .i64 ea, .int .i64 eb, .int .i64 er] 52 (0, 0)), (b4, .cells Ln.zero.cells 48 (0, 0)), (b5, .cells #[.int .i64 0] 26 (0, 0)), (g, .cells cs 83 (0, 0))] W) (T := TT b4 b5 [{ target := .fn (.func 28) #[.pointer (some ⟨b2, 0, none⟩), .pointer (some ⟨b4, 0, none⟩), .pointer (some ⟨b5, 0, none⟩)], args := #[] }]) ?_ ?_
  · rintro c ⟨tm, df⟩ W ⟨n, hn, hz, rfl, cs, hb⟩ ⟨h4, h5, h6⟩
    cases h6
    exact stop_end (L' := [(g, _)]) hb HC.out HN.out HL.out (ST.out n hn (fun _ _ _ => hz)) rfl h4 h5
  refine rgL #[N,N,N,N,N,N,N,N,N,N,N,N,N] [12] H ?_; clear H; intro _ H
  refine pL 0 (some 27) #[Y,N,N,N,N,N,N,N,N,N,N,N,N] ?_
  refine pL 1 (some 28) #[Y,Y,N,N,N,N,N,N,N,N,N,N,N] ?_
  refine lL 2 (some 29) #[Y,Y,Y,N,N,N,N,N,N,N,N,N,N] (ldBucket _) H ?_
  refine pL 3 (some 30) #[Y,Y,Y,Y,N,N,N,N,N,N,N,N,N] ?_
  refine cL 4 (some 31) #[Y,Y,Y,Y,Y,N,N,N,N,N,N,N,N] Tryz.func36 H (lr_rate g (s.at y) rt ⟨hRt.out (by trivial)⟩ _ H.out.row) ?_; clear H; intro _ H
  refine cL 5 (some 32) #[Y,Y,Y,Y,Y,Y,N,N,N,N,N,N,N] Tryz.func37 H (lr_burst g (s.at y) _ H.out.row) ?_; clear H; intro _ H
  refine cL 6 (some 33) #[Y,Y,Y,Y,Y,Y,Y,N,N,N,N,N,N] Tryz.func35 H (bucket_FillS.calls s.bat s.bhave nw rt _ b1 b2v cF _ (hFi.out (by trivial) K1.out K2.out)) ?_; clear H; intro _ H
  refine pL 7 (some 34) #[Y,Y,Y,Y,Y,Y,Y,Y,N,N,N,N,N] ?_
  refine pL 8 (some 35) #[Y,Y,Y,Y,Y,Y,Y,Y,Y,N,N,N,N] ?_
  refine gL 9 (some 36) #[Y,Y,Y,Y,Y,Y,Y,Y,Y,Y,N,N,N] Tryz.func34 H (got_bucket b1 b2v cF _) (fun h W S => ⟨⟨_, h, (fun q => absurd q h), rfl, _, HX.out.turn 4 rfl S.wr S.row⟩, ⟨rfl, rfl, rfl⟩⟩) ?_; clear H; intro h0 _ H; have K3 := Aside0.mk h0; clear h0
  refine pL 10 (some 37) #[Y,Y,Y,Y,Y,Y,Y,Y,Y,Y,Y,N,N] ?_
  refine pL 11 (some 38) #[Y,Y,Y,Y,Y,Y,Y,Y,Y,Y,Y,Y,N] ?_
  refine sL (s' := Ln.at { s with bat := b1, bhave := b2v } y) 12 #[Y,Y,Y,Y,Y,Y,Y,Y,Y,Y,Y,Y,Y] (sdBucket _ b1 b2v) H ?_; clear H; intro _ H
  refine done_ (by kernel_rfl) ?_
  refine StopQ.normal ?_
  have H8 := Aside0.mk (HX.out.turn 4 rfl H.out.wr H.out.row)
  replace HM := Aside0.mk (HM.out.wr H.out.wr)
  replace HGB := Aside0.mk (Nat.le_trans HGB.out H.out.wr.size)
  clear HX H
  have H := Aside0.mk (show Bx w [(b2, .cells (s.at x).cells 48 (0, 0)), (b3, .cells #[.int .i64 ek, .int .i64 ea, .int .i64 eb, .int .i64 er] 52 (0, 0)), (b4, .cells Ln.zero.cells 48 (0, 0)), (b5, .cells #[.int .i64 0] 26 (0, 0)), (g, .cells (Ln.at { s with bat := b1, bhave := b2v } y).cells 83 (0, 0))] _ from H8.out)
  clear H8
  go_upto_region 9 with (first
    | (refine bxS1 41 (.tmp 39) 4 7 s3 H ?_; clear H; intro w8 hw H; replace HM := Aside0.mk (HM.out.wr hw.out); replace HGB := Aside0.mk (Nat.le_trans HGB.out hw.out.size); clear hw)
    | fail)
  go_upto_region 10 with (first
    | ((with_reducible refine gate_dst (N := 42) rfl ?_); refine bxM1 42 95 H ?_; clear H; intro r wr hr hb H; have HR := Aside0.mk (fun (a : Addr) (e : y.A = some a) => (by have := HM.out.lt a e; have := hr.out; omega : a.block ≠ r)); replace HM := Aside0.mk (HM.out.below hb.out); replace HGB := Aside0.mk (Nat.le_trans HGB.out hb.out.size); clear hb)
    | (refine bxI1 95 3 92 42 (.const (.int .i64 6)) (.func 38) 5 6 Tryz.underlying95 Tryz.underlying3 H ?_; clear H; intro wi hw H; replace HM := Aside0.mk (HM.out.far hw.out HR.out); replace HGB := Aside0.mk (Nat.le_trans HGB.out hw.out.size); clear hw)
    | (refine bxI1 95 3 92 42 (.const (.int .i64 1)) (.func 39) 5 1 Tryz.underlying95 Tryz.underlying3 H ?_; clear H; intro wi hw H; replace HM := Aside0.mk (HM.out.far hw.out HR.out); replace HGB := Aside0.mk (Nat.le_trans HGB.out hw.out.size); clear hw)
    | (refine bxI1 95 3 92 42 (.const (.int .i64 2)) (.func 40) 5 2 Tryz.underlying95 Tryz.underlying3 H ?_; clear H; intro wi hw H; replace HM := Aside0.mk (HM.out.far hw.out HR.out); replace HGB := Aside0.mk (Nat.le_trans HGB.out hw.out.size); clear hw)
    | (refine bxI1 95 3 92 42 (.const (.int .i64 3)) (.func 41) 5 3 Tryz.underlying95 Tryz.underlying3 H ?_; clear H; intro wi hw H; replace HM := Aside0.mk (HM.out.far hw.out HR.out); replace HGB := Aside0.mk (Nat.le_trans HGB.out hw.out.size); clear hw)
    | (refine bxI1 95 3 92 42 (.const (.int .i64 4)) (.func 42) 5 4 Tryz.underlying95 Tryz.underlying3 H ?_; clear H; intro wi hw H; replace HM := Aside0.mk (HM.out.far hw.out HR.out); replace HGB := Aside0.mk (Nat.le_trans HGB.out hw.out.size); clear hw)
    | (refine bxI1 95 3 92 42 (.const (.int .i64 5)) (.func 43) 5 5 Tryz.underlying95 Tryz.underlying3 H ?_; clear H; intro wi hw H; replace HM := Aside0.mk (HM.out.far hw.out HR.out); replace HGB := Aside0.mk (Nat.le_trans HGB.out hw.out.size); clear hw)
    | (refine bxI1 95 3 92 42 (.const (.int .i64 7)) (.func 44) 5 7 Tryz.underlying95 Tryz.underlying3 H ?_; clear H; intro wi hw H; replace HM := Aside0.mk (HM.out.far hw.out HR.out); replace HGB := Aside0.mk (Nat.le_trans HGB.out hw.out.size); clear hw)
    | fail)
  have hlk := run_found (ok := false) Tryz.underlying95 Tryz.underlying3 (show _ = some (.map do_map 7) from H.out.get 5 rfl) (hf.out K1.out)
  simp only [Bool.false_eq_true, if_false] at hlk
  have hen1 := hen.out
  have hA := H.out.get 4 rfl
  have hm := hM.out (by trivial) K1.out K2.out K3.out _ g B y hA HM.out (blk_lt hA) HGB.out (tensB HT.out H.out.lo)
  clear hA HM
  go_upto_region 11 with (first
    | (refine bxL 45 46 1 0 l3 H ?_)
    | (refine bxR 52 3 48 1 Tryz.underlying52 H ?_)
    | ((with_reducible refine hm.mono ?_); rintro e wv ⟨hw, ⟨rfl, t, z, l', ht, hl', hz, ha⟩ | ⟨hz, n, hn, rfl⟩⟩; rotate_left; exact stop_end (L' := []) (Bx.drop (L := [(b2, _), (b3, _), (b4, _), (b5, _)]) H.out hw) HC.out HN.out HL.out (ST.out n hn (fun _ _ _ _ => hz)))
    | fail)
  have HZ := Aside0.mk hz
  have HL' := Aside0.mk hl'
  have HR2 := Aside0.mk ht
  replace H := Aside0.mk (show Bx w [(b2, .cells (s.at x).cells 48 (0, 0)), (b3, .cells #[.int .i64 ek, .int .i64 ea, .int .i64 eb, .int .i64 er] 52 (0, 0)), (b4, .cells Ln.zero.cells 48 (0, 0)), (b5, .cells #[.int .i64 0] 26 (0, 0)), (g, .cells (t.at z).cells 83 (0, 0)), _] _ from H.out.turn 4 rfl hw ha)
  clear hz hl' ht hw ha hlk hen1 hm
  go_wp2_with (first
    | (refine bxR 48 50 51 4 Tryz.underlying48 H ?_)
    | (refine bxP1 48 4 51 2 H ?_; clear H; intro wx hw H; replace HZ := Aside0.mk ((HZ.out.to L4.out).wr hw.out); clear hw)
    | (refine bxS1 5 (.const (.int .i64 0)) 3 0 s26 H ?_; clear H; intro wy hw H; replace HZ := Aside0.mk ((HZ.out.to L5.out).wr hw.out); clear hw)
    | fail)
  refine leaves_cons (f := 28) (args := #[.pointer (some ⟨b2, 0, none⟩), .pointer (some ⟨b4, 0, none⟩), .pointer (some ⟨b5, 0, none⟩)]) (by simp) (by simp [go_sem]) ?_
  refine (do_idle _ _ _ _).mono ?_
  rintro e u' w'' ⟨rfl, rfl, rfl⟩
  exact ⟨_, results_do (x := .int .i64 0) rfl rfl (H.out.get 2 rfl) (H.out.get 3 rfl) (Ln.size _), t, z, l', 0, rfl, HL'.out, ⟨HZ.out.n, HZ.out.le, HZ.out.nil, fun a e => Nat.le_trans LW.out (HZ.out.ne a e).2, HZ.out.lt, HZ.out.C⟩, H.out.lo, fun _ => ⟨by trivial, K1.out, K2.out, K3.out, HR2.out⟩, fun q => absurd rfl q⟩
def evSome (eb : Int) : Bool := decide (eb ≥ 1) && decide (eb ≤ 1073741824)
def evFull (eb er : Int) : Bool := evSome eb && (decide (er ≥ 0) && decide (er ≤ 1073741824))
def evBytes (eb er : Int) : Bool := evSome eb && (er == 0)
def evBare (eb er : Int) : Bool := (eb == 0) && (er == 0)
set_option maxRecDepth 100000 in
set_option maxHeartbeats 2000000 in
theorem evSome_w (ek ea eb er : Int) (w : World) : Calls Tryz.prog 154 #[.agg #[.int .i64 ek, .int .i64 ea, .int .i64 eb, .int .i64 er]] w fun e w' => e = .returned (.bool (evSome eb)) ∧ Below w.heap.size w w' := by
  have H := Aside0.mk (Bx.start w)
  go_enter Tryz.func154, Tryz.ntmps154
  go_wp2_with (first
    | ((with_reducible refine gate_dst (N := 1) rfl ?_); refine bxB 1 116 (.tmp 0) H ?_; clear H; intro b1 _ H)
    | (refine bxL 3 4 0 2 l3 H ?_)
    | (refine bxL 7 8 0 2 l3 H ?_)
    | fail)
  all_goals (go_ret; refine ⟨congrArg (fun b => Ending.returned (Value.bool b)) ?_, H.out.lo⟩; first | (simp [evFull, evBytes, evBare, evSome, *]; done) | (simp_all [evFull, evBytes, evBare]; done) | (simp [evFull, evBytes, evBare, evSome, *]; intros; omega) | fail)
set_option maxRecDepth 100000 in
set_option maxHeartbeats 2000000 in
theorem evFull_w (ek ea eb er : Int) (w : World) : Calls Tryz.prog 116 #[.agg #[.int .i64 ek, .int .i64 ea, .int .i64 eb, .int .i64 er]] w fun e w' => e = .returned (.bool (evFull eb er)) ∧ Below w.heap.size w w' := by
  have H := Aside0.mk (Bx.start w)
  rcases q : evSome eb with _ | _ <;> go_enter Tryz.func116, Tryz.ntmps116 <;> go_wp2_with (first
    | (go_at_call 154; (with_reducible refine (evSome_w _ _ _ _ _).mono ?_); rintro e w9 ⟨rfl, hb⟩; rw [q]; replace H := Aside0.mk (H.out.below hb); clear hb)
    | ((with_reducible refine gate_dst (N := 1) rfl ?_); refine bxB 1 116 (.tmp 0) H ?_; clear H; intro b1 _ H)
    | (refine bxR 116 1 3 0 Tryz.underlying116 H ?_)
    | (refine bxL 6 7 0 3 l3 H ?_)
    | (refine bxL 11 12 0 3 l3 H ?_)
    | fail)
  all_goals (go_ret; refine ⟨congrArg (fun b => Ending.returned (Value.bool b)) ?_, H.out.lo⟩; first | (simp [evFull, evBytes, evBare, evSome, *]; done) | (simp_all [evFull, evBytes, evBare]; done) | (simp [evFull, evBytes, evBare, evSome, *]; intros; omega) | fail)
set_option maxRecDepth 100000 in
set_option maxHeartbeats 2000000 in
theorem evBytes_w (ek ea eb er : Int) (w : World) : Calls Tryz.prog 117 #[.agg #[.int .i64 ek, .int .i64 ea, .int .i64 eb, .int .i64 er]] w fun e w' => e = .returned (.bool (evBytes eb er)) ∧ Below w.heap.size w w' := by
  have H := Aside0.mk (Bx.start w)
  rcases q : evSome eb with _ | _ <;> go_enter Tryz.func117, Tryz.ntmps117 <;> go_wp2_with (first
    | (go_at_call 154; (with_reducible refine (evSome_w _ _ _ _ _).mono ?_); rintro e w9 ⟨rfl, hb⟩; rw [q]; replace H := Aside0.mk (H.out.below hb); clear hb)
    | ((with_reducible refine gate_dst (N := 1) rfl ?_); refine bxB 1 116 (.tmp 0) H ?_; clear H; intro b1 _ H)
    | (refine bxR 116 1 3 0 Tryz.underlying116 H ?_)
    | (refine bxL 6 7 0 3 l3 H ?_)
    | fail)
  all_goals (go_ret; refine ⟨congrArg (fun b => Ending.returned (Value.bool b)) ?_, H.out.lo⟩; first | (simp [evFull, evBytes, evBare, evSome, *]; done) | (simp_all [evFull, evBytes, evBare]; done) | (simp [evFull, evBytes, evBare, evSome, *]; intros; omega) | fail)
set_option maxRecDepth 100000 in
set_option maxHeartbeats 2000000 in
theorem evBare_w (ek ea eb er : Int) (w : World) : Calls Tryz.prog 118 #[.agg #[.int .i64 ek, .int .i64 ea, .int .i64 eb, .int .i64 er]] w fun e w' => e = .returned (.bool (evBare eb er)) ∧ Below w.heap.size w w' := by
  have H := Aside0.mk (Bx.start w)
  go_enter Tryz.func118, Tryz.ntmps118
  go_wp2_with (first
    | ((with_reducible refine gate_dst (N := 1) rfl ?_); refine bxB 1 116 (.tmp 0) H ?_; clear H; intro b1 _ H)
    | (refine bxL 3 4 0 2 l3 H ?_)
    | (refine bxL 7 8 0 3 l3 H ?_)
    | fail)
  all_goals (go_ret; refine ⟨congrArg (fun b => Ending.returned (Value.bool b)) ?_, H.out.lo⟩; first | (simp [evFull, evBytes, evBare, evSome, *]; done) | (simp_all [evFull, evBytes, evBare]; done) | (simp [evFull, evBytes, evBare, evSome, *]; intros; omega) | fail)
theorem same_int (a b : Int) : Instr.sameNow (.int .i64) (.int .i64 a) (.int .i64 b) = some (a == b) := by first | rfl | simp [Instr.sameNow]
theorem find_none (ek : Int) (h : ¬ (1 ≤ ek ∧ ek ≤ 7)) : Instr.findNow (.int .i64) (.int .i64 ek) kinds_map.toList 0 = some none := by
  have e : ∀ b : Int, 1 ≤ b → b ≤ 7 → (ek == b) = false := fun b h1 h2 => beq_eq_false_iff_ne.2 (by omega)
  simp [kinds_map, Instr.findNow, same_int, e]
/-- The kind's check, and the method. -/
theorem find_some (ek : Int) (h : 1 ≤ ek ∧ ek ≤ 7) : ∃ (i : Nat) (f : Nat), Instr.findNow (.int .i64) (.int .i64 ek) kinds_map.toList 0 = some (some (i, .func (.func f) #[] #[])) ∧ (ek = 1 ∧ f = 116 ∨ (ek = 2 ∨ ek = 6) ∧ f = 117 ∨ (ek = 3 ∨ ek = 4 ∨ ek = 5 ∨ ek = 7) ∧ f = 118) := by
  obtain rfl | rfl | rfl | rfl | rfl | rfl | rfl : ek = 1 ∨ ek = 2 ∨ ek = 3 ∨ ek = 4 ∨ ek = 5 ∨ ek = 6 ∨ ek = 7 := by omega
  all_goals exact ⟨_, _, rfl, by simp⟩
theorem find_do (ek : Int) (h : 1 ≤ ek ∧ ek ≤ 7) : ∃ (i : Nat) (f : Nat), Instr.findNow (.int .i64) (.int .i64 ek) do_map.toList 0 = some (some (i, .func (.func f) #[] #[])) ∧ (ek = 6 ∧ f = 38 ∨ ek = 1 ∧ f = 39 ∨ ek = 2 ∧ f = 40 ∨ ek = 3 ∧ f = 41 ∨ ek = 4 ∧ f = 42 ∨ ek = 5 ∧ f = 43 ∨ ek = 7 ∧ f = 44) := by
  obtain rfl | rfl | rfl | rfl | rfl | rfl | rfl : ek = 1 ∨ ek = 2 ∨ ek = 3 ∨ ek = 4 ∨ ek = 5 ∨ ek = 6 ∨ ek = 7 := by omega
  all_goals exact ⟨_, _, rfl, by simp⟩
set_option maxRecDepth 100000 in
set_option maxHeartbeats 2000000 in
theorem kinds_w (w : World) : Calls Tryz.prog 60 #[] w fun e w' => ∃ r, e = .returned (.map (some r)) ∧ Bx w [(r, .map kinds_map 7)] w' := by
  have H := Aside0.mk (Bx.start w)
  go_enter Tryz.func60, Tryz.ntmps60
  go_wp2_with (first
    | ((with_reducible refine gate_dst (N := 1) rfl ?_); refine bxM 1 114 H ?_; clear H; intro r _ H)
    | (refine bxI 114 3 112 1 (.const (.int .i64 1)) (.func 116) 0 1 Tryz.underlying114 Tryz.underlying3 H ?_; clear H; intro _ H)
    | (refine bxI 114 3 112 1 (.const (.int .i64 2)) (.func 117) 0 2 Tryz.underlying114 Tryz.underlying3 H ?_; clear H; intro _ H)
    | (refine bxI 114 3 112 1 (.const (.int .i64 6)) (.func 117) 0 6 Tryz.underlying114 Tryz.underlying3 H ?_; clear H; intro _ H)
    | (refine bxI 114 3 112 1 (.const (.int .i64 3)) (.func 118) 0 3 Tryz.underlying114 Tryz.underlying3 H ?_; clear H; intro _ H)
    | (refine bxI 114 3 112 1 (.const (.int .i64 4)) (.func 118) 0 4 Tryz.underlying114 Tryz.underlying3 H ?_; clear H; intro _ H)
    | (refine bxI 114 3 112 1 (.const (.int .i64 5)) (.func 118) 0 5 Tryz.underlying114 Tryz.underlying3 H ?_; clear H; intro _ H)
    | (refine bxI 114 3 112 1 (.const (.int .i64 7)) (.func 118) 0 7 Tryz.underlying114 Tryz.underlying3 H ?_; clear H; intro _ H)
    | fail)
  go_ret
  exact ⟨r, rfl, H.out⟩
section
variable {ops : Array Oper} {Q : Exit → Act → World → Prop} {ds : List Nat} {fuel : Nat} {l : Array Bool} {a : Act} {W w0 : World} {L : List (Nat × Obj)} {oi : Oper}
/-- The kinds' map is made. -/
theorem mB (i N : Nat) (l' : Array Bool) {ac : Nat → Act} (H : Aside0 (Bx w0 L W)) (h : ∀ r W', Aside0 (Bx w0 (L ++ [(r, .map kinds_map 7)]) W') → wpAnyLast Tryz.prog .any ops Q (Bx w0 L) ds fuel l' (ac r) W') (hi : ops[i]? = some oi := by rfl) (hN : oi.dst = some N := by rfl)
    (hop : oi.op = .call { callee := .value (.func 60), args := #[], argTypes := #[] } := by rfl) (hc : readyB .any ops l l' i = true := by kernel_rfl) (hd : i ∉ ds := by decide) (hw : Region.wanted oi (yielded ops a.tmps) = true := by rfl) (ha : ∀ r, a.put (some N) (.map (some r)) = ac r := by intro _; simp only [Act.put, sA, sB, sC]; rfl) : wpAnyLast Tryz.prog .any ops Q (Bx w0 L) ds (fuel + 1) l a W := by
  refine one_ l' hi hN hc hd fun K hK => goes_ Tryz.func60 (by kernel_rfl) rfl #[] hw hN hop (by simp) ((kinds_w W).mono ?_)
  rintro e W' ⟨r, rfl, hb⟩
  refine ⟨_, rfl, hK.out _ _ (H.out.below hb.lo) fun _ => ?_⟩
  rw [ha]
  exact h r W' ⟨H.out.newAt (hb.ge (r, .map kinds_map 7) (by simp)) (hb.get 0 rfl) hb.lo⟩
/-- A look into a map, whatever comes of it. -/
theorem kM (i N : Nat) (l' : Array Bool) {v : Value} {a' : Act} (H : Aside0 (Bx w0 L W)) (hr : (execOp a.eval oi).run Tryz.prog W = .ok (.value v) W) (h : wpAnyLast Tryz.prog .any ops Q (Bx w0 L) ds fuel l' a' W) (hi : ops[i]? = some oi := by rfl) (hN : oi.dst = some N := by rfl) (hc : readyB .any ops l l' i = true := by kernel_rfl) (hd : i ∉ ds := by decide) (hw : Region.wanted oi (yielded ops a.tmps) = true := by rfl)
    (ha : a.put (some N) v = a' := by simp only [Act.put, sA, sB, sC]; rfl) : wpAnyLast Tryz.prog .any ops Q (Bx w0 L) ds (fuel + 1) l a W := by
  subst ha
  exact one_ l' hi hN hc hd fun K hK => val_step hw hN hr (hK.out _ _ H.out fun _ => h)
end
theorem zero_kind (w : World) : (zeroValue 112).run Tryz.prog w = .ok .nilFunc w := by kernel_rfl
def evRight (ek eb er : Int) : Bool := if ek = 1 then evFull eb er else if ek = 2 ∨ ek = 6 then evBytes eb er else evBare eb er
/-- What an event's check answers; ct tells whether its time may be. -/
def evN (ek eb er : Int) (ct : Bool) : Int := if 1 ≤ ek ∧ ek ≤ 7 then cond ct (cond (evRight ek eb er) 0 201) 51 else 200
theorem ev_right (ek ea eb er : Int) (h : 1 ≤ ek ∧ ek ≤ 7) : ∃ (i : Nat) (f : Nat), Instr.findNow (.int .i64) (.int .i64 ek) kinds_map.toList 0 = some (some (i, .func (.func f) #[] #[])) ∧ (∀ (args : Array Value) (W : World), (callFunc f args).run Tryz.prog W = .ok (.enter f args) W) ∧
    ∀ W : World, Calls Tryz.prog f #[.agg #[.int .i64 ek, .int .i64 ea, .int .i64 eb, .int .i64 er]] W fun e w' => e = .returned (.bool (evRight ek eb er)) ∧ Below W.heap.size W w' := by
  obtain ⟨i, f, hf, hc⟩ := find_some ek h
  refine ⟨i, f, hf, ?_⟩
  rcases hc with ⟨h1, rfl⟩ | ⟨h1, rfl⟩ | ⟨h1, rfl⟩
  · exact ⟨fun args W => enters_ Tryz.func116 (by kernel_rfl) rfl args W, fun W => by unfold evRight; rw [if_pos h1]; exact evFull_w ek ea eb er W⟩
  · exact ⟨fun args W => enters_ Tryz.func117 (by kernel_rfl) rfl args W, fun W => by unfold evRight; rw [if_neg (by omega), if_pos h1]; exact evBytes_w ek ea eb er W⟩
  · exact ⟨fun args W => enters_ Tryz.func118 (by kernel_rfl) rfl args W, fun W => by unfold evRight; rw [if_neg (by omega), if_neg (by omega)]; exact evBare_w ek ea eb er W⟩
theorem hd_ {w0 W : World} {L L' : List (Nat × Obj)} (h : Aside0 (Bx w0 (L ++ L') W)) : Aside0 (Bx w0 L W) := ⟨h.out.head⟩
set_option maxRecDepth 100000 in
set_option maxHeartbeats 4000000 in
theorem evcheck_w (ek ea eb er : Int) (ct : Bool) (w : World) (hct : Aside0 (clock_Check.f ea = some ct)) : Calls Tryz.prog 27 #[.agg #[.int .i64 ek, .int .i64 ea, .int .i64 eb, .int .i64 er]] w fun e w' => e = .returned (.int .i64 (evN ek eb er ct)) ∧ Below w.heap.size w w' := by
  have H := Aside0.mk (Bx.start w)
  by_cases hk : 1 ≤ ek ∧ ek ≤ 7
  rotate_left
  · have hf := find_none ek hk
    rw [show evN ek eb er ct = 200 from if_neg hk]
    clear hk
    go_enter Tryz.func27, Tryz.ntmps27
    go_upto_region 1 with (first | ((with_reducible refine gate_dst (N := 1) rfl ?_); refine bxB 1 52 (.tmp 0) H ?_; clear H; intro b1 _ H) | fail)
    refine rgB #[N,N,N,N,N,N,N,N,N] [] H ?_; clear H; intro W1 H
    refine pG 1 (some 7) #[N,Y,N,N,N,N,N,N,N] ?_
    refine lB 2 (some 8) #[N,Y,Y,N,N,N,N,N,N] 0 0 l3 H ?_
    refine mB 0 6 #[Y,Y,Y,N,N,N,N,N,N] H ?_; clear H; intro r W2 H
    refine kM (v := .tuple #[.nilFunc, .bool false]) 3 9 #[Y,Y,Y,Y,N,N,N,N,N] (hd_ H) ?_ ?_
    · simp [execOp, Act.eval, run_missed Tryz.underlying114 Tryz.underlying3 (H.out.get 1 rfl) hf (zero_kind _), Result.andThen]
    refine pG 4 (some 5) #[Y,Y,Y,Y,Y,N,N,N,N] ?_
    refine pG 5 (some 10) #[Y,Y,Y,Y,Y,Y,N,N,N] ?_
    refine pG 6 (some 11) #[Y,Y,Y,Y,Y,Y,Y,N,N] ?_
    refine pG 7 (some 3) #[Y,Y,Y,Y,Y,Y,Y,Y,N] ?_
    refine pG 8 (some 4) #[Y,Y,Y,Y,Y,Y,Y,Y,Y] ?_
    refine done_ (by kernel_rfl) ?_
    go_wp2
    go_ret
    exact ⟨rfl, H.out.lo⟩
  · obtain ⟨i, f, hf, hen, hr⟩ := ev_right ek ea eb er hk
    have HR := Aside0.mk hr
    rw [show evN ek eb er ct = cond ct (cond (evRight ek eb er) 0 201) 51 from if_pos hk]
    clear hk hr
    generalize evRight ek eb er = rt at *
    go_enter Tryz.func27, Tryz.ntmps27
    go_upto_region 1 with (first | ((with_reducible refine gate_dst (N := 1) rfl ?_); refine bxB 1 52 (.tmp 0) H ?_; clear H; intro b1 _ H) | fail)
    refine rgB #[N,N,N,N,N,N,N,N,N] [] H ?_; clear H; intro W1 H
    refine pG 1 (some 7) #[N,Y,N,N,N,N,N,N,N] ?_
    refine lB 2 (some 8) #[N,Y,Y,N,N,N,N,N,N] 0 0 l3 H ?_
    refine mB 0 6 #[Y,Y,Y,N,N,N,N,N,N] H ?_; clear H; intro r W2 H
    refine kM (v := .tuple #[.func (.func f) #[] #[], .bool true]) 3 9 #[Y,Y,Y,Y,N,N,N,N,N] (hd_ H) ?_ ?_
    · simp [execOp, Act.eval, run_found (ok := true) Tryz.underlying114 Tryz.underlying3 (H.out.get 1 rfl) hf, Result.andThen]
    refine pG 4 (some 5) #[Y,Y,Y,Y,Y,N,N,N,N] ?_
    refine pG 5 (some 10) #[Y,Y,Y,Y,Y,Y,N,N,N] ?_
    refine pG 6 (some 11) #[Y,Y,Y,Y,Y,Y,Y,N,N] ?_
    refine pG 7 (some 3) #[Y,Y,Y,Y,Y,Y,Y,Y,N] ?_
    refine pG 8 (some 4) #[Y,Y,Y,Y,Y,Y,Y,Y,Y] ?_
    refine done_ (by kernel_rfl) ?_
    clear hf
    obtain rfl | rfl := Bool.eq_false_or_eq_true ct <;> obtain rfl | rfl := Bool.eq_false_or_eq_true rt
    all_goals go_wp2_with (first
      | (refine bxL 16 17 0 1 l3 H ?_)
      | (refine bxR 52 1 22 0 Tryz.underlying52 H ?_)
      | (go_at_call 61; (with_reducible refine (clock_Check_b ea _ _ hct.out).mono ?_); rintro e w9 ⟨rfl, hb⟩; replace H := Aside0.mk (H.out.below hb); clear hb)
      | ((with_reducible refine (HR.out _).mono ?_); rintro e w9 ⟨rfl, hb⟩; replace H := Aside0.mk (H.out.below hb); clear hb)
      | fail)
    all_goals (go_ret; exact ⟨rfl, H.out.lo⟩)
section
variable {ops : Array Oper} {Q : Exit → Act → World → Prop} {ds : List Nat} {fuel : Nat} {l : Array Bool} {a a' : Act} {W w0 : World} {L : List (Nat × Obj)} {oi : Oper} {v : Value} {t : TypeId} {x : Tmp} {p : Addr}
/-- What was there ahead is read. -/
theorem lI (i : Nat) (N : Option Tmp) (l' : Array Bool) (hp : w0.cell? p = some v) (hL : Ld1 t v) (H : Aside0 (Bx w0 L W)) (h : wpAnyLast Tryz.prog .any ops Q (Bx w0 L) ds fuel l' a' W) (hi : ops[i]? = some oi := by rfl) (hN : oi.dst = N := by rfl) (hop : oi.op = .load t (.tmp x) := by rfl)
    (hx : a.tmps.getD x undef = .pointer (some p) := by rfl) (hw : Region.wanted oi (yielded ops a.tmps) = true := by rfl) (hc : takeB .any ops ds l l' i = true := by kernel_rfl)
    (hQ : ∀ c a w, Q (.panic c) (a.put oi.dst v) w → Q (.panic c) a w := by exact fun _ _ _ h => h) (ha : a.put N v = a' := by simp only [Act.put, sA, sB, sC, i64_w, i32_w]; rfl) : wpAnyLast Tryz.prog .any ops Q (Bx w0 L) ds (fuel + 1) l a W :=
  take_ l' hi hN hc hQ (.inl ⟨hw, fun w hS => y_load hop (ev_tmp hx) (hL w _ ((hS.lo.cell (World.block_lt_of_cell? w0 _ hp)).trans hp))⟩) H.out ha h
/-- A variable is made. -/
theorem vB (i N : Nat) (l' : Array Bool) (cs : Array Value) {ac : Nat → Act} (H : Aside0 (Bx w0 L W)) (hrun : ∀ W, (Instr.alloc t true (.tuple #[])).run Tryz.prog W = .ok (.pointer (some ⟨W.heap.size, 0, none⟩)) (W.alloc (.cells cs t))) (h : ∀ b W', Aside0 (Bx w0 (L ++ [(b, .cells cs t (0, 0))]) W') → wpAnyLast Tryz.prog .any ops Q (Bx w0 L) ds fuel l' (ac b) W')
    (hi : ops[i]? = some oi := by rfl) (hN : oi.dst = some N := by rfl) (hop : oi.op = .alloc t := by rfl) (hc : readyB .any ops l l' i = true := by kernel_rfl) (hd : i ∉ ds := by decide) (hw : Region.wanted oi (yielded ops a.tmps) = true := by rfl)
    (ha : ∀ b, a.put (some N) (.pointer (some ⟨b, 0, none⟩)) = ac b := by intro _; simp only [Act.put, sA, sB, sC]; rfl) : wpAnyLast Tryz.prog .any ops Q (Bx w0 L) ds (fuel + 1) l a W := by
  refine one_ l' hi hN hc hd fun K hK => val_step hw hN (w1 := W.alloc (.cells cs t)) (v := .pointer (some ⟨W.heap.size, 0, none⟩)) (by simp [execOp, hop, hrun, Result.andThen]) (hK.out _ _ (H.out.below (below_alloc (Below.refl _ _) _)) fun _ => ?_)
  rw [ha]
  exact h _ _ ⟨H.out.new rfl (blk_new W _) (below_alloc (Below.refl _ _) _)⟩
end
set_option maxRecDepth 100000 in
set_option maxHeartbeats 4000000 in
theorem decode_w (A : Option Addr) (c : Nat) (l : List Int) (w : World) (hC : Kd.C (Kd.int .i64) w A l.length l) (hev : ∀ a : Int, ∃ ct, clock_Check.f a = some ct) :
    Calls Tryz.prog 12 #[.slice A l.length c] w fun e w' => (∃ k a b r n : Int, e = .returned (.tuple #[.agg #[.int .i64 k, .int .i64 a, .int .i64 b, .int .i64 r], .int .i64 n])) ∧ Below w.heap.size w w' := by
  have H := Aside0.mk (Bx.start w)
  have b52 : ∀ W : World, (Instr.build 52 #[]).run Tryz.prog W = .ok (.agg #[.int .i64 0, .int .i64 0, .int .i64 0, .int .i64 0]) W := fun W => by kernel_rfl
  by_cases h4 : l.length = 4
  rotate_left
  · have c4 : ((l.length : Int) != 4) = true := by simp; omega
    clear hC h4
    go_enter Tryz.func12, Tryz.ntmps12
    go_wp2_with (first
      | ((with_reducible refine gate_dst (N := 2) rfl ?_); refine bxV 2 52 #[.int .i64 0, .int .i64 0, .int .i64 0, .int .i64 0] H (fun _ => by kernel_rfl) ?_; clear H; intro b2 _ H)
      | (refine bxP 52 2 9 0 H ?_; clear H; intro _ H)
      | fail)
    refine bodyPost_ret (results_row_tmp rfl b2 52 _ _ rfl rfl (H.out.get 0 rfl) Tryz.underlying52 (by kernel_rfl)) rfl ⟨⟨0, 0, 0, 0, 201, rfl⟩, H.out.lo⟩
  obtain ⟨k, a, b, r, rfl⟩ : ∃ k a b r, l = [k, a, b, r] := by
    match l, h4 with
    | [k, a, b, r], _ => exact ⟨k, a, b, r, rfl⟩
  obtain ⟨ad, rfl, x0⟩ := Kd.at_int hC 0 (by simp) (by simp)
  obtain ⟨_, e, x1⟩ := Kd.at_int hC 1 (by simp) (by simp); cases e
  obtain ⟨_, e, x2⟩ := Kd.at_int hC 2 (by simp) (by simp); cases e
  obtain ⟨_, e, x3⟩ := Kd.at_int hC 3 (by simp) (by simp); cases e
  replace x0 : w.cell? (ad.add 0) = some (.int .i64 k) := x0
  replace x1 : w.cell? (ad.add 1) = some (.int .i64 a) := x1
  replace x2 : w.cell? (ad.add 2) = some (.int .i64 b) := x2
  replace x3 : w.cell? (ad.add 3) = some (.int .i64 r) := x3
  clear hC h4
  obtain ⟨ct, hct⟩ := hev a
  clear hev
  go_enter Tryz.func12, Tryz.ntmps12
  go_upto_region 3 with (first
    | ((with_reducible refine gate_dst (N := 2) rfl ?_); refine bxV 2 52 #[.int .i64 0, .int .i64 0, .int .i64 0, .int .i64 0] H (fun _ => by kernel_rfl) ?_; clear H; intro b2 _ H)
    | fail)
  refine rgB #[N,N,N,N,N,N,N,N,N,N,N,N,N,N,N] [14] H ?_; clear H; intro W1 H
  refine pG 0 (some 10) #[Y,N,N,N,N,N,N,N,N,N,N,N,N,N,N] ?_
  refine pG (v := .pointer (some (ad.add 0))) 1 (some 11) #[Y,Y,N,N,N,N,N,N,N,N,N,N,N,N,N] ?_
  refine lI 2 (some 12) #[Y,Y,Y,N,N,N,N,N,N,N,N,N,N,N,N] x0 l3 H ?_
  refine pG 3 (some 13) #[Y,Y,Y,Y,N,N,N,N,N,N,N,N,N,N,N] ?_
  refine pG (v := .pointer (some (ad.add 1))) 4 (some 14) #[Y,Y,Y,Y,Y,N,N,N,N,N,N,N,N,N,N] ?_
  refine lI 5 (some 15) #[Y,Y,Y,Y,Y,Y,N,N,N,N,N,N,N,N,N] x1 l3 H ?_
  refine pG 6 (some 16) #[Y,Y,Y,Y,Y,Y,Y,N,N,N,N,N,N,N,N] ?_
  refine pG (v := .pointer (some (ad.add 2))) 7 (some 17) #[Y,Y,Y,Y,Y,Y,Y,Y,N,N,N,N,N,N,N] ?_
  refine lI 8 (some 18) #[Y,Y,Y,Y,Y,Y,Y,Y,Y,N,N,N,N,N,N] x2 l3 H ?_
  refine pG 9 (some 19) #[Y,Y,Y,Y,Y,Y,Y,Y,Y,Y,N,N,N,N,N] ?_
  refine pG (v := .pointer (some (ad.add 3))) 10 (some 20) #[Y,Y,Y,Y,Y,Y,Y,Y,Y,Y,Y,N,N,N,N] ?_
  refine lI 11 (some 21) #[Y,Y,Y,Y,Y,Y,Y,Y,Y,Y,Y,Y,N,N,N] x3 l3 H ?_
  refine pG (v := .agg #[.int .i64 k, .int .i64 a, .int .i64 b, .int .i64 r]) 12 (some 22) #[Y,Y,Y,Y,Y,Y,Y,Y,Y,Y,Y,Y,Y,N,N] ?_
  refine vB 13 4 #[Y,Y,Y,Y,Y,Y,Y,Y,Y,Y,Y,Y,Y,Y,N] #[.int .i64 0, .int .i64 0, .int .i64 0, .int .i64 0] H (fun _ => by kernel_rfl) ?_; clear H; intro b4 _ H
  refine sB' 14 #[Y,Y,Y,Y,Y,Y,Y,Y,Y,Y,Y,Y,Y,Y,Y] 1 H ?_ (hs := rfl); clear H; intro _ H
  refine done_ (by kernel_rfl) ?_
  obtain ⟨n, hn⟩ : ∃ n, evN k b r ct = n := ⟨_, rfl⟩
  have HE := Aside0.mk (fun W => hn ▸ evcheck_w k a b r ct W ⟨hct⟩)
  clear hct hn x0 x1 x2 x3
  replace H := Aside0.mk (show Bx w [(b2, .cells #[.int .i64 0, .int .i64 0, .int .i64 0, .int .i64 0] 52 (0, 0)), (b4, .cells #[.int .i64 k, .int .i64 a, .int .i64 b, .int .i64 r] 52 (0, 0))] _ from H.out)
  by_cases h0 : n = 0
  · have c0 : (n != 0) = false := by rw [h0]; rfl
    go_wp2_with (first
    | (go_at_call 27; (with_reducible refine (HE.out _).mono ?_); rintro e w9 ⟨rfl, hb⟩; replace H := Aside0.mk (H.out.below hb); clear hb)
    | (refine bxR 52 4 23 1 Tryz.underlying52 H ?_)
    | (refine bxP 52 2 27 0 H ?_; clear H; intro _ H)
    | (refine bxR 52 4 29 1 Tryz.underlying52 H ?_)
    | (refine bxP 52 2 29 0 H ?_; clear H; intro _ H)
    | fail)
    refine bodyPost_ret (results_row_tmp rfl b2 52 _ _ rfl rfl (H.out.get 0 rfl) Tryz.underlying52 (by kernel_rfl)) rfl ⟨⟨_, _, _, _, _, rfl⟩, H.out.lo⟩
  · have c0 : (n != 0) = true := bne_iff_ne.2 h0
    go_wp2_with (first
    | (go_at_call 27; (with_reducible refine (HE.out _).mono ?_); rintro e w9 ⟨rfl, hb⟩; replace H := Aside0.mk (H.out.below hb); clear hb)
    | (refine bxR 52 4 23 1 Tryz.underlying52 H ?_)
    | (refine bxP 52 2 27 0 H ?_; clear H; intro _ H)
    | (refine bxR 52 4 29 1 Tryz.underlying52 H ?_)
    | (refine bxP 52 2 29 0 H ?_; clear H; intro _ H)
    | fail)
    refine bodyPost_ret (results_row_tmp rfl b2 52 _ _ rfl rfl (H.out.get 0 rfl) Tryz.underlying52 (by kernel_rfl)) rfl ⟨⟨0, 0, 0, 0, _, rfl⟩, H.out.lo⟩
theorem results_round {fn : Func} {p q r : Tmp} {tmps : Array Value} {W : World} {g : Nat} {x y o b : Value} (hf : fn.results = #[.cell p 42, .tmp q, .tmp r]) (h6 : tmps.getD p undef = .pointer (some ⟨g, 0, none⟩)) (h7 : tmps.getD q undef = o) (h8 : tmps.getD r undef = b) (c0 : W.cell? ⟨g, 0, none⟩ = some x) (c1 : W.cell? ⟨g, 1, none⟩ = some y) : (results fn tmps).run Tryz.prog W = .ok (.tuple #[.agg #[x, y], o, b]) W := by
  have h6' : tmps[p]?.getD undef = .pointer (some ⟨g, 0, none⟩) := by simpa using h6
  have h7' : tmps[q]?.getD undef = o := by simpa using h7
  have h8' : tmps[r]?.getD undef = b := by simpa using h8
  have hu := Tryz.underlying42
  simp [results, hf, h6', h7', h8', asAddr]
  go_simp
set_option maxRecDepth 100000 in
theorem stay_w (n id en : Int) (b : Nat) (w : World) (hb : w.heap[b]? = some (.cells #[.int .i64 id, .int .i64 en] 42 (0, 0))) : Calls Tryz.prog 138 #[.int .i64 n, .pointer (some ⟨b, 0, none⟩)] w fun e w' => e = .returned (.tuple #[.agg #[.int .i64 id, .int .i64 en], .bool false, .int .i64 n]) ∧ Below w.heap.size w w' := by
  have H := Aside0.mk (Bx.start w)
  have HB := Aside0.mk hb
  clear hb
  go_enter Tryz.func138, Tryz.ntmps138
  go_wp2_with (first
    | ((with_reducible refine gate_dst (N := 3) rfl ?_); refine bxV 3 42 #[.int .i64 0, .int .i64 0] H (fun _ => by kernel_rfl) ?_; clear H; intro b3 _ H)
    | ((with_reducible refine gate_dst (N := 6) rfl ?_); refine wpList_load_row rfl 42 (.tmp 1) rfl b rfl 42 #[.int .i64 id, .int .i64 en] (0, 0) _ (blk_below HB.out H.out.lo) Tryz.underlying42 rfl (by kernel_rfl) ?_)
    | (refine bxP 42 3 6 0 H ?_; clear H; intro _ H)
    | fail)
  refine bodyPost_ret (results_round (g := b3) rfl rfl rfl rfl (H.out.z 0 0 _) (H.out.z 0 1 _)) rfl ⟨rfl, H.out.lo⟩
/-- What an answer makes of a round. -/
def rdNext (id en told sent : Int) (ok : Bool) : (Int × Int) × Bool × Int :=
  cond (ok && !decide (told < 0) && !decide (sent < told)) (cond (decide (told < en)) ((id, en), false, 0) (cond (id == 9223372036854775807) ((id, en), false, 201) ((wrap64 (id + 1), sent), true, 0))) ((id, en), false, 201)
set_option maxRecDepth 100000 in
set_option maxHeartbeats 4000000 in
theorem rack_w (id en told sent : Int) (ok : Bool) (q : (Int × Int) × Bool × Int) (hq : rdNext id en told sent ok = q) (hk : round_Check.f id en = some ok) (w : World) :
    Calls Tryz.prog 85 #[.agg #[.int .i64 id, .int .i64 en], .int .i64 told, .int .i64 sent] w fun e w' => e = .returned (.tuple #[.agg #[.int .i64 q.1.1, .int .i64 q.1.2], .bool q.2.1, .int .i64 q.2.2]) ∧ Below w.heap.size w w' := by
  have H := Aside0.mk (Bx.start w)
  have HK := Aside0.mk hk
  have hmf := hmf_
  have hen1 : ∀ (args : Array Value) (W : World), (callFunc 138 args).run Tryz.prog W = .ok (.enter 138 args) W := fun args W => enters_ Tryz.func138 (by kernel_rfl) rfl args W
  clear hk
  obtain rfl | rfl := Bool.eq_false_or_eq_true ok
  rotate_left
  · obtain rfl : ((id, en), false, 201) = q := hq
    go_enter Tryz.func85, Tryz.ntmps85
    go_wp2_with (first
      | (go_at_call 69; (with_reducible refine (round_Check.calls id en _ _ HK.out).mono ?_); rintro e w9 ⟨rfl, hb⟩; replace H := Aside0.mk (H.out.below hb); clear hb)
      | ((with_reducible refine (stay_w 201 id en b3 _ (H.out.get 0 rfl)).mono ?_); rintro e w9 ⟨rfl, hb⟩; replace H := Aside0.mk (H.out.below hb); clear hb)
      | ((with_reducible refine gate_dst (N := 3) rfl ?_); refine bxB 3 42 (.tmp 0) H ?_; clear H; intro b3 _ H)
      | ((with_reducible refine gate_dst (N := 6) rfl ?_); refine bxV 6 42 #[.int .i64 0, .int .i64 0] H (fun _ => by kernel_rfl) ?_; clear H; intro b6 _ H)
      | (refine bxR 42 3 12 0 Tryz.underlying42 H ?_)
      | (refine bxP 42 6 26 1 H ?_; clear H; intro _ H)
      | (refine bxL 31 32 0 1 l3 H ?_)
      | (refine bxP 42 6 36 1 H ?_; clear H; intro _ H)
      | (refine bxL 40 41 0 0 l3 H ?_)
      | (refine bxP 42 6 45 1 H ?_; clear H; intro _ H)
      | (refine bxL 48 49 0 0 l3 H ?_)
      | (refine bxP 42 6 52 1 H ?_; clear H; intro _ H)
      | fail)
    refine bodyPost_ret (results_round (g := b6) rfl rfl rfl rfl (H.out.z 1 0 _) (H.out.z 1 1 _)) rfl ⟨rfl, H.out.lo⟩
  rcases c1 : decide (told < 0) with _ | _
  rotate_left
  · obtain rfl : ((id, en), false, 201) = q := by rw [← hq, rdNext, c1]; rfl
    go_enter Tryz.func85, Tryz.ntmps85
    go_wp2_with (first
      | (go_at_call 69; (with_reducible refine (round_Check.calls id en _ _ HK.out).mono ?_); rintro e w9 ⟨rfl, hb⟩; replace H := Aside0.mk (H.out.below hb); clear hb)
      | ((with_reducible refine (stay_w 201 id en b3 _ (H.out.get 0 rfl)).mono ?_); rintro e w9 ⟨rfl, hb⟩; replace H := Aside0.mk (H.out.below hb); clear hb)
      | ((with_reducible refine gate_dst (N := 3) rfl ?_); refine bxB 3 42 (.tmp 0) H ?_; clear H; intro b3 _ H)
      | ((with_reducible refine gate_dst (N := 6) rfl ?_); refine bxV 6 42 #[.int .i64 0, .int .i64 0] H (fun _ => by kernel_rfl) ?_; clear H; intro b6 _ H)
      | (refine bxR 42 3 12 0 Tryz.underlying42 H ?_)
      | (refine bxP 42 6 26 1 H ?_; clear H; intro _ H)
      | (refine bxL 31 32 0 1 l3 H ?_)
      | (refine bxP 42 6 36 1 H ?_; clear H; intro _ H)
      | (refine bxL 40 41 0 0 l3 H ?_)
      | (refine bxP 42 6 45 1 H ?_; clear H; intro _ H)
      | (refine bxL 48 49 0 0 l3 H ?_)
      | (refine bxP 42 6 52 1 H ?_; clear H; intro _ H)
      | fail)
    refine bodyPost_ret (results_round (g := b6) rfl rfl rfl rfl (H.out.z 1 0 _) (H.out.z 1 1 _)) rfl ⟨rfl, H.out.lo⟩
  rcases c2 : decide (sent < told) with _ | _
  rotate_left
  · obtain rfl : ((id, en), false, 201) = q := by rw [← hq, rdNext, c1, c2]; rfl
    go_enter Tryz.func85, Tryz.ntmps85
    go_wp2_with (first
      | (go_at_call 69; (with_reducible refine (round_Check.calls id en _ _ HK.out).mono ?_); rintro e w9 ⟨rfl, hb⟩; replace H := Aside0.mk (H.out.below hb); clear hb)
      | ((with_reducible refine (stay_w 201 id en b3 _ (H.out.get 0 rfl)).mono ?_); rintro e w9 ⟨rfl, hb⟩; replace H := Aside0.mk (H.out.below hb); clear hb)
      | ((with_reducible refine gate_dst (N := 3) rfl ?_); refine bxB 3 42 (.tmp 0) H ?_; clear H; intro b3 _ H)
      | ((with_reducible refine gate_dst (N := 6) rfl ?_); refine bxV 6 42 #[.int .i64 0, .int .i64 0] H (fun _ => by kernel_rfl) ?_; clear H; intro b6 _ H)
      | (refine bxR 42 3 12 0 Tryz.underlying42 H ?_)
      | (refine bxP 42 6 26 1 H ?_; clear H; intro _ H)
      | (refine bxL 31 32 0 1 l3 H ?_)
      | (refine bxP 42 6 36 1 H ?_; clear H; intro _ H)
      | (refine bxL 40 41 0 0 l3 H ?_)
      | (refine bxP 42 6 45 1 H ?_; clear H; intro _ H)
      | (refine bxL 48 49 0 0 l3 H ?_)
      | (refine bxP 42 6 52 1 H ?_; clear H; intro _ H)
      | fail)
    refine bodyPost_ret (results_round (g := b6) rfl rfl rfl rfl (H.out.z 1 0 _) (H.out.z 1 1 _)) rfl ⟨rfl, H.out.lo⟩
  rcases c3 : decide (told < en) with _ | _
  rotate_left
  · obtain rfl : ((id, en), false, 0) = q := by rw [← hq, rdNext, c1, c2, c3]; rfl
    go_enter Tryz.func85, Tryz.ntmps85
    go_wp2_with (first
      | (go_at_call 69; (with_reducible refine (round_Check.calls id en _ _ HK.out).mono ?_); rintro e w9 ⟨rfl, hb⟩; replace H := Aside0.mk (H.out.below hb); clear hb)
      | ((with_reducible refine (stay_w 0 id en b3 _ (H.out.get 0 rfl)).mono ?_); rintro e w9 ⟨rfl, hb⟩; replace H := Aside0.mk (H.out.below hb); clear hb)
      | ((with_reducible refine gate_dst (N := 3) rfl ?_); refine bxB 3 42 (.tmp 0) H ?_; clear H; intro b3 _ H)
      | ((with_reducible refine gate_dst (N := 6) rfl ?_); refine bxV 6 42 #[.int .i64 0, .int .i64 0] H (fun _ => by kernel_rfl) ?_; clear H; intro b6 _ H)
      | (refine bxR 42 3 12 0 Tryz.underlying42 H ?_)
      | (refine bxP 42 6 26 1 H ?_; clear H; intro _ H)
      | (refine bxL 31 32 0 1 l3 H ?_)
      | (refine bxP 42 6 36 1 H ?_; clear H; intro _ H)
      | (refine bxL 40 41 0 0 l3 H ?_)
      | (refine bxP 42 6 45 1 H ?_; clear H; intro _ H)
      | (refine bxL 48 49 0 0 l3 H ?_)
      | (refine bxP 42 6 52 1 H ?_; clear H; intro _ H)
      | fail)
    refine bodyPost_ret (results_round (g := b6) rfl rfl rfl rfl (H.out.z 1 0 _) (H.out.z 1 1 _)) rfl ⟨rfl, H.out.lo⟩
  rcases c4 : (id == 9223372036854775807) with _ | _
  · obtain rfl : ((wrap64 (id + 1), sent), true, 0) = q := by rw [← hq, rdNext, c1, c2, c3, c4]; rfl
    go_enter Tryz.func85, Tryz.ntmps85
    go_wp2_with (first
      | (go_at_call 69; (with_reducible refine (round_Check.calls id en _ _ HK.out).mono ?_); rintro e w9 ⟨rfl, hb⟩; replace H := Aside0.mk (H.out.below hb); clear hb)
      | ((with_reducible refine gate_dst (N := 3) rfl ?_); refine bxB 3 42 (.tmp 0) H ?_; clear H; intro b3 _ H)
      | ((with_reducible refine gate_dst (N := 6) rfl ?_); refine bxV 6 42 #[.int .i64 0, .int .i64 0] H (fun _ => by kernel_rfl) ?_; clear H; intro b6 _ H)
      | (refine bxR 42 3 12 0 Tryz.underlying42 H ?_)
      | (refine bxP 42 6 26 1 H ?_; clear H; intro _ H)
      | (refine bxL 31 32 0 1 l3 H ?_)
      | (refine bxP 42 6 36 1 H ?_; clear H; intro _ H)
      | (refine bxL 40 41 0 0 l3 H ?_)
      | (refine bxP 42 6 45 1 H ?_; clear H; intro _ H)
      | (refine bxL 48 49 0 0 l3 H ?_)
      | (refine bxP 42 6 52 1 H ?_; clear H; intro _ H)
      | fail)
    refine bodyPost_ret (results_round (g := b6) rfl rfl rfl rfl (H.out.z 1 0 _) (H.out.z 1 1 _)) rfl ⟨rfl, H.out.lo⟩
  · obtain rfl : ((id, en), false, 201) = q := by rw [← hq, rdNext, c1, c2, c3, c4]; rfl
    go_enter Tryz.func85, Tryz.ntmps85
    go_wp2_with (first
      | (go_at_call 69; (with_reducible refine (round_Check.calls id en _ _ HK.out).mono ?_); rintro e w9 ⟨rfl, hb⟩; replace H := Aside0.mk (H.out.below hb); clear hb)
      | ((with_reducible refine (stay_w 201 id en b3 _ (H.out.get 0 rfl)).mono ?_); rintro e w9 ⟨rfl, hb⟩; replace H := Aside0.mk (H.out.below hb); clear hb)
      | ((with_reducible refine gate_dst (N := 3) rfl ?_); refine bxB 3 42 (.tmp 0) H ?_; clear H; intro b3 _ H)
      | ((with_reducible refine gate_dst (N := 6) rfl ?_); refine bxV 6 42 #[.int .i64 0, .int .i64 0] H (fun _ => by kernel_rfl) ?_; clear H; intro b6 _ H)
      | (refine bxR 42 3 12 0 Tryz.underlying42 H ?_)
      | (refine bxP 42 6 26 1 H ?_; clear H; intro _ H)
      | (refine bxL 31 32 0 1 l3 H ?_)
      | (refine bxP 42 6 36 1 H ?_; clear H; intro _ H)
      | (refine bxL 40 41 0 0 l3 H ?_)
      | (refine bxP 42 6 45 1 H ?_; clear H; intro _ H)
      | (refine bxL 48 49 0 0 l3 H ?_)
      | (refine bxP 42 6 52 1 H ?_; clear H; intro _ H)
      | fail)
    refine bodyPost_ret (results_round (g := b6) rfl rfl rfl rfl (H.out.z 1 0 _) (H.out.z 1 1 _)) rfl ⟨rfl, H.out.lo⟩
end Go.Proofs.YtfahbgkoldoflaaGreatDoor.Px
