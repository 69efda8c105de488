/- By hand. Conditions: none beside the theorems' own. -/
import Derived.Test.YtfahbgkoldoflaaGreatDoorSpec
import Derived.Great.BuildSlice
import Derived.Test.YtfahbgkoldoflaaGreatDoorPx0
import Derived.Test.YtfahbgkoldoflaaGreatDoorPx7
import Derived.Test.YtfahbgkoldoflaaGreatDoorPx8
import Derived.Test.YtfahbgkoldoflaaGreatDoorPx9
import Derived.Test.YtfahbgkoldoflaaGreatDoorPx11
import Derived.Test.YtfahbgkoldoflaaGreatDoorPx12
import Derived.Test.YtfahbgkoldoflaaGreatDoorPx14
import Derived.Test.YtfahbgkoldoflaaGreatDoorPx20
import Derived.Test.YtfahbgkoldoflaaGreatDoorPx21
import Derived.Test.YtfahbgkoldoflaaGreatDoorPx23
import Derived.Test.YtfahbgkoldoflaaGreatDoorPx24
import Derived.Test.YtfahbgkoldoflaaGreatDoorPx25
import Derived.Test.YtfahbgkoldoflaaGreatDoorPx27
import Derived.Test.YtfahbgkoldoflaaGreatDoorPx28
import Derived.Test.YtfahbgkoldoflaaGreatDoorPx29
import Derived.Test.YtfahbgkoldoflaaGreatDoorPx30
import Derived.Test.YtfahbgkoldoflaaGreatDoorPx31
import Derived.Test.YtfahbgkoldoflaaGreatDoorPx34
import Derived.Test.YtfahbgkoldoflaaGreatDoorPx35
import Derived.Test.YtfahbgkoldoflaaGreatDoorPx36
import Derived.Test.YtfahbgkoldoflaaGreatDoorPx37
import Derived.Test.YtfahbgkoldoflaaGreatDoorPx38
import Derived.Test.YtfahbgkoldoflaaGreatDoorPx39
import Derived.Test.YtfahbgkoldoflaaGreatDoorPx40
namespace Go.Proofs.YtfahbgkoldoflaaGreatDoor.Px
open Go.RowKit Go.Proofs.YtfahbgkoldoflaaGreatDoorW.PrintWords Go.Proofs.YtfahbgkoldoflaaGreatDoorW.PrintLast Go.Proofs.YtfahbgkoldoflaaGreatDoorW.PrintMore
attribute [local go_sem] max2_int min2_int max_two min_two max_three min_three max_four min_four   -- for this text's walks alone
set_option linter.unusedVariables false
set_option linter.unusedSimpArgs false

/-! ### sawtoothtop_awake: function 6 -/
/-! top: by hand -/
theorem hystart_one : hystart_Check.f 0 100000 1 false false 0 0 = some true := by
  unfold hystart_Check.f
  exact Sp.need_pos (by unfold hyFine; simp)
set_option maxRecDepth 100000 in
set_option maxHeartbeats 2000000 in
theorem hround_w (w : World) : Calls Tryz.prog 88 #[.agg #[.int .i64 0, .int .i64 100000, .int .i64 1, .bool false, .bool false, .int .i64 0, .int .i64 0]] w fun e w' => e = .returned (.tuple #[.agg #[.int .i64 100000, .int .i64 0, .int .i64 0, .bool false, .bool false, .int .i64 0, .int .i64 0], .int .i64 0]) ∧ Below w.heap.size w w' := by
  have HB := Aside0.mk (Below.refl w.heap.size w)
  have hu44 := Tryz.underlying44
  have HC := Aside0.mk hystart_one
  go_enter Tryz.func88, Tryz.ntmps88
  go_upto_region 4 with (first
    | ((with_reducible refine gate_dst (N := 1) rfl ?_); refine box_event ?hg (N := 1) ?hd (cs := #[.int .i64 0, .int .i64 100000, .int .i64 1, .bool false, .bool false, .int .i64 0, .int .i64 0]) (t := 44) ?hr ?_; (case hd => rfl); (case hg => rfl); (case hr => first | (go_simp; done) | (go_simp; rfl)); intro b1 hg wb hbox hb; have B1 := Aside0.mk hbox; obtain ⟨G1, nHB⟩ := geA hg hb; replace HB := nHB; clear nHB; clear hg hb hbox)
    | ((with_reducible refine gate_dst (N := 2) rfl ?_); refine box_event ?hg (N := 2) ?hd (cs := #[.int .i64 0, .int .i64 0, .int .i64 0, .bool false, .bool false, .int .i64 0, .int .i64 0]) (t := 44) ?hr ?_; (case hd => rfl); (case hg => rfl); (case hr => first | (go_simp; done) | (go_simp; rfl)); intro b2 hg wb hbox hb; have B2 := Aside0.mk hbox; obtain ⟨G2, nHB⟩ := geA hg hb; replace HB := nHB; clear nHB; obtain ⟨N12, M12, nB⟩ := nbA B1 hg hb; replace B1 := nB; clear nB; clear hg hb hbox; have z0 := czZ B1 0 (.int .i64 0); have z1 := czZ B1 1 (.int .i64 100000); have z2 := czZ B1 2 (.int .i64 1); have z3 := czZ B1 3 (.bool false); have z4 := czZ B1 4 (.bool false); have z5 := czZ B1 5 (.int .i64 0); have z6 := czZ B1 6 (.int .i64 0))
    | (go_at_call 70; (with_reducible refine (hystart_Check.calls 0 100000 1 false false 0 0 true _ HC.out).mono ?_); rintro e wc ⟨rfl, hb⟩; clear z0 z1 z2 z3 z4 z5 z6; replace B1 := bbZ B1 hb; replace B2 := bbZ B2 hb; replace HB := Aside0.mk (below_step HB.out hb); clear hb; have z0 := czZ B1 0 (.int .i64 0); have zf0 := blk_frozen B1.out 0; have z1 := czZ B1 1 (.int .i64 100000); have zf1 := blk_frozen B1.out 1; have z2 := czZ B1 2 (.int .i64 1); have zf2 := blk_frozen B1.out 2; have z3 := czZ B1 3 (.bool false); have zf3 := blk_frozen B1.out 3; have z4 := czZ B1 4 (.bool false); have zf4 := blk_frozen B1.out 4; have z5 := czZ B1 5 (.int .i64 0); have zf5 := blk_frozen B1.out 5; have z6 := czZ B1 6 (.int .i64 0); have zf6 := blk_frozen B1.out 6)
    | fail)
  have b1' := (blk_set (blk_set (blk_set B1.out 0 (.int .i64 100000)) 1 (.int .i64 0)) 2 (.int .i64 0))
  have b2' := (blk_far (p := ⟨b1, 2, none⟩) (blk_far (p := ⟨b1, 1, none⟩) (blk_far (p := ⟨b1, 0, none⟩) B2.out M12.out (.int .i64 100000)) M12.out (.int .i64 0)) M12.out (.int .i64 0))
  have hb' := (((HB.out.setCell (p := ⟨b1, 0, none⟩) G1.out (.int .i64 100000)).setCell (p := ⟨b1, 1, none⟩) G1.out (.int .i64 0)).setCell (p := ⟨b1, 2, none⟩) G1.out (.int .i64 0))
  replace B1 := Aside0.mk b1'; replace B2 := Aside0.mk b2'; replace HB := Aside0.mk hb'
  clear b1' b2' hb' z0 z1 z2 z3 z4 z5 z6 zf0 zf1 zf2 zf3 zf4 zf5 zf6
  generalize (World.setCell (World.setCell (World.setCell wc ⟨b1, 0, none⟩ (.int .i64 100000)) ⟨b1, 1, none⟩ (.int .i64 0)) ⟨b1, 2, none⟩ (.int .i64 0)) = wn at B1 B2 HB ⊢
  replace B1 : Aside0 (wn.heap[b1]? = some (Obj.cells #[.int .i64 100000, .int .i64 0, .int .i64 0, .bool false, .bool false, .int .i64 0, .int .i64 0] 44 (0, 0))) := B1
  have z0 := czZ B1 0 (.int .i64 100000); have z1 := czZ B1 1 (.int .i64 0); have z2 := czZ B1 2 (.int .i64 0); have z3 := czZ B1 3 (.bool false); have z4 := czZ B1 4 (.bool false); have z5 := czZ B1 5 (.int .i64 0); have z6 := czZ B1 6 (.int .i64 0); have y0 := czZ B2 0 (.int .i64 0); have yf0 := blk_frozen B2.out 0; have y1 := czZ B2 1 (.int .i64 0); have yf1 := blk_frozen B2.out 1; have y2 := czZ B2 2 (.int .i64 0); have yf2 := blk_frozen B2.out 2; have y3 := czZ B2 3 (.bool false); have yf3 := blk_frozen B2.out 3; have y4 := czZ B2 4 (.bool false); have yf4 := blk_frozen B2.out 4; have y5 := czZ B2 5 (.int .i64 0); have yf5 := blk_frozen B2.out 5; have y6 := czZ B2 6 (.int .i64 0); have yf6 := blk_frozen B2.out 6
  have n1 := N12.out; have n2 := M12.out
  go_wp2
  have pf := (blk_set (blk_set (blk_set (blk_set (blk_set (blk_set (blk_set B2.out 0 (.int .i64 100000)) 1 (.int .i64 0)) 2 (.int .i64 0)) 3 (.bool false)) 4 (.bool false)) 5 (.int .i64 0)) 6 (.int .i64 0))
  refine bodyPost_ret (results_row_tmp (fn := Tryz.f88) (p := 2) (q := 3) (ty := 44) rfl b2 44 #[.int .i64 100000, .int .i64 0, .int .i64 0, .bool false, .bool false, .int .i64 0, .int .i64 0] _ rfl rfl pf hu44 (by kernel_rfl)) rfl ⟨rfl, (((((((HB.out.setCell (p := ⟨b2, 0, none⟩) G2.out (.int .i64 100000)).setCell (p := ⟨b2, 1, none⟩) G2.out (.int .i64 0)).setCell (p := ⟨b2, 2, none⟩) G2.out (.int .i64 0)).setCell (p := ⟨b2, 3, none⟩) G2.out (.bool false)).setCell (p := ⟨b2, 4, none⟩) G2.out (.bool false)).setCell (p := ⟨b2, 5, none⟩) G2.out (.int .i64 0)).setCell (p := ⟨b2, 6, none⟩) G2.out (.int .i64 0))⟩
set_option maxRecDepth 100000 in
set_option maxHeartbeats 2000000 in
theorem rtt_w (w : World) : Calls Tryz.prog 134 #[.agg #[.bool false, .int .i64 0, .int .i64 0], .int .i64 100000] w fun e w' => e = .returned (.tuple #[.agg #[.bool true, .int .i64 800000, .int .i64 200000], .int .i64 0]) ∧ Below w.heap.size w w' := by
  have HB := Aside0.mk (Below.refl w.heap.size w)
  have hu39 := Tryz.underlying39
  have hu203 := Tryz.underlying203
  have HC : Aside0 (rtt_Check.f false 0 0 = some true) := ⟨by simp [rtt_Check.f]⟩
  have HF : Aside0 (rtt_first.f 100000 = some (true, 800000, 200000)) := ⟨by simp [rtt_first.f, wrap64]⟩
  go_enter Tryz.func134, Tryz.ntmps134
  go_upto_region 3 with (first
    | ((with_reducible refine gate_dst (N := 2) rfl ?_); refine box_event ?hg (N := 2) ?hd (cs := #[.bool false, .int .i64 0, .int .i64 0]) (t := 39) ?hr ?_; (case hd => rfl); (case hg => rfl); (case hr => first | (go_simp; done) | (go_simp; rfl)); intro b2 hg wb hbox hb; have B2 := Aside0.mk hbox; obtain ⟨G2, nHB⟩ := geA hg hb; replace HB := nHB; clear nHB; clear hg hb hbox)
    | ((with_reducible refine gate_dst (N := 4) rfl ?_); refine box_event ?hg (N := 4) ?hd (cs := #[.bool false, .int .i64 0, .int .i64 0]) (t := 39) ?hr ?_; (case hd => rfl); (case hg => rfl); (case hr => first | (go_simp; done) | (go_simp; rfl)); intro b4 hg wb hbox hb; have B4 := Aside0.mk hbox; obtain ⟨G4, nHB⟩ := geA hg hb; replace HB := nHB; clear nHB; obtain ⟨N24, M24, nB⟩ := nbA B2 hg hb; replace B2 := nB; clear nB; clear hg hb hbox; have z0 := czZ B2 0 (.bool false); have z1 := czZ B2 1 (.int .i64 0); have z2 := czZ B2 2 (.int .i64 0))
    | ((with_reducible refine gate_dst (N := 6) rfl ?_); refine box_event ?hg (N := 6) ?hd (cs := #[.bool false, .int .i64 0, .int .i64 0]) (t := 203) ?hr ?_; (case hd => rfl); (case hg => rfl); (case hr => first | (go_simp; done) | (go_simp; rfl)); intro b6 hg wb hbox hb; have B6 := Aside0.mk hbox; obtain ⟨G6, nHB⟩ := geA hg hb; replace HB := nHB; clear nHB; obtain ⟨N26, M26, nB⟩ := nbA B2 hg hb; replace B2 := nB; clear nB; obtain ⟨N46, M46, nB⟩ := nbA B4 hg hb; replace B4 := nB; clear nB; clear hg hb hbox; clear z0 z1 z2; have y0 := czZ B6 0 (.bool false); have yf0 := blk_frozen B6.out 0; have y1 := czZ B6 1 (.int .i64 0); have yf1 := blk_frozen B6.out 1; have y2 := czZ B6 2 (.int .i64 0); have yf2 := blk_frozen B6.out 2)
    | fail)
  have b6' := (blk_set (blk_set (blk_set B6.out 0 (.bool false)) 1 (.int .i64 0)) 2 (.int .i64 0))
  have b2' := (blk_far (p := ⟨b6, 2, none⟩) (blk_far (p := ⟨b6, 1, none⟩) (blk_far (p := ⟨b6, 0, none⟩) B2.out N26.out (.bool false)) N26.out (.int .i64 0)) N26.out (.int .i64 0))
  have b4' := (blk_far (p := ⟨b6, 2, none⟩) (blk_far (p := ⟨b6, 1, none⟩) (blk_far (p := ⟨b6, 0, none⟩) B4.out N46.out (.bool false)) N46.out (.int .i64 0)) N46.out (.int .i64 0))
  have hb' := (((HB.out.setCell (p := ⟨b6, 0, none⟩) G6.out (.bool false)).setCell (p := ⟨b6, 1, none⟩) G6.out (.int .i64 0)).setCell (p := ⟨b6, 2, none⟩) G6.out (.int .i64 0))
  replace B6 := Aside0.mk b6'; replace B2 := Aside0.mk b2'; replace B4 := Aside0.mk b4'; replace HB := Aside0.mk hb'
  clear b6' b2' b4' hb' y0 y1 y2 yf0 yf1 yf2
  generalize (World.setCell (World.setCell (World.setCell wb ⟨b6, 0, none⟩ (.bool false)) ⟨b6, 1, none⟩ (.int .i64 0)) ⟨b6, 2, none⟩ (.int .i64 0)) = wn at B2 B4 B6 HB ⊢
  replace B6 : Aside0 (wn.heap[b6]? = some (Obj.cells #[.bool false, .int .i64 0, .int .i64 0] 203 (0, 0))) := B6
  have z0 := czZ B2 0 (.bool false); have z1 := czZ B2 1 (.int .i64 0); have z2 := czZ B2 2 (.int .i64 0)
  go_upto_region 7 with (first
    | (go_at_call 66; (with_reducible refine (rtt_Check.calls false 0 0 true _ HC.out).mono ?_); rintro e wc ⟨rfl, hb⟩; clear z0 z1 z2; replace B2 := bbZ B2 hb; replace B4 := bbZ B4 hb; replace B6 := bbZ B6 hb; replace HB := Aside0.mk (below_step HB.out hb); clear hb; have y0 := czZ B6 0 (.bool false); have y1 := czZ B6 1 (.int .i64 0); have y2 := czZ B6 2 (.int .i64 0))
    | (go_at_call 155; (with_reducible refine (rtt_first.calls 100000 true 800000 200000 _ HF.out).mono ?_); rintro e wd ⟨rfl, hb⟩; clear y0 y1 y2; replace B4 := bbZ B4 hb; replace B6 := bbZ B6 hb; replace HB := Aside0.mk (below_step HB.out hb); clear hb; have y0 := czZ B6 0 (.bool false); have yf0 := blk_frozen B6.out 0; have y1 := czZ B6 1 (.int .i64 0); have yf1 := blk_frozen B6.out 1; have y2 := czZ B6 2 (.int .i64 0); have yf2 := blk_frozen B6.out 2)
    | fail)
  have b6' := (blk_set (blk_set (blk_set B6.out 0 (.bool true)) 1 (.int .i64 800000)) 2 (.int .i64 200000))
  have b4' := (blk_far (p := ⟨b6, 2, none⟩) (blk_far (p := ⟨b6, 1, none⟩) (blk_far (p := ⟨b6, 0, none⟩) B4.out N46.out (.bool true)) N46.out (.int .i64 800000)) N46.out (.int .i64 200000))
  have hb' := (((HB.out.setCell (p := ⟨b6, 0, none⟩) G6.out (.bool true)).setCell (p := ⟨b6, 1, none⟩) G6.out (.int .i64 800000)).setCell (p := ⟨b6, 2, none⟩) G6.out (.int .i64 200000))
  replace B6 := Aside0.mk b6'; replace B4 := Aside0.mk b4'; replace HB := Aside0.mk hb'
  clear b6' b4' hb' y0 y1 y2 yf0 yf1 yf2
  generalize (World.setCell (World.setCell (World.setCell wd ⟨b6, 0, none⟩ (.bool true)) ⟨b6, 1, none⟩ (.int .i64 800000)) ⟨b6, 2, none⟩ (.int .i64 200000)) = wo at B4 B6 HB ⊢
  replace B6 : Aside0 (wo.heap[b6]? = some (Obj.cells #[.bool true, .int .i64 800000, .int .i64 200000] 203 (0, 0))) := B6
  have y0 := czZ B6 0 (.bool true); have y1 := czZ B6 1 (.int .i64 800000); have y2 := czZ B6 2 (.int .i64 200000); have x0 := czZ B4 0 (.bool false); have xf0 := blk_frozen B4.out 0; have x1 := czZ B4 1 (.int .i64 0); have xf1 := blk_frozen B4.out 1; have x2 := czZ B4 2 (.int .i64 0); have xf2 := blk_frozen B4.out 2
  have n1 := N46.out; have n2 := M46.out
  go_wp2
  have pf := (blk_set (blk_set (blk_set B4.out 0 (.bool true)) 1 (.int .i64 800000)) 2 (.int .i64 200000))
  refine bodyPost_ret (results_row_tmp (fn := Tryz.f134) (p := 4) (q := 5) (ty := 39) rfl b4 39 #[.bool true, .int .i64 800000, .int .i64 200000] _ rfl rfl pf hu39 (by kernel_rfl)) rfl ⟨rfl, (((HB.out.setCell (p := ⟨b4, 0, none⟩) G4.out (.bool true)).setCell (p := ⟨b4, 1, none⟩) G4.out (.int .i64 800000)).setCell (p := ⟨b4, 2, none⟩) G4.out (.int .i64 200000))⟩
/-! ### The two events that the document's own answers take -/
def lnA0 : Ln := { Ln.zero with seg := 1000, mx := 100, fst := 10, grain := 1000, least := 200000, great := 60000000, burst := 100, win := 655360, thresh := 68719476736, bhave := wrap64 (wrap64 (100 * 1000) * 1000000) }
theorem chk_a : guide_Check.f 1000 100 10 1000 200000 60000000 100 = some 0 := by
  unfold guide_Check.f
  rw [Sp.chkQ_ok (by unfold Sp.cfgOk; omega)]
theorem first_a : guide_First.f 1000 100 10 1000 200000 60000000 100 = some 655360 := by
  unfold guide_First.f
  rw [chk_a, Option.bind_some, if_pos rfl, Sp.w64 (by omega)]
  rfl
theorem rate_a : rate_OfS.f 655360 1000 false 0 0 true = some 200000 := by
  rw [rate_OfS.eq (by omega) (by omega) (by omega) (by omega)]
  simp [Sp.rateQ, Sp.max1, Sp.rateN, Sp.rateD, Sp.timeQ, Sp.clamp]
theorem fill_a : bucket_FillS.f 0 (wrap64 (wrap64 (100 * 1000) * 1000000)) 0 200000 100000 = some (0, 100000000000, 0) := by
  rw [show wrap64 (wrap64 (100 * 1000) * 1000000) = 100000000000 by unfold wrap64; omega, bucket_FillS.eq (by omega) (by omega) (by omega) (by omega) (by omega)]
  simp [Sp.fillB, Sp.fillH, Sp.topB, Sp.bOk, Sp.clamp, Sp.near]
theorem fill_b : bucket_FillS.f 0 90000000000 100000 200000 100000 = some (100000, 100000000000, 0) := by
  rw [bucket_FillS.eq (by omega) (by omega) (by omega) (by omega) (by omega)]
  simp [Sp.fillB, Sp.fillH, Sp.topB, Sp.bOk, Sp.clamp, Sp.near]
theorem take_a : bucket_TakeS.f 0 100000000000 10000 = some (0, 90000000000, 0) := by
  rw [bucket_TakeS.eq (by omega)]
  simp [Sp.tkB, Sp.bOk]
theorem bytes_a : frac_BytesS.f 655360 1000 = some (10000, 0) := by
  rw [frac_BytesS.eq (by omega) (by omega), Sp.floorQ_in (by omega) (by omega)]
  rfl
theorem segs_a : frac_SegsS.f 10000 1000 = some (655360, 0) := by
  rw [frac_SegsS.eq (by omega) (by omega), Sp.floorQ_in (by omega) (by omega)]
  rfl
theorem used_a : guide_UsedS.f 655360 10000 1000 = some true := by
  rw [guide_UsedS.eq (by omega) (by omega) (by omega)]
  simp [Sp.usedQ]
theorem rto_a : ∃ k, rto_Of.f k false 0 0 1000 100 10 1000 200000 60000000 100 0 = some 1000000 := by
  refine ⟨4, ?_⟩
  simp [rto_Of.f, rto_within.f, rto_Base.f, rto_Base.j0, rto_Of.l0, mx, mn]
theorem idle_a : guide_Idle.f 655360 0 0 1000000 1000 100 10 1000 200000 60000000 100 = some 655360 := by
  unfold guide_Idle.f
  rw [safe_SubS.eq (by omega) (by omega), Sp.near_in (by omega), Option.bind_some, if_pos (by omega)]
theorem pause_a : guide_Pause.f false 0 0 0 0 0 0 0 = some (false, 0, 0, 0, 0, 0) := by
  unfold guide_Pause.f
  rw [safe_SubS.eq (by omega) (by omega), Sp.near_in (by omega), Option.bind_some, epoch_ShiftS.eq (by omega) (by omega)]
  simp [Sp.laterQ]
theorem fsend_a : flight_Send.f 4 0 0 0 10000 10000 = some (10000, 0, 10000, 0) := by
  simp [flight_Send.f, flight_Send.j0, flight_Check.f, flight_Room.f, wrap64]
theorem fack_a : flight_Ack.f 4 10000 0 10000 10000 = some (10000, 10000, 0, 0) := by
  simp [flight_Ack.f, flight_back.f, flight_back.j0, flight_Check.f, wrap64]
theorem slow_a : grow_Slow.f 655360 655360 100000 0 0 false false 0 0 = some 1179648 := by
  rw [grow_Slow.eq (by omega) (by omega)]
  simp [Sp.slowQ, Sp.partQ, Sp.min2, Sp.win, Sp.clamp]
theorem limit_a : grow_LimitS.f 1179648 (wrap64 (100 * 65536)) = some 1179648 := by
  rw [show wrap64 (100 * 65536) = 6553600 by unfold wrap64; omega, grow_LimitS.eq (by omega) (by omega)]
  simp [Sp.min2, Sp.win, Sp.clamp]
theorem lcheck_nil (A : Option Addr) (c : Nat) (W : World) (hC : Kd.C k119 W A ([] : List S119).length []) (hc : ([] : List S119).length ≤ c) : Calls Tryz.prog 67 #[.slice A ([] : List S119).length c] W fun e w' => e = .returned (.bool true) ∧ Below W.heap.size W w' := least_Check.calls A c [] true W hC hc (by unfold least_Check.f; exact Sp.need_pos rfl)
theorem hycheck_zero (W : World) : Calls Tryz.prog 70 #[.agg #[.int .i64 0, .int .i64 0, .int .i64 0, .bool false, .bool false, .int .i64 0, .int .i64 0]] W fun e w' => e = .returned (.bool true) ∧ Below W.heap.size W w' := hystart_Check.calls 0 0 0 false false 0 0 true W (by unfold hystart_Check.f; exact Sp.need_pos (by unfold hyFine; simp))
theorem fine_of (s : Ln) (hc : s.seg = 1000 ∧ s.mx = 100 ∧ s.fst = 10 ∧ s.grain = 1000 ∧ s.least = 200000 ∧ s.great = 60000000 ∧ s.burst = 100) (h1 : s.now = 0 ∧ s.last = 0 ∧ s.win = 655360 ∧ s.thresh = 68719476736 ∧ s.high = 0) (h2 : flight_Check.f s.sent s.told s.out = some true) (h3 : s.has = false ∧ s.mean = 0 ∧ s.far = 0 ∧ s.rid = 0 ∧ s.rend = 0) (h4 : s.hlast = 0 ∧ s.hleast = 0 ∧ s.hmany = 0 ∧ s.hgentle = false ∧ s.hdone = false ∧ s.hbase = 0 ∧ s.hrounds = 0)
    (h5 : s.eon = false ∧ s.estart = 0 ∧ s.efirst = 0 ∧ s.emax = 0 ∧ s.ek = 0 ∧ s.eest = 0) (h6 : s.recov = 0 ∧ s.back = 0 ∧ s.bat = 0) (h7 : 0 ≤ s.bhave ∧ s.bhave ≤ 1152921504606846976) (h8 : 0 ≤ s.sent) : LnFine s [] := by
  obtain ⟨a1, a2, a3, a4, a5, a6, a7⟩ := hc
  obtain ⟨b1, b2, b3, b4, b5⟩ := h1
  obtain ⟨d1, d2, d3, d4, d5⟩ := h3
  obtain ⟨e1, e2, e3, e4, e5, e6, e7⟩ := h4
  obtain ⟨f1, f2, f3, f4, f5, f6⟩ := h5
  obtain ⟨g1, g2, g3⟩ := h6
  constructor
  · rw [a1, a2, a3, a4, a5, a6, a7]; exact chk_a
  · rw [b1]; simp [clock_Check.f]
  · rw [b1, b2]; simp [engine_between.f]
  · rw [b3, a2, show wrap64 (100 * 65536) = 6553600 by unfold wrap64; omega]; simp [engine_between.f]
  · rw [b4]; simp [engine_between.f]
  · rw [b5]; simp [engine_between.f]
  · exact h2
  · rw [d1, d2, d3]; simp [rtt_Check.f]
  · exact lcheck_nil
  · exact firstIx_miss (fun j hj => absurd hj (Nat.not_lt_zero j))
  · rw [d4, d5]; simp [round_Check.f]
  · rw [e1, e2, e3, e4, e5, e6, e7]; exact hycheck_zero
  · rw [f1, f2, f3, f4, f5, f6, epoch_CheckS.eq (by omega) (by omega) (by omega)]; simp [Sp.eOk]
  · rw [g3, bucket_CheckS.eq]; simp [Sp.bOk, h7]
  · rw [g3, b1]; decide
  · rw [g1]; unfold engine_between.f; rw [if_pos (by omega)]; exact congrArg some (decide_eq_true h8)
  · rw [g2]; simp [engine_between.f]
/-- What is so behind the send. -/
def lnA1 : Ln := { lnA0 with bat := 0, bhave := 90000000000, sent := 10000, out := 10000, lim := false }
def SentA (s : Ln) : Prop := s = lnA1
def BackA (s : Ln) : Prop := s.win = 1179648 ∧ s.now = 100000 ∧ s.told = 10000 ∧ s.lv.oneCell' = true
theorem fine_c0 : LnFine lnA0 [] := fine_of lnA0 ⟨rfl, rfl, rfl, rfl, rfl, rfl, rfl⟩ ⟨rfl, rfl, rfl, rfl, rfl⟩ (by simp [lnA0, Ln.zero, flight_Check.f, wrap64]) ⟨rfl, rfl, rfl, rfl, rfl⟩ ⟨rfl, rfl, rfl, rfl, rfl, rfl, rfl⟩ ⟨rfl, rfl, rfl, rfl, rfl, rfl⟩ ⟨rfl, rfl, rfl⟩ (by simp [lnA0, wrap64]) (by simp [lnA0, Ln.zero])
theorem fine_c1 : LnFine lnA1 [] := fine_of lnA1 ⟨rfl, rfl, rfl, rfl, rfl, rfl, rfl⟩ ⟨rfl, rfl, rfl, rfl, rfl⟩ (by simp [lnA1, lnA0, Ln.zero, flight_Check.f, wrap64]) ⟨rfl, rfl, rfl, rfl, rfl⟩ ⟨rfl, rfl, rfl, rfl, rfl, rfl, rfl⟩ ⟨rfl, rfl, rfl, rfl, rfl, rfl⟩ ⟨rfl, rfl, rfl⟩ (by simp [lnA1, lnA0]) (by simp [lnA1, lnA0])
theorem ev_bytes (W : World) : Calls Tryz.prog 117 #[.agg #[.int .i64 6, .int .i64 0, .int .i64 10000, .int .i64 0]] W fun e w' => e = .returned (.bool true) ∧ Below W.heap.size W w' := event_what_bytes.calls 6 0 10000 0 true W (by simp [event_what_bytes.f, event_what_some.f])
theorem ev_full (W : World) : Calls Tryz.prog 116 #[.agg #[.int .i64 1, .int .i64 100000, .int .i64 10000, .int .i64 100000]] W fun e w' => e = .returned (.bool true) ∧ Below W.heap.size W w' := event_what_full.calls 1 100000 10000 100000 true W (by simp [event_what_full.f, event_what_some.f])
theorem send_a (W : World) : Calls Tryz.prog 27 #[.agg #[.int .i64 6, .int .i64 0, .int .i64 10000, .int .i64 0]] W fun e w' => e = .returned (.int .i64 0) ∧ Below W.heap.size W w' :=
  event_Check_ok 6 0 10000 0 2 117 ⟨rfl⟩ ⟨by simp [clock_Check.f]⟩ ⟨fun args W => enters_ Tryz.func117 (by kernel_rfl) rfl args W⟩ ⟨ev_bytes⟩ W
theorem ack_a (W : World) : Calls Tryz.prog 27 #[.agg #[.int .i64 1, .int .i64 100000, .int .i64 10000, .int .i64 100000]] W fun e w' => e = .returned (.int .i64 0) ∧ Below W.heap.size W w' :=
  event_Check_ok 1 100000 10000 100000 0 116 ⟨rfl⟩ ⟨by simp [clock_Check.f]⟩ ⟨fun args W => enters_ Tryz.func116 (by kernel_rfl) rfl args W⟩ ⟨ev_full⟩ W
theorem check_a (s : Ln) (hs : s.lv = .slice none 0 0) (hF : LnFine s []) {w : World} (hL : Tens w) : ∀ W : World, Below w.heap.size w W → Calls Tryz.prog 30 #[.agg s.cells] W fun e w' => e = .returned (.bool true) ∧ Below W.heap.size W w' := fun W hb =>
  engine_Check_true s [] none 0 W hF hs (Kd.C_nil k119 W) (Nat.le_refl _) (by simp) (tensB hL hb)
/-- The send. -/
theorem do_send (w : World) (hL : Tens w) : Calls Tryz.prog 13 #[.agg lnA0.cells, .agg #[.int .i64 6, .int .i64 0, .int .i64 10000, .int .i64 0]] w fun e w' => ∃ s2, SentA s2 ∧ e = .returned (.tuple #[.agg s2.cells, .int .i64 0]) ∧ Below w.heap.size w w' := by
  obtain ⟨k, hk⟩ := rto_a
  refine engine_Do_ok lnA0 SentA 6 0 10000 0 0 200000 100000 0 100000000000 true 0 38 w hL ⟨rfl⟩ ⟨check_a lnA0 rfl fine_c0 hL⟩ ⟨send_a⟩ ⟨?_⟩ ⟨by simp [lnA0, Ln.zero]⟩ ⟨rate_a⟩ ⟨by simp [lnA0, wrap64]⟩ ⟨fill_a⟩ ⟨rfl⟩ ⟨fun args W => enters_ Tryz.func38 (by kernel_rfl) rfl args W⟩ ⟨fun W g hA _ => ?_⟩ ⟨fun s2 h => by rw [show s2 = lnA1 from h]; rfl⟩
  · show clock_Step.f 0 0 = some (0, 0)
    rw [clock_Step.eq (by omega) (by omega)]
    simp
  · refine (line_send0 g { lnA0 with now := 0, bat := 0, bhave := 100000000000 } k 4 6 0 10000 0 1000000 655360 0 0 0 0 0 10000 10000 0 10000 0 90000000000 false true W hA rfl ⟨hk⟩ ⟨idle_a⟩ ⟨pause_a⟩ ⟨bytes_a⟩ ⟨fsend_a⟩ ⟨take_a⟩ ⟨used_a⟩).mono ?_
    rintro e w' ⟨rfl, h1, h2⟩
    exact ⟨rfl, lnA1, rfl, h1, h2⟩
/-- What is told of behind it. -/
theorem do_ack (s : Ln) (hs : SentA s) (w : World) (hL : Tens w) : Calls Tryz.prog 13 #[.agg s.cells, .agg #[.int .i64 1, .int .i64 100000, .int .i64 10000, .int .i64 100000]] w fun e w' => ∃ s2, BackA s2 ∧ e = .returned (.tuple #[.agg s2.cells, .int .i64 0]) ∧ Below w.heap.size w w' := by
  obtain rfl : s = lnA1 := hs
  refine engine_Do_ok lnA1 BackA 1 100000 10000 100000 100000 200000 100000 100000 100000000000 true 1 39 w hL ⟨rfl⟩ ⟨check_a lnA1 rfl fine_c1 hL⟩ ⟨ack_a⟩ ⟨?_⟩ ⟨by simp [lnA1, lnA0, Ln.zero]⟩ ⟨rate_a⟩ ⟨by simp [lnA1, lnA0, wrap64]⟩ ⟨fill_b⟩ ⟨rfl⟩ ⟨fun args W => enters_ Tryz.func39 (by kernel_rfl) rfl args W⟩ ⟨fun W g hA _ => ?_⟩ ⟨fun s2 h => h.2.2.2⟩
  · show clock_Step.f 0 100000 = some (100000, 0)
    rw [clock_Step.eq (by omega) (by omega)]
    simp
  · refine (line_ack_slow g { lnA1 with now := 100000, bat := 100000, bhave := 100000000000 } 4 1 100000 10000 100000 10000 10000 0 800000 200000 0 100000 1 0 0 100000 0 0 0 0 10000 (wrap64 (0 + 1)) 10000 655360 1179648 1179648 0 true false false false false W hA rfl ⟨rfl⟩ ⟨rfl⟩ ⟨fack_a⟩ ⟨rtt_w⟩ ⟨fun W' _ => least_Put_nil 10000000 100000 100000 (by omega) (by omega) (by omega) (by unfold wrap64; omega) ⟨fun W => lcheck_nil none 0 W (Kd.C_nil k119 _) (Nat.le_refl _)⟩ W'⟩ ⟨by simp [lnA1, lnA0, Ln.zero]⟩ ⟨fun W' => hystart_Sample_first 100000 (by omega) (by omega) ⟨hycheck_zero⟩ W'⟩ ⟨by simp [wrap64]⟩ ⟨fun W' => round_Ack_over 0 0 10000 10000 (by omega) (by omega) (by omega) (by omega) (by omega) (by omega) W'⟩ ⟨hround_w⟩ ⟨by simp [lnA1, lnA0, Ln.zero]⟩ ⟨segs_a⟩ ⟨slow_a⟩ ⟨limit_a⟩).mono ?_
    rintro e w' ⟨A, m, c, rfl, h1, h2⟩
    exact ⟨rfl, _, ⟨rfl, rfl, rfl, rfl⟩, h1, h2⟩
theorem BackA.one {s : Ln} (h : BackA s) : s.cells.all (·.oneCell') = true := s.one h.2.2.2
set_option maxRecDepth 100000 in
set_option maxHeartbeats 4000000 in
theorem turn_a (w : World) (hL : Tens w) : Calls Tryz.prog 16 #[.agg lnA0.cells, .int .i64 0] w fun e w' => ∃ s2, BackA s2 ∧ e = .returned (.tuple #[.agg s2.cells, .bool true]) ∧ Below w.heap.size w w' := by
  have HB := Aside0.mk (Below.refl w.heap.size w)
  have HT := Aside0.mk hL
  clear hL
  go_enter Tryz.func16, Tryz.ntmps16
  go_upto_region 2 with (first
    | ((with_reducible refine gate_dst (N := 2) rfl ?_); refine new_box rfl 48 (.tmp 0) rfl (some 2) rfl lnA0.cells rfl (run_box48 _ _) ?_; intro b2 hg wb hbox hb; have B2 := Aside0.mk hbox; obtain ⟨G2, nHB⟩ := geA hg hb; replace HB := nHB; clear nHB; clear hg hb hbox)
    | ((with_reducible refine gate_dst (N := 4) rfl ?_); refine new_var rfl 48 rfl (some 4) rfl Ln.zero.cells (run_alloc48 _) ?_; intro b4 hg wb hbox hb; have B4 := Aside0.mk hbox; obtain ⟨N24, M24, nB⟩ := nbA B2 hg hb; replace B2 := nB; clear nB; obtain ⟨G4, nHB⟩ := geA hg hb; replace HB := nHB; clear nHB; clear hg hb hbox; have z9 := czZ B2 9 (.int .i64 655360) rfl; have z0 := czZ B2 0 (.int .i64 1000) rfl)
    | (go_at_call 14; (with_reducible refine (frac_BytesS.calls 655360 1000 10000 0 _ bytes_a).mono ?_); rintro e wc ⟨rfl, hb⟩; clear z9 z0; replace B2 := bbZ B2 hb; replace B4 := bbZ B4 hb; replace HB := Aside0.mk (below_step HB.out hb); clear hb)
    | fail)
  go_upto_region 3 with (first
    | ((with_reducible refine gate_dst (N := 22) rfl ?_); refine wpList_load_row rfl 48 (.tmp 2) rfl b2 rfl 48 lnA0.cells (0, 0) _ B2.out Tryz.underlying48 rfl info48 ?_)
    | (go_at_call 13; (with_reducible refine (do_send _ (tensB HT.out HB.out)).mono ?_); rintro e wd ⟨s1, h1, rfl, hb⟩; replace B2 := bbZ B2 hb; replace B4 := bbZ B4 hb; replace HB := Aside0.mk (below_step HB.out hb); clear hb)
    | ((with_reducible refine gate_dst (N := 8) rfl ?_); refine new_var rfl 48 rfl (some 8) rfl Ln.zero.cells (run_alloc48 _) ?_; intro b8 hg wb hbox hb; have B8 := Aside0.mk hbox; obtain ⟨N28, M28, nB⟩ := nbA B2 hg hb; replace B2 := nB; clear nB; obtain ⟨N48, M48, nB⟩ := nbA B4 hg hb; replace B4 := nB; clear nB; obtain ⟨G8, nHB⟩ := geA hg hb; replace HB := nHB; clear nHB; clear hg hb hbox)
    | (refine put_row rfl 48 (.tmp 8) (.tmp 27) rfl rfl b8 s1.cells rfl rfl 48 Ln.zero.cells B8.out info48 rfl (s1.one (by rw [show s1 = lnA1 from h1]; rfl)) ?_; intro wz hbz hwz; replace B8 := Aside0.mk hbz; replace HB := Aside0.mk (hwz.to_below HB.out G8.out HB.out.size); replace B2 := Aside0.mk (hwz.blk B2.out N28.out); replace B4 := Aside0.mk (hwz.blk B4.out N48.out); clear hbz hwz)
    | fail)
  have H1 := Aside0.mk h1
  clear h1
  go_upto_region 4 with (first
    | ((with_reducible refine gate_dst (N := 30) rfl ?_); refine wpList_load_row rfl 48 (.tmp 8) rfl b8 rfl 48 s1.cells (0, 0) _ B8.out Tryz.underlying48 rfl info48 ?_)
    | (go_at_call 13; (with_reducible refine (do_ack s1 H1.out _ (tensB HT.out HB.out)).mono ?_); rintro e wd ⟨s2, h2, rfl, hb⟩; replace B8 := bbZ B8 hb; replace B4 := bbZ B4 hb; replace HB := Aside0.mk (below_step HB.out hb); clear hb)
    | ((with_reducible refine gate_dst (N := 10) rfl ?_); refine new_var rfl 48 rfl (some 10) rfl Ln.zero.cells (run_alloc48 _) ?_; intro b10 hg wb hbox hb; have B10 := Aside0.mk hbox; obtain ⟨N8a, M8a, nB⟩ := nbA B8 hg hb; replace B8 := nB; clear nB; obtain ⟨N4a, M4a, nB⟩ := nbA B4 hg hb; replace B4 := nB; clear nB; obtain ⟨G10, nHB⟩ := geA hg hb; replace HB := nHB; clear nHB; clear hg hb hbox)
    | (refine put_row rfl 48 (.tmp 10) (.tmp 36) rfl rfl b10 s2.cells rfl rfl 48 Ln.zero.cells B10.out info48 rfl h2.one ?_; intro wz hbz hwz; replace B10 := Aside0.mk hbz; replace HB := Aside0.mk (hwz.to_below HB.out G10.out HB.out.size); replace B4 := Aside0.mk (hwz.blk B4.out N4a.out); clear hbz hwz)
    | fail)
  have H2 := Aside0.mk h2
  clear h2
  go_wp2_with (first
    | ((with_reducible refine gate_dst (N := 38) rfl ?_); refine wpList_load_row rfl 48 (.tmp 10) rfl b10 rfl 48 s2.cells (0, 0) _ B10.out Tryz.underlying48 rfl info48 ?_)
    | (refine put_row rfl 48 (.tmp 4) (.tmp 38) rfl rfl b4 s2.cells rfl rfl 48 Ln.zero.cells B4.out info48 rfl H2.out.one ?_; intro wz hbz hwz; replace B4 := Aside0.mk hbz; replace HB := Aside0.mk (hwz.to_below HB.out G4.out HB.out.size); clear hbz hwz)
    | fail)
  refine bodyPost_ret (results_new (g := b4) rfl rfl rfl B4.out rfl) rfl ⟨s2, H2.out, rfl, HB.out⟩

theorem new_a (w : World) : Calls Tryz.prog 11 #[.agg #[.int .i64 1000, .int .i64 100, .int .i64 10, .int .i64 1000, .int .i64 200000, .int .i64 60000000, .int .i64 100]] w fun e w' => e = .returned (.tuple #[.agg lnA0.cells, .int .i64 0]) ∧ Below w.heap.size w w' := engine_New_ok 1000 100 10 1000 200000 60000000 100 655360 ⟨chk_a⟩ ⟨first_a⟩ w
set_option maxRecDepth 100000 in
set_option maxHeartbeats 4000000 in
theorem awake_w (w : World) (hL : Tens w) : Calls Tryz.prog 6 #[] w fun e w' => e = .returned (.bool true) ∧ Below w.heap.size w w' := by
  have HB := Aside0.mk (Below.refl w.heap.size w)
  have HT := Aside0.mk hL
  have HN := Aside0.mk new_a
  clear hL
  go_enter Tryz.func6, Tryz.ntmps6
  go_upto_region 2 with (first
    | ((with_reducible refine gate_dst (N := 1) rfl ?_); refine box_event ?hg (N := 1) ?hd (cs := #[.int .i64 0, .int .i64 0, .int .i64 0, .int .i64 0, .int .i64 0, .int .i64 0, .int .i64 0]) (t := 33) ?hr ?_; (case hd => rfl); (case hg => rfl); (case hr => first | (go_simp; done) | (go_simp; rfl)); intro b1 hg wb hbox hb; have B1 := Aside0.mk hbox; obtain ⟨G1, nHB⟩ := geA hg hb; replace HB := nHB; clear nHB; clear hg hb hbox; have z0 := czZ B1 0 (.int .i64 0); have f0 := blk_frozen B1.out 0; have z1 := czZ B1 1 (.int .i64 0); have f1 := blk_frozen B1.out 1; have z2 := czZ B1 2 (.int .i64 0); have f2 := blk_frozen B1.out 2; have z3 := czZ B1 3 (.int .i64 0); have f3 := blk_frozen B1.out 3; have z4 := czZ B1 4 (.int .i64 0); have f4 := blk_frozen B1.out 4; have z5 := czZ B1 5 (.int .i64 0); have f5 := blk_frozen B1.out 5; have z6 := czZ B1 6 (.int .i64 0); have f6 := blk_frozen B1.out 6)
    | fail)
  have b1' := (blk_set (blk_set (blk_set (blk_set (blk_set (blk_set (blk_set B1.out 0 (.int .i64 1000)) 1 (.int .i64 100)) 2 (.int .i64 10)) 3 (.int .i64 1000)) 4 (.int .i64 200000)) 5 (.int .i64 60000000)) 6 (.int .i64 100))
  have hb' := (((((((HB.out.setCell (p := ⟨b1, 0, none⟩) G1.out (.int .i64 1000)).setCell (p := ⟨b1, 1, none⟩) G1.out (.int .i64 100)).setCell (p := ⟨b1, 2, none⟩) G1.out (.int .i64 10)).setCell (p := ⟨b1, 3, none⟩) G1.out (.int .i64 1000)).setCell (p := ⟨b1, 4, none⟩) G1.out (.int .i64 200000)).setCell (p := ⟨b1, 5, none⟩) G1.out (.int .i64 60000000)).setCell (p := ⟨b1, 6, none⟩) G1.out (.int .i64 100))
  replace B1 := Aside0.mk b1'; replace HB := Aside0.mk hb'
  clear b1' hb' z0 f0 z1 f1 z2 f2 z3 f3 z4 f4 z5 f5 z6 f6
  generalize (World.setCell (World.setCell (World.setCell (World.setCell (World.setCell (World.setCell (World.setCell wb ⟨b1, 0, none⟩ (.int .i64 1000)) ⟨b1, 1, none⟩ (.int .i64 100)) ⟨b1, 2, none⟩ (.int .i64 10)) ⟨b1, 3, none⟩ (.int .i64 1000)) ⟨b1, 4, none⟩ (.int .i64 200000)) ⟨b1, 5, none⟩ (.int .i64 60000000)) ⟨b1, 6, none⟩ (.int .i64 100)) = wn at B1 HB ⊢
  replace B1 : Aside0 (wn.heap[b1]? = some (Obj.cells #[.int .i64 1000, .int .i64 100, .int .i64 10, .int .i64 1000, .int .i64 200000, .int .i64 60000000, .int .i64 100] 33 (0, 0))) := B1
  have z0 := czZ B1 0 (.int .i64 1000); have z1 := czZ B1 1 (.int .i64 100); have z2 := czZ B1 2 (.int .i64 10); have z3 := czZ B1 3 (.int .i64 1000); have z4 := czZ B1 4 (.int .i64 200000); have z5 := czZ B1 5 (.int .i64 60000000); have z6 := czZ B1 6 (.int .i64 100)
  go_upto_region 3 with (first
    | (go_at_call 11; (with_reducible refine (HN.out _).mono ?_); rintro e wc ⟨rfl, hb⟩; clear z0 z1 z2 z3 z4 z5 z6; replace HB := Aside0.mk (below_step HB.out hb); clear hb)
    | ((with_reducible refine gate_dst (N := 2) rfl ?_); refine new_var rfl 48 rfl (some 2) rfl Ln.zero.cells (run_alloc48 _) ?_; intro b2 hg wb hbox hb; have B2 := Aside0.mk hbox; obtain ⟨G2, nHB⟩ := geA hg hb; replace HB := nHB; clear nHB; clear hg hb hbox)
    | (refine put_row rfl 48 (.tmp 2) (.tmp 9) rfl rfl b2 lnA0.cells rfl rfl 48 Ln.zero.cells B2.out info48 rfl (lnA0.one rfl) ?_; intro wz hbz hwz; replace B2 := Aside0.mk hbz; replace HB := Aside0.mk (hwz.to_below HB.out G2.out HB.out.size); clear hbz hwz)
    | fail)
  go_upto_region 4 with (first
    | ((with_reducible refine gate_dst (N := 12) rfl ?_); refine wpList_load_row rfl 48 (.tmp 2) rfl b2 rfl 48 lnA0.cells (0, 0) _ B2.out Tryz.underlying48 rfl info48 ?_)
    | (go_at_call 16; (with_reducible refine (turn_a _ (tensB HT.out HB.out)).mono ?_); rintro e wd ⟨s2, h2, rfl, hb⟩; replace B2 := bbZ B2 hb; replace HB := Aside0.mk (below_step HB.out hb); clear hb)
    | (refine put_row rfl 48 (.tmp 2) (.tmp 14) rfl rfl b2 s2.cells rfl rfl 48 lnA0.cells B2.out info48 rfl h2.one ?_; intro wz hbz hwz; replace B2 := Aside0.mk hbz; replace HB := Aside0.mk (hwz.to_below HB.out G2.out HB.out.size); clear hbz hwz)
    | fail)
  have z9 := czZ B2 9 (.int .i64 1179648) (by rw [← h2.1]; rfl)
  have z7 := czZ B2 7 (.int .i64 100000) (by rw [← h2.2.1]; rfl)
  have z13 := czZ B2 13 (.int .i64 10000) (by rw [← h2.2.2.1]; rfl)
  clear h2
  go_wp2
  go_ret
  exact ⟨rfl, HB.out⟩
noncomputable def sawtoothtop_awake.f : Option Bool := some true
theorem sawtoothtop_awake.calls (r : Bool) (w : World) (h : sawtoothtop_awake.f = some r) (hL : Tens w) :
    Calls Tryz.prog 6 #[] w fun e w' => e = .returned (.bool r) ∧ Below w.heap.size w w' := by
  obtain rfl := Option.some.inj h
  exact awake_w w hL

end Go.Proofs.YtfahbgkoldoflaaGreatDoor.Px
