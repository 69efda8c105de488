/- Printed by px.py, over the kit's print. Conditions: none beside the theorems' own. -/
import Derived.Test.YtfahbgkoldoflaaGreatDoorPx0
import Derived.Test.YtfahbgkoldoflaaGreatDoorPx14
import Derived.Test.YtfahbgkoldoflaaGreatDoorPx15
import Derived.Test.YtfahbgkoldoflaaGreatDoorPx16
import Derived.Test.YtfahbgkoldoflaaGreatDoorSpec
namespace Go.Proofs.YtfahbgkoldoflaaGreatDoor.Px
open Go.RowKit Go.Proofs.YtfahbgkoldoflaaGreatDoorW.PrintWords Go.Proofs.YtfahbgkoldoflaaGreatDoorW.PrintLast Go.Proofs.YtfahbgkoldoflaaGreatDoorW.PrintMore
attribute [local go_sem] max2_int min2_int max_two min_two max_three min_three max_four min_four
set_option linter.unusedVariables false
set_option linter.unusedSimpArgs false

/-! ### big_AddS: a sum: pure, behind function 107 -/
noncomputable def big_AddS.f (n : Bool) (h l : Int) (m : Bool) (i k : Int) : Option (Bool × Int × Int × Int) :=
 Sp.need (Sp.U h ∧ Sp.U l ∧ Sp.U i ∧ Sp.U k) (Sp.held (Sp.val n h l + Sp.val m i k))
section BigAdd
open Go.Proofs.YtfahbgkoldoflaaGreatDoor.Sp
theorem big_Add.main {n m : Bool} {h l i k : Int} (h1 : U h) (h2 : U l) (h3 : U i) (h4 : U k) : big_Add.f n h l m i k = held (val n h l + val m i k) := by
 unfold big_Add.f big_of.f
 simp only [Option.bind_some]
 have hv1 : val n h l = if n = true then -(h * 18446744073709551616 + l) else h * 18446744073709551616 + l := rfl
 have hv2 : val m i k = if m = true then -(i * 18446744073709551616 + k) else i * 18446744073709551616 + k := rfl
 by_cases hn : (n != m) = true
 ·rw [if_pos hn]
  unfold big_size_cmpS.f
  rw [need_pos (by omega)]
  simp only [Option.bind_some]
  have hm : m = !n := by cases n <;> cases m <;> simp_all
  subst hm
  by_cases hc : h * 18446744073709551616 + l < i * 18446744073709551616 + k
  ·have : cmpI (h * 18446744073709551616 + l) (i * 18446744073709551616 + k) < 0 := by unfold cmpI; rw [if_pos hc]; omega
   rw [if_pos this]
   unfold big_size_minusS.f
   rw [need_pos (by omega)]
   simp only [Option.bind_some]
   rw [big_with.eq (by omega) (by omega)]
   simp only [Option.bind_some]
   have e : val (!n) ((i * 18446744073709551616 + k - (h * 18446744073709551616 + l)) / 18446744073709551616) ((i * 18446744073709551616 + k - (h * 18446744073709551616 + l)) % 18446744073709551616) = val n h l + val (!n) i k := by
    rw [hv1, hv2]; unfold val; cases n <;> simp <;> omega
   rw [e]
   have hb : B (val n h l + val (!n) i k) := by rw [hv1, hv2]; cases n <;> simp <;> omega
   unfold held
   rw [if_pos hb]
  ·have : ¬ cmpI (h * 18446744073709551616 + l) (i * 18446744073709551616 + k) < 0 := by unfold cmpI; rw [if_neg hc]; split <;> omega
   rw [if_neg this]
   unfold big_size_minusS.f
   rw [need_pos (by omega)]
   simp only [Option.bind_some]
   rw [big_with.eq (by omega) (by omega)]
   simp only [Option.bind_some]
   have e : val n ((h * 18446744073709551616 + l - (i * 18446744073709551616 + k)) / 18446744073709551616) ((h * 18446744073709551616 + l - (i * 18446744073709551616 + k)) % 18446744073709551616) = val n h l + val (!n) i k := by
    rw [hv1, hv2]; unfold val; cases n <;> simp <;> omega
   rw [e]
   have hb : B (val n h l + val (!n) i k) := by rw [hv1, hv2]; cases n <;> simp <;> omega
   unfold held
   rw [if_pos hb]
 ·rw [if_neg hn]
  have hm : m = n := by cases n <;> cases m <;> simp_all
  subst hm
  unfold bits_Add64.f
  rw [need_pos (by omega)]
  simp only [Option.bind_some]
  rw [need_pos (by omega)]
  simp only [Option.bind_some]
  unfold held
  by_cases c : (h + i + (l + k + 0) / 18446744073709551616) / 18446744073709551616 > 0
  ·rw [if_pos c, if_neg (by rw [hv1, hv2]; cases m <;> simp <;> omega)]
  ·rw [if_neg c, big_with.eq (by omega) (by omega), if_pos (by rw [hv1, hv2]; cases m <;> simp <;> omega)]
   simp only [Option.bind_some]
   have e : val m ((h + i + (l + k + 0) / 18446744073709551616) % 18446744073709551616) ((l + k + 0) % 18446744073709551616) = val m h l + val m i k := by
    rw [hv1, hv2]; unfold val; cases m <;> simp <;> omega
   rw [e]
theorem big_AddS.eq {n m : Bool} {h l i k : Int} (h1 : U h) (h2 : U l) (h3 : U i) (h4 : U k) : big_AddS.f n h l m i k = held (val n h l + val m i k) := need_pos ⟨h1, h2, h3, h4⟩
theorem big_AddS.enc {v w : Int} (h1 : B v) (h2 : B w) : big_AddS.f (encN v) (encH v) (encL v) (encN w) (encH w) (encL w) = held (v + w) := by
 rw [big_AddS.eq (encH_U h1) encL_U (encH_U h2) encL_U, val_enc, val_enc]
theorem big_AddS.le {n : Bool} {h l w : Int} (h1 : U h) (h2 : U l) (h3 : B w) : big_AddS.f n h l (encN w) (encH w) (encL w) = held (val n h l + w) := by
 rw [big_AddS.eq h1 h2 (encH_U h3) encL_U, val_enc]
theorem big_AddS.el {m : Bool} {v i k : Int} (h1 : B v) (h2 : U i) (h3 : U k) : big_AddS.f (encN v) (encH v) (encL v) m i k = held (v + val m i k) := by
 rw [big_AddS.eq (encH_U h1) encL_U h2 h3, val_enc]
end BigAdd
theorem big_AddS.calls (a0_0 : Bool) (a0_1 a0_2 : Int) (a1_0 : Bool) (a1_1 a1_2 : Int) (r1 : Bool) (r2 r3 r4 : Int) (w : World) (h : big_AddS.f a0_0 a0_1 a0_2 a1_0 a1_1 a1_2 = some (r1, r2, r3, r4)) :
  Calls Tryz.prog 107 #[.agg #[.bool a0_0, .int .u64 a0_1, .int .u64 a0_2], .agg #[.bool a1_0, .int .u64 a1_1, .int .u64 a1_2]] w fun e w' => e = .returned (.tuple #[.agg #[.bool r1, .int .u64 r2, .int .u64 r3], .int .i64 r4]) ∧ Below w.heap.size w w' := by
 obtain ⟨hc, h⟩ := Sp.need_some h; obtain ⟨h1, h2, h3, h4⟩ := hc; exact big_Add.calls _ _ _ _ _ _ r1 r2 r3 r4 w (by rw [big_Add.main h1 h2 h3 h4]; exact h)

/-! ### big_Div: function 50 -/
noncomputable def big_Div.j0 : Nat → Int → Int → Int → Int → Bool → Bool → Int → Int → Option (Bool × Int × Int × Int × Int)
 | 0, _, _, _, _, _, _, _, _ => none
 | k + 1, x1, x7, x8, x9, x43, x179000, x179001, x179002 => if x43 = true then (some (x179000, x179001, x179002, x8, 0)) else ((big_size_with.f x7 x9 true).bind fun bt179 => ((big_OfS.f (-1)).bind fun bt182 => ((big_AddS.f bt179.1 bt179.2.1 bt179.2.2 bt182.1 bt182.2.1 bt182.2.2).bind fun bt185 => (if bt185.2.2.2 = 0 then (some (bt185.1, bt185.2.1, bt185.2.2.1, IntKind.u64.wrap (x1 - x8), 0)) else (some (false, 0, 0, 0, bt185.2.2.2))))))
noncomputable def big_Div.f (k : Nat) (a0_0 : Bool) (a0_1 : Int) (a0_2 : Int) (a1 : Int) : Option (Bool × Int × Int × Int × Int) := if a1 = 0 then (some (false, 0, 0, 0, 20)) else ((bits_Div64S.f (Int.tmod a0_1 a1) a0_2 a1).bind fun bt173 => ((big_size_with.f (IntKind.u64.wrap (Int.tdiv a0_1 a1)) bt173.1 a0_0).bind fun bt175 => (if a0_0 = true then (big_Div.j0 k a1 (IntKind.u64.wrap (Int.tdiv a0_1 a1)) bt173.2 bt173.1 (bt173.2 == 0) bt175.1 bt175.2.1 bt175.2.2) else (big_Div.j0 k a1 (IntKind.u64.wrap (Int.tdiv a0_1 a1)) bt173.2 bt173.1 true bt175.1 bt175.2.1 bt175.2.2))))
set_option maxHeartbeats 8000000 in
set_option maxRecDepth 100000 in
theorem big_Div.calls (k : Nat) (a0_0 : Bool) (a0_1 : Int) (a0_2 : Int) (a1 : Int) (r1 : Bool) (r2 : Int) (r3 : Int) (r4 : Int) (r5 : Int) (w : World) (h : big_Div.f k a0_0 a0_1 a0_2 a1 = some (r1, r2, r3, r4, r5)) :
  Calls Tryz.prog 50 #[.agg #[.bool a0_0, .int .u64 a0_1, .int .u64 a0_2], .int .u64 a1] w fun e w' => e = .returned (.tuple #[.agg #[.bool r1, .int .u64 r2, .int .u64 r3], .int .u64 r4, .int .i64 r5]) ∧ Below w.heap.size w w' := by
 have hu99 := Tryz.underlying99; have hu154 := Tryz.underlying154; have HB := Aside0.mk (Below.refl w.heap.size w); have H : (if a1 = 0 then (some (false, 0, 0, 0, 20)) else ((bits_Div64S.f (Int.tmod a0_1 a1) a0_2 a1).bind fun bt173 => ((big_size_with.f (IntKind.u64.wrap (Int.tdiv a0_1 a1)) bt173.1 a0_0).bind fun bt175 => (if a0_0 = true then (big_Div.j0 k a1 (IntKind.u64.wrap (Int.tdiv a0_1 a1)) bt173.2 bt173.1 (bt173.2 == 0) bt175.1 bt175.2.1 bt175.2.2) else (big_Div.j0 k a1 (IntKind.u64.wrap (Int.tdiv a0_1 a1)) bt173.2 bt173.1 true bt175.1 bt175.2.1 bt175.2.2))))) = some (r1, r2, r3, r4, r5) := h; clear h
 by_cases c3 : a1 = 0
 ·rw [if_pos c3] at H
  have c3b0 : (a1 == 0) = true := beq_iff_eq.mpr c3; have c3b1 : (a1 != 0) = false := bne_eq_false_iff_eq.mpr c3; clear c3; simp only [Option.some.injEq, Prod.mk.injEq] at H; obtain ⟨rfl, rfl, rfl, rfl, rfl⟩ := H
  go_enter Tryz.func50, Tryz.ntmps50
  go_wp2_with (first | ((with_reducible refine gate_dst (N := 2) rfl ?_); refine box_event ?hg (N := 2) ?hd (cs := #[.bool a0_0, .int .u64 a0_1, .int .u64 a0_2]) (t := 99) ?hr ?_; (case hd => rfl); (case hg => rfl); (case hr => first | (go_simp; done) | (go_simp; rfl)); intro gb171 hg w4 hbox hb; have BK171 := Aside0.mk (hbox); obtain ⟨GW171, nHB⟩ := geA hg hb; have GE171 := GW171; replace HB := nHB; clear nHB; clear hb hbox hg) | ((with_reducible refine gate_dst (N := 4) rfl ?_); refine box_event ?hg (N := 4) ?hd (cs := #[.bool false, .int .u64 0, .int .u64 0]) (t := 99) ?hr ?_; (case hd => rfl); (case hg => rfl); (case hr => first | (go_simp; done) | (go_simp; rfl)); intro gb172 hg w5 hbox hb; have BK172 := Aside0.mk (hbox); obtain ⟨GW172, nHB⟩ := geA hg hb; have GE172 := GW172; obtain ⟨NB171_172, NB172_171, nBK⟩ := nbA BK171 hg hb; replace BK171 := nBK; clear nBK; replace HB := nHB; clear nHB; clear hb hbox hg; have hnb6 := NB172_171.out; have hnc6 := NB171_172.out; have hcz7_0 := czZ BK172 0 (.bool false); have hcz7_1 := czZ BK172 1 (.int .u64 0); have hcz7_2 := czZ BK172 2 (.int .u64 0); have hfz7_0 := blk_frozen BK172.out 0; have hfz7_1 := blk_frozen BK172.out 1; have hfz7_2 := blk_frozen BK172.out 2))
  repeat (go_quiet (first | ((with_reducible refine gate_dst (N := 2) rfl ?_); refine box_event ?hg (N := 2) ?hd (cs := #[.bool a0_0, .int .u64 a0_1, .int .u64 a0_2]) (t := 99) ?hr ?_; (case hd => rfl); (case hg => rfl); (case hr => first | (go_simp; done) | (go_simp; rfl)); intro gb171 hg w4 hbox hb; have BK171 := Aside0.mk (hbox); obtain ⟨GW171, nHB⟩ := geA hg hb; have GE171 := GW171; replace HB := nHB; clear nHB; clear hb hbox hg) | ((with_reducible refine gate_dst (N := 4) rfl ?_); refine box_event ?hg (N := 4) ?hd (cs := #[.bool false, .int .u64 0, .int .u64 0]) (t := 99) ?hr ?_; (case hd => rfl); (case hg => rfl); (case hr => first | (go_simp; done) | (go_simp; rfl)); intro gb172 hg w5 hbox hb; have BK172 := Aside0.mk (hbox); obtain ⟨GW172, nHB⟩ := geA hg hb; have GE172 := GW172; obtain ⟨NB171_172, NB172_171, nBK⟩ := nbA BK171 hg hb; replace BK171 := nBK; clear nBK; replace HB := nHB; clear nHB; clear hb hbox hg; have hnb6 := NB172_171.out; have hnc6 := NB171_172.out; have hcz7_0 := czZ BK172 0 (.bool false); have hcz7_1 := czZ BK172 1 (.int .u64 0); have hcz7_2 := czZ BK172 2 (.int .u64 0); have hfz7_0 := blk_frozen BK172.out 0; have hfz7_1 := blk_frozen BK172.out 1; have hfz7_2 := blk_frozen BK172.out 2)); try go_wp2_with (first | ((with_reducible refine gate_dst (N := 2) rfl ?_); refine box_event ?hg (N := 2) ?hd (cs := #[.bool a0_0, .int .u64 a0_1, .int .u64 a0_2]) (t := 99) ?hr ?_; (case hd => rfl); (case hg => rfl); (case hr => first | (go_simp; done) | (go_simp; rfl)); intro gb171 hg w4 hbox hb; have BK171 := Aside0.mk (hbox); obtain ⟨GW171, nHB⟩ := geA hg hb; have GE171 := GW171; replace HB := nHB; clear nHB; clear hb hbox hg) | ((with_reducible refine gate_dst (N := 4) rfl ?_); refine box_event ?hg (N := 4) ?hd (cs := #[.bool false, .int .u64 0, .int .u64 0]) (t := 99) ?hr ?_; (case hd => rfl); (case hg => rfl); (case hr => first | (go_simp; done) | (go_simp; rfl)); intro gb172 hg w5 hbox hb; have BK172 := Aside0.mk (hbox); obtain ⟨GW172, nHB⟩ := geA hg hb; have GE172 := GW172; obtain ⟨NB171_172, NB172_171, nBK⟩ := nbA BK171 hg hb; replace BK171 := nBK; clear nBK; replace HB := nHB; clear nHB; clear hb hbox hg; have hnb6 := NB172_171.out; have hnc6 := NB171_172.out; have hcz7_0 := czZ BK172 0 (.bool false); have hcz7_1 := czZ BK172 1 (.int .u64 0); have hcz7_2 := czZ BK172 2 (.int .u64 0); have hfz7_0 := blk_frozen BK172.out 0; have hfz7_1 := blk_frozen BK172.out 1; have hfz7_2 := blk_frozen BK172.out 2)))
  refine bodyPost_ret (results_ctt rfl _ _ gb172 99 #[.bool false, .int .u64 0, .int .u64 0] (0, 0) _ rfl (by (with_reducible repeat first | apply blk_drewN | apply blk_drew | apply blk_alloc); refine blk_put (cs := #[.bool false, .int .u64 0, .int .u64 0]) ?_ 2 _ rfl; (with_reducible repeat first | apply blk_drewN | apply blk_drew | apply blk_alloc); refine blk_put (cs := #[.bool false, .int .u64 0, .int .u64 0]) ?_ 1 _ rfl; (with_reducible repeat first | apply blk_drewN | apply blk_drew | apply blk_alloc); refine blk_put (cs := #[.bool false, .int .u64 0, .int .u64 0]) ?_ 0 _ rfl; (with_reducible repeat first | apply blk_drewN | apply blk_drew | apply blk_alloc); exact BK172.out) Tryz.underlying99 rfl (by kernel_rfl)) rfl ?_; exact ⟨by first | rfl | (simp [errW_none, errW_some] <;> rfl) | (simp [*, errW_none, errW_some] <;> rfl), by repeat (first | (with_reducible first | exact HB.out | apply below_alloc | apply pw_below_drewN | apply below_drew1 | refine below_set ?_ (Aside0.out (by assumption))) | exact HB.out)⟩
 ·rw [if_neg c3] at H
  have c3b0 : (a1 == 0) = false := beq_eq_false_iff_ne.mpr c3; have c3b1 : (a1 != 0) = true := bne_iff_ne.mpr c3; replace H := Option.bind_eq_some_iff.mp H; obtain ⟨⟨t173, t174⟩, A80, H⟩ := H; (try dsimp only at H); have A8 := Aside0.mk A80; clear A80; replace H := Option.bind_eq_some_iff.mp H; obtain ⟨⟨t175, t176, t177⟩, A90, H⟩ := H; (try dsimp only at H); have A9 := Aside0.mk A90; clear A90; have HC10 := Aside0.mk H; clear H
  go_enter Tryz.func50, Tryz.ntmps50
  go_upto_region 6 with (first | ((with_reducible refine gate_dst (N := 2) rfl ?_); refine box_event ?hg (N := 2) ?hd (cs := #[.bool a0_0, .int .u64 a0_1, .int .u64 a0_2]) (t := 99) ?hr ?_; (case hd => rfl); (case hg => rfl); (case hr => first | (go_simp; done) | (go_simp; rfl)); intro gb171 hg w11 hbox hb; have BK171 := Aside0.mk (hbox); obtain ⟨GW171, nHB⟩ := geA hg hb; have GE171 := GW171; replace HB := nHB; clear nHB; clear hb hbox hg) | ((with_reducible refine gate_dst (N := 4) rfl ?_); refine box_event ?hg (N := 4) ?hd (cs := #[.bool false, .int .u64 0, .int .u64 0]) (t := 99) ?hr ?_; (case hd => rfl); (case hg => rfl); (case hr => first | (go_simp; done) | (go_simp; rfl)); intro gb172 hg w12 hbox hb; have BK172 := Aside0.mk (hbox); obtain ⟨GW172, nHB⟩ := geA hg hb; have GE172 := GW172; obtain ⟨NB171_172, NB172_171, nBK⟩ := nbA BK171 hg hb; replace BK171 := nBK; clear nBK; replace HB := nHB; clear nHB; clear hb hbox hg; have hnb13 := NB171_172.out; have hnc13 := NB172_171.out; have hcz14_0 := czZ BK171 0 (.bool a0_0); have hcz14_1 := czZ BK171 1 (.int .u64 a0_1); have hcz14_2 := czZ BK171 2 (.int .u64 a0_2); have hfz14_0 := blk_frozen BK171.out 0; have hfz14_1 := blk_frozen BK171.out 1; have hfz14_2 := blk_frozen BK171.out 2) | (go_at_call 106; (with_reducible refine (bits_Div64S.calls (Int.tmod a0_1 a1) a0_2 a1 t173 t174 _ A8.out).mono ?_); rintro e w' ⟨rfl, ⟨nd, rfl⟩⟩; (try first | exact ⟨rfl, _, World.drewN_drewN _ _ _⟩ | exact ⟨rfl, _, Eq.trans (World.drewN_drewN _ _ _) (congrArg (World.drewN _) (Nat.add_assoc _ _ _))⟩)) | (go_at_call 103; (with_reducible refine (big_size_with.calls (IntKind.u64.wrap (Int.tdiv a0_1 a1)) t173 a0_0 t175 t176 t177 _ A9.out).mono ?_); rintro e w15 ⟨rfl, hb⟩; replace BK171 := bdZ BK171 hb; replace BK172 := bdZ BK172 hb; replace HB := stA hb; clear hb) | ((with_reducible refine gate_dst (N := 10) rfl ?_); refine box_event ?hg (N := 10) ?hd (cs := #[.bool false, .int .u64 0, .int .u64 0]) (t := 99) ?hr ?_; (case hd => rfl); (case hg => rfl); (case hr => first | (go_simp; done) | (go_simp; rfl)); intro gb178 hg w16 hbox hb; have BK178 := Aside0.mk (hbox); obtain ⟨GW178, nHB⟩ := geA hg hb; have GE178 := GW178; obtain ⟨NB171_178, NB178_171, nBK⟩ := nbA BK171 hg hb; replace BK171 := nBK; clear nBK; obtain ⟨NB172_178, NB178_172, nBK⟩ := nbA BK172 hg hb; replace BK172 := nBK; clear nBK; replace HB := nHB; clear nHB; clear hb hbox hg; have hnb17 := NB178_171.out; have hnc17 := NB171_178.out; have hnb18 := NB178_172.out; have hnc18 := NB172_178.out; have hcz19_0 := czZ BK178 0 (.bool false); have hcz19_1 := czZ BK178 1 (.int .u64 0); have hcz19_2 := czZ BK178 2 (.int .u64 0); have hfz19_0 := blk_frozen BK178.out 0; have hfz19_1 := blk_frozen BK178.out 1; have hfz19_2 := blk_frozen BK178.out 2))
  repeat (go_quiet (first | ((with_reducible refine gate_dst (N := 2) rfl ?_); refine box_event ?hg (N := 2) ?hd (cs := #[.bool a0_0, .int .u64 a0_1, .int .u64 a0_2]) (t := 99) ?hr ?_; (case hd => rfl); (case hg => rfl); (case hr => first | (go_simp; done) | (go_simp; rfl)); intro gb171 hg w11 hbox hb; have BK171 := Aside0.mk (hbox); obtain ⟨GW171, nHB⟩ := geA hg hb; have GE171 := GW171; replace HB := nHB; clear nHB; clear hb hbox hg) | ((with_reducible refine gate_dst (N := 4) rfl ?_); refine box_event ?hg (N := 4) ?hd (cs := #[.bool false, .int .u64 0, .int .u64 0]) (t := 99) ?hr ?_; (case hd => rfl); (case hg => rfl); (case hr => first | (go_simp; done) | (go_simp; rfl)); intro gb172 hg w12 hbox hb; have BK172 := Aside0.mk (hbox); obtain ⟨GW172, nHB⟩ := geA hg hb; have GE172 := GW172; obtain ⟨NB171_172, NB172_171, nBK⟩ := nbA BK171 hg hb; replace BK171 := nBK; clear nBK; replace HB := nHB; clear nHB; clear hb hbox hg; have hnb13 := NB171_172.out; have hnc13 := NB172_171.out; have hcz14_0 := czZ BK171 0 (.bool a0_0); have hcz14_1 := czZ BK171 1 (.int .u64 a0_1); have hcz14_2 := czZ BK171 2 (.int .u64 a0_2); have hfz14_0 := blk_frozen BK171.out 0; have hfz14_1 := blk_frozen BK171.out 1; have hfz14_2 := blk_frozen BK171.out 2) | (go_at_call 106; (with_reducible refine (bits_Div64S.calls (Int.tmod a0_1 a1) a0_2 a1 t173 t174 _ A8.out).mono ?_); rintro e w' ⟨rfl, ⟨nd, rfl⟩⟩; (try first | exact ⟨rfl, _, World.drewN_drewN _ _ _⟩ | exact ⟨rfl, _, Eq.trans (World.drewN_drewN _ _ _) (congrArg (World.drewN _) (Nat.add_assoc _ _ _))⟩)) | (go_at_call 103; (with_reducible refine (big_size_with.calls (IntKind.u64.wrap (Int.tdiv a0_1 a1)) t173 a0_0 t175 t176 t177 _ A9.out).mono ?_); rintro e w15 ⟨rfl, hb⟩; replace BK171 := bdZ BK171 hb; replace BK172 := bdZ BK172 hb; replace HB := stA hb; clear hb) | ((with_reducible refine gate_dst (N := 10) rfl ?_); refine box_event ?hg (N := 10) ?hd (cs := #[.bool false, .int .u64 0, .int .u64 0]) (t := 99) ?hr ?_; (case hd => rfl); (case hg => rfl); (case hr => first | (go_simp; done) | (go_simp; rfl)); intro gb178 hg w16 hbox hb; have BK178 := Aside0.mk (hbox); obtain ⟨GW178, nHB⟩ := geA hg hb; have GE178 := GW178; obtain ⟨NB171_178, NB178_171, nBK⟩ := nbA BK171 hg hb; replace BK171 := nBK; clear nBK; obtain ⟨NB172_178, NB178_172, nBK⟩ := nbA BK172 hg hb; replace BK172 := nBK; clear nBK; replace HB := nHB; clear nHB; clear hb hbox hg; have hnb17 := NB178_171.out; have hnc17 := NB171_178.out; have hnb18 := NB178_172.out; have hnc18 := NB172_178.out; have hcz19_0 := czZ BK178 0 (.bool false); have hcz19_1 := czZ BK178 1 (.int .u64 0); have hcz19_2 := czZ BK178 2 (.int .u64 0); have hfz19_0 := blk_frozen BK178.out 0; have hfz19_1 := blk_frozen BK178.out 1; have hfz19_2 := blk_frozen BK178.out 2)); go_upto_region 6 with (first | ((with_reducible refine gate_dst (N := 2) rfl ?_); refine box_event ?hg (N := 2) ?hd (cs := #[.bool a0_0, .int .u64 a0_1, .int .u64 a0_2]) (t := 99) ?hr ?_; (case hd => rfl); (case hg => rfl); (case hr => first | (go_simp; done) | (go_simp; rfl)); intro gb171 hg w11 hbox hb; have BK171 := Aside0.mk (hbox); obtain ⟨GW171, nHB⟩ := geA hg hb; have GE171 := GW171; replace HB := nHB; clear nHB; clear hb hbox hg) | ((with_reducible refine gate_dst (N := 4) rfl ?_); refine box_event ?hg (N := 4) ?hd (cs := #[.bool false, .int .u64 0, .int .u64 0]) (t := 99) ?hr ?_; (case hd => rfl); (case hg => rfl); (case hr => first | (go_simp; done) | (go_simp; rfl)); intro gb172 hg w12 hbox hb; have BK172 := Aside0.mk (hbox); obtain ⟨GW172, nHB⟩ := geA hg hb; have GE172 := GW172; obtain ⟨NB171_172, NB172_171, nBK⟩ := nbA BK171 hg hb; replace BK171 := nBK; clear nBK; replace HB := nHB; clear nHB; clear hb hbox hg; have hnb13 := NB171_172.out; have hnc13 := NB172_171.out; have hcz14_0 := czZ BK171 0 (.bool a0_0); have hcz14_1 := czZ BK171 1 (.int .u64 a0_1); have hcz14_2 := czZ BK171 2 (.int .u64 a0_2); have hfz14_0 := blk_frozen BK171.out 0; have hfz14_1 := blk_frozen BK171.out 1; have hfz14_2 := blk_frozen BK171.out 2) | (go_at_call 106; (with_reducible refine (bits_Div64S.calls (Int.tmod a0_1 a1) a0_2 a1 t173 t174 _ A8.out).mono ?_); rintro e w' ⟨rfl, ⟨nd, rfl⟩⟩; (try first | exact ⟨rfl, _, World.drewN_drewN _ _ _⟩ | exact ⟨rfl, _, Eq.trans (World.drewN_drewN _ _ _) (congrArg (World.drewN _) (Nat.add_assoc _ _ _))⟩)) | (go_at_call 103; (with_reducible refine (big_size_with.calls (IntKind.u64.wrap (Int.tdiv a0_1 a1)) t173 a0_0 t175 t176 t177 _ A9.out).mono ?_); rintro e w15 ⟨rfl, hb⟩; replace BK171 := bdZ BK171 hb; replace BK172 := bdZ BK172 hb; replace HB := stA hb; clear hb) | ((with_reducible refine gate_dst (N := 10) rfl ?_); refine box_event ?hg (N := 10) ?hd (cs := #[.bool false, .int .u64 0, .int .u64 0]) (t := 99) ?hr ?_; (case hd => rfl); (case hg => rfl); (case hr => first | (go_simp; done) | (go_simp; rfl)); intro gb178 hg w16 hbox hb; have BK178 := Aside0.mk (hbox); obtain ⟨GW178, nHB⟩ := geA hg hb; have GE178 := GW178; obtain ⟨NB171_178, NB178_171, nBK⟩ := nbA BK171 hg hb; replace BK171 := nBK; clear nBK; obtain ⟨NB172_178, NB178_172, nBK⟩ := nbA BK172 hg hb; replace BK172 := nBK; clear nBK; replace HB := nHB; clear nHB; clear hb hbox hg; have hnb17 := NB178_171.out; have hnc17 := NB171_178.out; have hnb18 := NB178_172.out; have hnc18 := NB172_178.out; have hcz19_0 := czZ BK178 0 (.bool false); have hcz19_1 := czZ BK178 1 (.int .u64 0); have hcz19_2 := czZ BK178 2 (.int .u64 0); have hfz19_0 := blk_frozen BK178.out 0; have hfz19_1 := blk_frozen BK178.out 1; have hfz19_2 := blk_frozen BK178.out 2)))
  (try simp only [Act.put, sA, sB, sC])
  go_cut [43] (fun v43 wc => ∃ (kq : Nat) (x43_9 : Bool), v43 = .bool x43_9 ∧ Aside0 (big_Div.j0 kq a1 (IntKind.u64.wrap (Int.tdiv a0_1 a1)) t174 t173 x43_9 t175 t176 t177 = some (r1, r2, r3, r4, r5)) ∧ Aside0 (kq ≤ k) ∧ Aside0 (wc.heap[gb171]? = some (.cells #[.bool a0_0, .int .u64 a0_1, .int .u64 a0_2] 99 (0, 0))) ∧ Aside0 (wc.heap[gb172]? = some (.cells #[.bool false, .int .u64 0, .int .u64 0] 99 (0, 0))) ∧ Aside0 (wc.heap[gb178]? = some (.cells #[.bool t175, .int .u64 t176, .int .u64 t177] 99 (0, 0))) ∧ Aside0 (Below w.heap.size w wc))
  case first =>
   have H := HC10.out; clear HC10
   by_cases c20 : a0_0 = true
   ·subst c20
    have H1 : (big_Div.j0 k a1 (IntKind.u64.wrap (Int.tdiv a0_1 a1)) t174 t173 (t174 == 0) t175 t176 t177) = some (r1, r2, r3, r4, r5) := by rw [if_pos rfl] at H; exact H
    clear H; have H := H1; clear H1; have H' := Aside0.mk H; clear H; have hnb21 := NB171_172.out; have hnc21 := NB172_171.out; have hnb22 := NB171_178.out; have hnc22 := NB178_171.out; have hcz23_0 := czZ BK171 0 (.bool true); have hcz23_1 := czZ BK171 1 (.int .u64 a0_1); have hcz23_2 := czZ BK171 2 (.int .u64 a0_2); have hfz23_0 := blk_frozen BK171.out 0; have hfz23_1 := blk_frozen BK171.out 1; have hfz23_2 := blk_frozen BK171.out 2
    go_wp2
    repeat (go_quiet (fail); try go_wp2)
    go_meet
    case rel => exact ⟨_, ((t174 == 0)), (by first | rfl | (simp; done) | (simp [*]; done)), H', ⟨by first | omega | exact Nat.le_refl _⟩, ⟨by (with_reducible repeat first | apply blk_drewN | apply blk_drew | apply blk_alloc); refine blk_far ?_ NB171_178.out _; (with_reducible repeat first | apply blk_drewN | apply blk_drew | apply blk_alloc); refine blk_far ?_ NB171_178.out _; (with_reducible repeat first | apply blk_drewN | apply blk_drew | apply blk_alloc); refine blk_far ?_ NB171_178.out _; (with_reducible repeat first | apply blk_drewN | apply blk_drew | apply blk_alloc); exact BK171.out⟩, ⟨by (with_reducible repeat first | apply blk_drewN | apply blk_drew | apply blk_alloc); refine blk_far ?_ NB172_178.out _; (with_reducible repeat first | apply blk_drewN | apply blk_drew | apply blk_alloc); refine blk_far ?_ NB172_178.out _; (with_reducible repeat first | apply blk_drewN | apply blk_drew | apply blk_alloc); refine blk_far ?_ NB172_178.out _; (with_reducible repeat first | apply blk_drewN | apply blk_drew | apply blk_alloc); exact BK172.out⟩, ⟨by (with_reducible repeat first | apply blk_drewN | apply blk_drew | apply blk_alloc); refine blk_put (cs := #[.bool t175, .int .u64 t176, .int .u64 0]) ?_ 2 _ rfl; (with_reducible repeat first | apply blk_drewN | apply blk_drew | apply blk_alloc); refine blk_put (cs := #[.bool t175, .int .u64 0, .int .u64 0]) ?_ 1 _ rfl; (with_reducible repeat first | apply blk_drewN | apply blk_drew | apply blk_alloc); refine blk_put (cs := #[.bool false, .int .u64 0, .int .u64 0]) ?_ 0 _ rfl; (with_reducible repeat first | apply blk_drewN | apply blk_drew | apply blk_alloc); exact BK178.out⟩, ⟨by repeat (first | (with_reducible first | exact HB.out | apply below_alloc | apply pw_below_drewN | apply below_drew1 | refine below_set ?_ (Aside0.out (by assumption))) | exact HB.out)⟩⟩
   ·replace c20 := Bool.eq_false_iff.mpr c20
    subst c20
    have H1 : (big_Div.j0 k a1 (IntKind.u64.wrap (Int.tdiv a0_1 a1)) t174 t173 true t175 t176 t177) = some (r1, r2, r3, r4, r5) := by rw [if_neg (show ¬ (false = true) by decide)] at H; exact H
    clear H; have H := H1; clear H1; have H' := Aside0.mk H; clear H; have hnb24 := NB171_172.out; have hnc24 := NB172_171.out; have hnb25 := NB171_178.out; have hnc25 := NB178_171.out; have hcz26_0 := czZ BK171 0 (.bool false); have hcz26_1 := czZ BK171 1 (.int .u64 a0_1); have hcz26_2 := czZ BK171 2 (.int .u64 a0_2); have hfz26_0 := blk_frozen BK171.out 0; have hfz26_1 := blk_frozen BK171.out 1; have hfz26_2 := blk_frozen BK171.out 2
    go_wp2
    repeat (go_quiet (fail); try go_wp2)
    go_meet
    case rel => exact ⟨_, (true), (by first | rfl | (simp; done) | (simp [*]; done)), H', ⟨by first | omega | exact Nat.le_refl _⟩, ⟨by (with_reducible repeat first | apply blk_drewN | apply blk_drew | apply blk_alloc); refine blk_far ?_ NB171_178.out _; (with_reducible repeat first | apply blk_drewN | apply blk_drew | apply blk_alloc); refine blk_far ?_ NB171_178.out _; (with_reducible repeat first | apply blk_drewN | apply blk_drew | apply blk_alloc); refine blk_far ?_ NB171_178.out _; (with_reducible repeat first | apply blk_drewN | apply blk_drew | apply blk_alloc); exact BK171.out⟩, ⟨by (with_reducible repeat first | apply blk_drewN | apply blk_drew | apply blk_alloc); refine blk_far ?_ NB172_178.out _; (with_reducible repeat first | apply blk_drewN | apply blk_drew | apply blk_alloc); refine blk_far ?_ NB172_178.out _; (with_reducible repeat first | apply blk_drewN | apply blk_drew | apply blk_alloc); refine blk_far ?_ NB172_178.out _; (with_reducible repeat first | apply blk_drewN | apply blk_drew | apply blk_alloc); exact BK172.out⟩, ⟨by (with_reducible repeat first | apply blk_drewN | apply blk_drew | apply blk_alloc); refine blk_put (cs := #[.bool t175, .int .u64 t176, .int .u64 0]) ?_ 2 _ rfl; (with_reducible repeat first | apply blk_drewN | apply blk_drew | apply blk_alloc); refine blk_put (cs := #[.bool t175, .int .u64 0, .int .u64 0]) ?_ 1 _ rfl; (with_reducible repeat first | apply blk_drewN | apply blk_drew | apply blk_alloc); refine blk_put (cs := #[.bool false, .int .u64 0, .int .u64 0]) ?_ 0 _ rfl; (with_reducible repeat first | apply blk_drewN | apply blk_drew | apply blk_alloc); exact BK178.out⟩, ⟨by repeat (first | (with_reducible first | exact HB.out | apply below_alloc | apply pw_below_drewN | apply below_drew1 | refine below_set ?_ (Aside0.out (by assumption))) | exact HB.out)⟩⟩
  case rest =>
   clear HC10
   try clear c1
   try clear c2
   try clear p2
   try clear c3
   try clear c3b0
   try clear c3b1
   try clear c5
   try clear c6
   try clear c13
   try clear c17
   try clear c18
   try clear c20
   try clear c21
   try clear c22
   try clear c24
   try clear c25
   try clear hcz14_0
   try clear hcz14_1
   try clear hcz14_2
   try clear hcz19_0
   try clear hcz19_1
   try clear hcz19_2
   try clear hcz23_0
   try clear hcz23_1
   try clear hcz23_2
   try clear hcz26_0
   try clear hcz26_1
   try clear hcz26_2
   try clear hcz7_0
   try clear hcz7_1
   try clear hcz7_2
   try clear hfz14_0
   try clear hfz14_1
   try clear hfz14_2
   try clear hfz19_0
   try clear hfz19_1
   try clear hfz19_2
   try clear hfz23_0
   try clear hfz23_1
   try clear hfz23_2
   try clear hfz26_0
   try clear hfz26_1
   try clear hfz26_2
   try clear hfz7_0
   try clear hfz7_1
   try clear hfz7_2
   obtain ⟨kq, x43_9, rfl, HA, HJ9, BK171, BK172, BK178, HB⟩ := hcut
   cases kq with
   | zero => exact absurd HA.out (by simp [big_Div.j0])
   | succ kj9 =>
    have H := HA.out; clear HA; simp only [big_Div.j0] at H
    by_cases c27 : x43_9 = true
    ·subst c27
     have H1 : (some (t175, t176, t177, t174, 0)) = some (r1, r2, r3, r4, r5) := by rw [if_pos rfl] at H; exact H
     clear H; have H := H1; clear H1; simp only [Option.some.injEq, Prod.mk.injEq] at H; obtain ⟨rfl, rfl, rfl, rfl, rfl⟩ := H; have hnb28 := NB178_171.out; have hnc28 := NB171_178.out; have hnb29 := NB178_172.out; have hnc29 := NB172_178.out; have hcz30_0 : wc.cell? ⟨gb178, 0, none⟩ = some (.bool t175) := (blk_cell BK178.out 0).trans rfl; have hcz30_1 : wc.cell? ⟨gb178, 1, none⟩ = some (.int .u64 t176) := (blk_cell BK178.out 1).trans rfl; have hcz30_2 : wc.cell? ⟨gb178, 2, none⟩ = some (.int .u64 t177) := (blk_cell BK178.out 2).trans rfl; have hfz30_0 := blk_frozen BK178.out 0; have hfz30_1 := blk_frozen BK178.out 1; have hfz30_2 := blk_frozen BK178.out 2; have hnb31 := NB172_171.out; have hnc31 := NB171_172.out; have hcz32_0 : wc.cell? ⟨gb172, 0, none⟩ = some (.bool false) := (blk_cell BK172.out 0).trans rfl; have hcz32_1 : wc.cell? ⟨gb172, 1, none⟩ = some (.int .u64 0) := (blk_cell BK172.out 1).trans rfl; have hcz32_2 : wc.cell? ⟨gb172, 2, none⟩ = some (.int .u64 0) := (blk_cell BK172.out 2).trans rfl; have hfz32_0 := blk_frozen BK172.out 0; have hfz32_1 := blk_frozen BK172.out 1; have hfz32_2 := blk_frozen BK172.out 2
     go_wp2
     repeat (go_quiet (fail); try go_wp2)
     refine bodyPost_ret (results_ctt rfl _ _ gb172 99 #[.bool t175, .int .u64 t176, .int .u64 t177] (0, 0) _ rfl (by (with_reducible repeat first | apply blk_drewN | apply blk_drew | apply blk_alloc); refine blk_put (cs := #[.bool t175, .int .u64 t176, .int .u64 0]) ?_ 2 _ rfl; (with_reducible repeat first | apply blk_drewN | apply blk_drew | apply blk_alloc); refine blk_put (cs := #[.bool t175, .int .u64 0, .int .u64 0]) ?_ 1 _ rfl; (with_reducible repeat first | apply blk_drewN | apply blk_drew | apply blk_alloc); refine blk_put (cs := #[.bool false, .int .u64 0, .int .u64 0]) ?_ 0 _ rfl; (with_reducible repeat first | apply blk_drewN | apply blk_drew | apply blk_alloc); exact BK172.out) Tryz.underlying99 rfl (by kernel_rfl)) rfl ?_; exact ⟨by first | rfl | (simp [errW_none, errW_some] <;> rfl) | (simp [*, errW_none, errW_some] <;> rfl), by repeat (first | (with_reducible first | exact HB.out | apply below_alloc | apply pw_below_drewN | apply below_drew1 | refine below_set ?_ (Aside0.out (by assumption))) | exact HB.out)⟩
    ·replace c27 := Bool.eq_false_iff.mpr c27
     subst c27
     have H1 : ((big_size_with.f (IntKind.u64.wrap (Int.tdiv a0_1 a1)) t173 true).bind fun bt179 => ((big_OfS.f (-1)).bind fun bt182 => ((big_AddS.f bt179.1 bt179.2.1 bt179.2.2 bt182.1 bt182.2.1 bt182.2.2).bind fun bt185 => (if bt185.2.2.2 = 0 then (some (bt185.1, bt185.2.1, bt185.2.2.1, IntKind.u64.wrap (a1 - t174), 0)) else (some (false, 0, 0, 0, bt185.2.2.2)))))) = some (r1, r2, r3, r4, r5) := by rw [if_neg (show ¬ (false = true) by decide)] at H; exact H
     clear H; have H := H1; clear H1; replace H := Option.bind_eq_some_iff.mp H; obtain ⟨⟨t179, t180, t181⟩, A330, H⟩ := H; (try dsimp only at H); have A33 := Aside0.mk A330; clear A330; replace H := Option.bind_eq_some_iff.mp H; obtain ⟨⟨t182, t183, t184⟩, A340, H⟩ := H; (try dsimp only at H); have A34 := Aside0.mk A340; clear A340; replace H := Option.bind_eq_some_iff.mp H; obtain ⟨⟨t185, t186, t187, t188⟩, A350, H⟩ := H; replace H : (if t188 = 0 then (some (t185, t186, t187, IntKind.u64.wrap (a1 - t174), 0)) else (some (false, 0, 0, 0, t188))) = some (r1, r2, r3, r4, r5) := H; have A35 := Aside0.mk A350; clear A350
     by_cases c36 : t188 = 0
     ·rw [if_pos c36] at H
      have c36b0 : (t188 == 0) = true := beq_iff_eq.mpr c36; have c36b1 : (t188 != 0) = false := bne_eq_false_iff_eq.mpr c36; clear c36; simp only [Option.some.injEq, Prod.mk.injEq] at H; obtain ⟨rfl, rfl, rfl, rfl, rfl⟩ := H
      go_wp2_with (first | (go_at_call 103; (with_reducible refine (big_size_with.calls (IntKind.u64.wrap (Int.tdiv a0_1 a1)) t173 true t179 t180 t181 _ A33.out).mono ?_); rintro e w37 ⟨rfl, hb⟩; replace BK171 := bdZ BK171 hb; replace BK172 := bdZ BK172 hb; replace BK178 := bdZ BK178 hb; replace HB := stA hb; clear hb) | (go_at_call 48; (with_reducible refine (big_OfS.calls (-1) t182 t183 t184 _ A34.out).mono ?_); rintro e w38 ⟨rfl, hb⟩; replace BK171 := bdZ BK171 hb; replace BK172 := bdZ BK172 hb; replace BK178 := bdZ BK178 hb; replace HB := stA hb; clear hb) | (go_at_call 107; (with_reducible refine (big_AddS.calls t179 t180 t181 t182 t183 t184 t185 t186 t187 t188 _ A35.out).mono ?_); rintro e w39 ⟨rfl, hb⟩; replace BK171 := bdZ BK171 hb; replace BK172 := bdZ BK172 hb; replace BK178 := bdZ BK178 hb; replace HB := stA hb; clear hb; have hnb40 := NB178_171.out; have hnc40 := NB171_178.out; have hnb41 := NB178_172.out; have hnc41 := NB172_178.out; have hcz42_0 := czZ BK178 0 (.bool t175); have hcz42_1 := czZ BK178 1 (.int .u64 t176); have hcz42_2 := czZ BK178 2 (.int .u64 t177); have hfz42_0 := blk_frozen BK178.out 0; have hfz42_1 := blk_frozen BK178.out 1; have hfz42_2 := blk_frozen BK178.out 2; have hnb43 := NB172_171.out; have hnc43 := NB171_172.out; have hcz44_0 := czZ BK172 0 (.bool false); have hcz44_1 := czZ BK172 1 (.int .u64 0); have hcz44_2 := czZ BK172 2 (.int .u64 0); have hfz44_0 := blk_frozen BK172.out 0; have hfz44_1 := blk_frozen BK172.out 1; have hfz44_2 := blk_frozen BK172.out 2))
      repeat (go_quiet (first | (go_at_call 103; (with_reducible refine (big_size_with.calls (IntKind.u64.wrap (Int.tdiv a0_1 a1)) t173 true t179 t180 t181 _ A33.out).mono ?_); rintro e w37 ⟨rfl, hb⟩; replace BK171 := bdZ BK171 hb; replace BK172 := bdZ BK172 hb; replace BK178 := bdZ BK178 hb; replace HB := stA hb; clear hb) | (go_at_call 48; (with_reducible refine (big_OfS.calls (-1) t182 t183 t184 _ A34.out).mono ?_); rintro e w38 ⟨rfl, hb⟩; replace BK171 := bdZ BK171 hb; replace BK172 := bdZ BK172 hb; replace BK178 := bdZ BK178 hb; replace HB := stA hb; clear hb) | (go_at_call 107; (with_reducible refine (big_AddS.calls t179 t180 t181 t182 t183 t184 t185 t186 t187 t188 _ A35.out).mono ?_); rintro e w39 ⟨rfl, hb⟩; replace BK171 := bdZ BK171 hb; replace BK172 := bdZ BK172 hb; replace BK178 := bdZ BK178 hb; replace HB := stA hb; clear hb; have hnb40 := NB178_171.out; have hnc40 := NB171_178.out; have hnb41 := NB178_172.out; have hnc41 := NB172_178.out; have hcz42_0 := czZ BK178 0 (.bool t175); have hcz42_1 := czZ BK178 1 (.int .u64 t176); have hcz42_2 := czZ BK178 2 (.int .u64 t177); have hfz42_0 := blk_frozen BK178.out 0; have hfz42_1 := blk_frozen BK178.out 1; have hfz42_2 := blk_frozen BK178.out 2; have hnb43 := NB172_171.out; have hnc43 := NB171_172.out; have hcz44_0 := czZ BK172 0 (.bool false); have hcz44_1 := czZ BK172 1 (.int .u64 0); have hcz44_2 := czZ BK172 2 (.int .u64 0); have hfz44_0 := blk_frozen BK172.out 0; have hfz44_1 := blk_frozen BK172.out 1; have hfz44_2 := blk_frozen BK172.out 2)); try go_wp2_with (first | (go_at_call 103; (with_reducible refine (big_size_with.calls (IntKind.u64.wrap (Int.tdiv a0_1 a1)) t173 true t179 t180 t181 _ A33.out).mono ?_); rintro e w37 ⟨rfl, hb⟩; replace BK171 := bdZ BK171 hb; replace BK172 := bdZ BK172 hb; replace BK178 := bdZ BK178 hb; replace HB := stA hb; clear hb) | (go_at_call 48; (with_reducible refine (big_OfS.calls (-1) t182 t183 t184 _ A34.out).mono ?_); rintro e w38 ⟨rfl, hb⟩; replace BK171 := bdZ BK171 hb; replace BK172 := bdZ BK172 hb; replace BK178 := bdZ BK178 hb; replace HB := stA hb; clear hb) | (go_at_call 107; (with_reducible refine (big_AddS.calls t179 t180 t181 t182 t183 t184 t185 t186 t187 t188 _ A35.out).mono ?_); rintro e w39 ⟨rfl, hb⟩; replace BK171 := bdZ BK171 hb; replace BK172 := bdZ BK172 hb; replace BK178 := bdZ BK178 hb; replace HB := stA hb; clear hb; have hnb40 := NB178_171.out; have hnc40 := NB171_178.out; have hnb41 := NB178_172.out; have hnc41 := NB172_178.out; have hcz42_0 := czZ BK178 0 (.bool t175); have hcz42_1 := czZ BK178 1 (.int .u64 t176); have hcz42_2 := czZ BK178 2 (.int .u64 t177); have hfz42_0 := blk_frozen BK178.out 0; have hfz42_1 := blk_frozen BK178.out 1; have hfz42_2 := blk_frozen BK178.out 2; have hnb43 := NB172_171.out; have hnc43 := NB171_172.out; have hcz44_0 := czZ BK172 0 (.bool false); have hcz44_1 := czZ BK172 1 (.int .u64 0); have hcz44_2 := czZ BK172 2 (.int .u64 0); have hfz44_0 := blk_frozen BK172.out 0; have hfz44_1 := blk_frozen BK172.out 1; have hfz44_2 := blk_frozen BK172.out 2)))
      refine bodyPost_ret (results_ctt rfl _ _ gb172 99 #[.bool t185, .int .u64 t186, .int .u64 t187] (0, 0) _ rfl (by (with_reducible repeat first | apply blk_drewN | apply blk_drew | apply blk_alloc); refine blk_put (cs := #[.bool t185, .int .u64 t186, .int .u64 0]) ?_ 2 _ rfl; (with_reducible repeat first | apply blk_drewN | apply blk_drew | apply blk_alloc); refine blk_put (cs := #[.bool t185, .int .u64 0, .int .u64 0]) ?_ 1 _ rfl; (with_reducible repeat first | apply blk_drewN | apply blk_drew | apply blk_alloc); refine blk_put (cs := #[.bool false, .int .u64 0, .int .u64 0]) ?_ 0 _ rfl; (with_reducible repeat first | apply blk_drewN | apply blk_drew | apply blk_alloc); refine blk_far ?_ NB172_178.out _; (with_reducible repeat first | apply blk_drewN | apply blk_drew | apply blk_alloc); refine blk_far ?_ NB172_178.out _; (with_reducible repeat first | apply blk_drewN | apply blk_drew | apply blk_alloc); refine blk_far ?_ NB172_178.out _; (with_reducible repeat first | apply blk_drewN | apply blk_drew | apply blk_alloc); exact BK172.out) Tryz.underlying99 rfl (by kernel_rfl)) rfl ?_; exact ⟨by first | rfl | (simp [errW_none, errW_some] <;> rfl) | (simp [*, errW_none, errW_some] <;> rfl), by repeat (first | (with_reducible first | exact HB.out | apply below_alloc | apply pw_below_drewN | apply below_drew1 | refine below_set ?_ (Aside0.out (by assumption))) | exact HB.out)⟩
     ·rw [if_neg c36] at H
      have c36b0 : (t188 == 0) = false := beq_eq_false_iff_ne.mpr c36; have c36b1 : (t188 != 0) = true := bne_iff_ne.mpr c36; simp only [Option.some.injEq, Prod.mk.injEq] at H; obtain ⟨rfl, rfl, rfl, rfl, rfl⟩ := H
      go_wp2_with (first | (go_at_call 103; (with_reducible refine (big_size_with.calls (IntKind.u64.wrap (Int.tdiv a0_1 a1)) t173 true t179 t180 t181 _ A33.out).mono ?_); rintro e w45 ⟨rfl, hb⟩; replace BK171 := bdZ BK171 hb; replace BK172 := bdZ BK172 hb; replace BK178 := bdZ BK178 hb; replace HB := stA hb; clear hb) | (go_at_call 48; (with_reducible refine (big_OfS.calls (-1) t182 t183 t184 _ A34.out).mono ?_); rintro e w46 ⟨rfl, hb⟩; replace BK171 := bdZ BK171 hb; replace BK172 := bdZ BK172 hb; replace BK178 := bdZ BK178 hb; replace HB := stA hb; clear hb) | (go_at_call 107; (with_reducible refine (big_AddS.calls t179 t180 t181 t182 t183 t184 t185 t186 t187 t188 _ A35.out).mono ?_); rintro e w47 ⟨rfl, hb⟩; replace BK171 := bdZ BK171 hb; replace BK172 := bdZ BK172 hb; replace BK178 := bdZ BK178 hb; replace HB := stA hb; clear hb; have hnb48 := NB178_171.out; have hnc48 := NB171_178.out; have hnb49 := NB178_172.out; have hnc49 := NB172_178.out; have hcz50_0 := czZ BK178 0 (.bool t175); have hcz50_1 := czZ BK178 1 (.int .u64 t176); have hcz50_2 := czZ BK178 2 (.int .u64 t177); have hfz50_0 := blk_frozen BK178.out 0; have hfz50_1 := blk_frozen BK178.out 1; have hfz50_2 := blk_frozen BK178.out 2; have hnb51 := NB172_171.out; have hnc51 := NB171_172.out; have hcz52_0 := czZ BK172 0 (.bool false); have hcz52_1 := czZ BK172 1 (.int .u64 0); have hcz52_2 := czZ BK172 2 (.int .u64 0); have hfz52_0 := blk_frozen BK172.out 0; have hfz52_1 := blk_frozen BK172.out 1; have hfz52_2 := blk_frozen BK172.out 2))
      repeat (go_quiet (first | (go_at_call 103; (with_reducible refine (big_size_with.calls (IntKind.u64.wrap (Int.tdiv a0_1 a1)) t173 true t179 t180 t181 _ A33.out).mono ?_); rintro e w45 ⟨rfl, hb⟩; replace BK171 := bdZ BK171 hb; replace BK172 := bdZ BK172 hb; replace BK178 := bdZ BK178 hb; replace HB := stA hb; clear hb) | (go_at_call 48; (with_reducible refine (big_OfS.calls (-1) t182 t183 t184 _ A34.out).mono ?_); rintro e w46 ⟨rfl, hb⟩; replace BK171 := bdZ BK171 hb; replace BK172 := bdZ BK172 hb; replace BK178 := bdZ BK178 hb; replace HB := stA hb; clear hb) | (go_at_call 107; (with_reducible refine (big_AddS.calls t179 t180 t181 t182 t183 t184 t185 t186 t187 t188 _ A35.out).mono ?_); rintro e w47 ⟨rfl, hb⟩; replace BK171 := bdZ BK171 hb; replace BK172 := bdZ BK172 hb; replace BK178 := bdZ BK178 hb; replace HB := stA hb; clear hb; have hnb48 := NB178_171.out; have hnc48 := NB171_178.out; have hnb49 := NB178_172.out; have hnc49 := NB172_178.out; have hcz50_0 := czZ BK178 0 (.bool t175); have hcz50_1 := czZ BK178 1 (.int .u64 t176); have hcz50_2 := czZ BK178 2 (.int .u64 t177); have hfz50_0 := blk_frozen BK178.out 0; have hfz50_1 := blk_frozen BK178.out 1; have hfz50_2 := blk_frozen BK178.out 2; have hnb51 := NB172_171.out; have hnc51 := NB171_172.out; have hcz52_0 := czZ BK172 0 (.bool false); have hcz52_1 := czZ BK172 1 (.int .u64 0); have hcz52_2 := czZ BK172 2 (.int .u64 0); have hfz52_0 := blk_frozen BK172.out 0; have hfz52_1 := blk_frozen BK172.out 1; have hfz52_2 := blk_frozen BK172.out 2)); try go_wp2_with (first | (go_at_call 103; (with_reducible refine (big_size_with.calls (IntKind.u64.wrap (Int.tdiv a0_1 a1)) t173 true t179 t180 t181 _ A33.out).mono ?_); rintro e w45 ⟨rfl, hb⟩; replace BK171 := bdZ BK171 hb; replace BK172 := bdZ BK172 hb; replace BK178 := bdZ BK178 hb; replace HB := stA hb; clear hb) | (go_at_call 48; (with_reducible refine (big_OfS.calls (-1) t182 t183 t184 _ A34.out).mono ?_); rintro e w46 ⟨rfl, hb⟩; replace BK171 := bdZ BK171 hb; replace BK172 := bdZ BK172 hb; replace BK178 := bdZ BK178 hb; replace HB := stA hb; clear hb) | (go_at_call 107; (with_reducible refine (big_AddS.calls t179 t180 t181 t182 t183 t184 t185 t186 t187 t188 _ A35.out).mono ?_); rintro e w47 ⟨rfl, hb⟩; replace BK171 := bdZ BK171 hb; replace BK172 := bdZ BK172 hb; replace BK178 := bdZ BK178 hb; replace HB := stA hb; clear hb; have hnb48 := NB178_171.out; have hnc48 := NB171_178.out; have hnb49 := NB178_172.out; have hnc49 := NB172_178.out; have hcz50_0 := czZ BK178 0 (.bool t175); have hcz50_1 := czZ BK178 1 (.int .u64 t176); have hcz50_2 := czZ BK178 2 (.int .u64 t177); have hfz50_0 := blk_frozen BK178.out 0; have hfz50_1 := blk_frozen BK178.out 1; have hfz50_2 := blk_frozen BK178.out 2; have hnb51 := NB172_171.out; have hnc51 := NB171_172.out; have hcz52_0 := czZ BK172 0 (.bool false); have hcz52_1 := czZ BK172 1 (.int .u64 0); have hcz52_2 := czZ BK172 2 (.int .u64 0); have hfz52_0 := blk_frozen BK172.out 0; have hfz52_1 := blk_frozen BK172.out 1; have hfz52_2 := blk_frozen BK172.out 2)))
      refine bodyPost_ret (results_ctt rfl _ _ gb172 99 #[.bool false, .int .u64 0, .int .u64 0] (0, 0) _ rfl (by (with_reducible repeat first | apply blk_drewN | apply blk_drew | apply blk_alloc); refine blk_put (cs := #[.bool false, .int .u64 0, .int .u64 0]) ?_ 2 _ rfl; (with_reducible repeat first | apply blk_drewN | apply blk_drew | apply blk_alloc); refine blk_put (cs := #[.bool false, .int .u64 0, .int .u64 0]) ?_ 1 _ rfl; (with_reducible repeat first | apply blk_drewN | apply blk_drew | apply blk_alloc); refine blk_put (cs := #[.bool false, .int .u64 0, .int .u64 0]) ?_ 0 _ rfl; (with_reducible repeat first | apply blk_drewN | apply blk_drew | apply blk_alloc); refine blk_far ?_ NB172_178.out _; (with_reducible repeat first | apply blk_drewN | apply blk_drew | apply blk_alloc); refine blk_far ?_ NB172_178.out _; (with_reducible repeat first | apply blk_drewN | apply blk_drew | apply blk_alloc); refine blk_far ?_ NB172_178.out _; (with_reducible repeat first | apply blk_drewN | apply blk_drew | apply blk_alloc); exact BK172.out) Tryz.underlying99 rfl (by kernel_rfl)) rfl ?_; exact ⟨by first | rfl | (simp [errW_none, errW_some] <;> rfl) | (simp [*, errW_none, errW_some] <;> rfl), by repeat (first | (with_reducible first | exact HB.out | apply below_alloc | apply pw_below_drewN | apply below_drew1 | refine below_set ?_ (Aside0.out (by assumption))) | exact HB.out)⟩

/-! ### big_DivS: a quotient from below, and what is left over: pure, behind function 50 -/
noncomputable def big_DivS.f (n : Bool) (h l d : Int) : Option (Bool × Int × Int × Int × Int) :=
 Sp.need (Sp.U h ∧ Sp.U l ∧ Sp.U d) (Sp.quo (Sp.val n h l) d)
section BigDiv
open Go.Proofs.YtfahbgkoldoflaaGreatDoor.Sp
theorem big_Div.main {n : Bool} {h l d : Int} (h1 : U h) (h2 : U l) (h3 : U d) : big_Div.f 1 n h l d = quo (val n h l) d := by
 unfold big_Div.f quo
 by_cases hd : d = 0
 ·rw [if_pos hd, if_pos hd]
 rw [if_neg hd, if_neg hd]
 have hp : 0 < d := by omega
 have a := Int.emod_nonneg h hd; have b := Int.emod_lt_of_pos h hp; have c := Int.ediv_nonneg h1.1 h3.1; have c2 := Int.ediv_le_self d h1.1; have d1 := Int.emod_nonneg (h % d * 18446744073709551616 + l) hd; have d2 := Int.emod_lt_of_pos (h % d * 18446744073709551616 + l) hp; have d3 : 0 ≤ (h % d * 18446744073709551616 + l) / d := Int.ediv_nonneg (by omega) (by omega)
 have d4 : (h % d * 18446744073709551616 + l) / d < 18446744073709551616 := by rw [Int.ediv_lt_iff_lt_mul hp]; omega
 obtain ⟨e1, e2⟩ := two_div (h := h) (l := l) hp
 rw [Int.tmod_eq_emod_of_nonneg h1.1, Int.tdiv_eq_ediv_of_nonneg h1.1, u64w_in (x := h / d) (by omega)]
 unfold bits_Div64S.f
 rw [need_pos ⟨a, b, h3.2, h2.1, h2.2⟩]
 simp only [Option.bind_some]
 rw [big_with.eq (by omega) (by omega)]
 simp only [Option.bind_some, big_Div.j0]
 have hv : val n h l = if n = true then -(h * 18446744073709551616 + l) else h * 18446744073709551616 + l := rfl
 generalize h * 18446744073709551616 + l = X at *
 generalize (h % d * 18446744073709551616 + l) / d = lo at *
 generalize (h % d * 18446744073709551616 + l) % d = re at *
 have hX := Int.emod_add_ediv_mul X d
 have hQ : 0 ≤ X / d := by rw [e1]; omega
 have hQ2 : X / d < 340282366920938463463374607431768211456 := by rw [e1]; omega
 cases n with
 | false =>
  simp only [Bool.false_eq_true, if_false, if_true] at hv ⊢
  rw [hv, e2]
  have : val false (h / d) lo = X / d := by unfold val; rw [e1]; simp
  rw [this]
 | true =>
  simp only [if_true] at hv ⊢
  have hs : val true (h / d) lo = -(X / d) := by unfold val; rw [e1]; simp
  rw [hs]
  by_cases hz : re = 0
  ·subst hz
   have hv2 : val true h l / d = -(X / d) := by rw [hv]; exact neg_div hp e2
   have hm2 : val true h l % d = 0 := by rw [hv]; exact neg_mod hp e2
   rw [hv2, hm2]; simp
  ·have hv2 : val true h l / d = -(X / d) + -1 := by rw [hv]; exact neg_div' hp (by omega)
   have hm2 : val true h l % d = d - re := by rw [hv, ← e2]; exact neg_mod' hp (by omega)
   have hne : (re == 0) = false := by simpa using hz
   rw [hne]
   simp only [Bool.false_eq_true, if_false]
   rw [big_with.eq (by omega) (by omega), hs]
   unfold big_OfS.f
   rw [need_pos (by omega)]
   simp only [Option.bind_some]
   have hd2 : 2 ≤ d := by omega
   have hsm : X / d ≤ 170141183460469231731687303715884105728 := by
    have hX2 : X < 340282366920938463463374607431768211456 := by
     have := val_B (n := true) h1 h2; rw [hv] at this; omega
    have := Int.mul_le_mul_of_nonneg_left hd2 hQ
    omega
   rw [big_AddS.enc (by omega) (by omega), held_in (by omega)]
   simp only [Option.bind_some, if_true]
   rw [u64w_in (x := d - re) (by omega), hv2, hm2]
theorem big_DivS.eq {n : Bool} {h l d : Int} (h1 : U h) (h2 : U l) (h3 : U d) : big_DivS.f n h l d = quo (val n h l) d := need_pos ⟨h1, h2, h3⟩
theorem big_DivS.enc {v d : Int} (h1 : B v) (h3 : U d) : big_DivS.f (encN v) (encH v) (encL v) d = quo v d := by
 rw [big_DivS.eq (encH_U h1) encL_U h3, val_enc]
end BigDiv
theorem big_DivS.calls (a0_0 : Bool) (a0_1 a0_2 a1 : Int) (r1 : Bool) (r2 r3 r4 r5 : Int) (w : World) (h : big_DivS.f a0_0 a0_1 a0_2 a1 = some (r1, r2, r3, r4, r5)) :
  Calls Tryz.prog 50 #[.agg #[.bool a0_0, .int .u64 a0_1, .int .u64 a0_2], .int .u64 a1] w fun e w' => e = .returned (.tuple #[.agg #[.bool r1, .int .u64 r2, .int .u64 r3], .int .u64 r4, .int .i64 r5]) ∧ Below w.heap.size w w' := by
 obtain ⟨hc, h⟩ := Sp.need_some h; obtain ⟨h1, h2, h3⟩ := hc; exact big_Div.calls 1 _ _ _ _ r1 r2 r3 r4 r5 w (by rw [big_Div.main h1 h2 h3]; exact h)

/-! ### bits_Mul64: function 104 -/
noncomputable def bits_Mul64.f (x y : Int) : Option (Int × Int) := Sp.need (0 ≤ x ∧ x < 18446744073709551616 ∧ 0 ≤ y ∧ y < 18446744073709551616) (some (x * y / 18446744073709551616, x * y % 18446744073709551616))
theorem bits_Mul64.calls (x y r1 r2 : Int) (w : World) (h : bits_Mul64.f x y = some (r1, r2)) :
  Calls Tryz.prog 104 #[.int .u64 x, .int .u64 y] w fun e w' => e = .returned (.tuple #[.int .u64 r1, .int .u64 r2]) ∧ Drawn0 w w' := by
 obtain ⟨hc, h⟩ := Sp.need_some h; obtain ⟨h1, h2, h3, h4⟩ := hc; simp only [Option.some.injEq, Prod.mk.injEq] at h; obtain ⟨rfl, rfl⟩ := h; obtain ⟨x, rfl⟩ := Int.eq_ofNat_of_zero_le h1; obtain ⟨y, rfl⟩ := Int.eq_ofNat_of_zero_le h3; refine (Tryz.bits_Mul64 x y (by omega) (by omega) w).mono ?_; rintro e w' ⟨rfl, rfl⟩; exact ⟨by simp, Drawn0.refl _⟩

/-! ### big_Mul: function 131 -/
noncomputable def big_Mul.f (a0 : Int) (a1 : Int) : Option (Bool × Int × Int) := (big_far.f a0).bind fun t190 => ((big_far.f a1).bind fun t191 => ((bits_Mul64.f t190 t191).bind fun bt192 => ((big_size_with.f bt192.1 bt192.2 ((decide (a0 < 0)) != (decide (a1 < 0)))).bind fun bt194 => (some (bt194.1, bt194.2.1, bt194.2.2)))))
set_option maxHeartbeats 8000000 in
set_option maxRecDepth 100000 in
theorem big_Mul.calls (a0 : Int) (a1 : Int) (r1 : Bool) (r2 : Int) (r3 : Int) (w : World) (h : big_Mul.f a0 a1 = some (r1, r2, r3)) :
  Calls Tryz.prog 131 #[.int .i64 a0, .int .i64 a1] w fun e w' => e = .returned (.agg #[.bool r1, .int .u64 r2, .int .u64 r3]) ∧ Below w.heap.size w w' := by
 have hu99 := Tryz.underlying99; have hu154 := Tryz.underlying154; have HB := Aside0.mk (Below.refl w.heap.size w); have H : ((big_far.f a0).bind fun t190 => ((big_far.f a1).bind fun t191 => ((bits_Mul64.f t190 t191).bind fun bt192 => ((big_size_with.f bt192.1 bt192.2 ((decide (a0 < 0)) != (decide (a1 < 0)))).bind fun bt194 => (some (bt194.1, bt194.2.1, bt194.2.2)))))) = some (r1, r2, r3) := h; clear h; replace H := Option.bind_eq_some_iff.mp H; obtain ⟨t190, A30, H⟩ := H; (try dsimp only at H); have A3 := Aside0.mk A30; clear A30; replace H := Option.bind_eq_some_iff.mp H; obtain ⟨t191, A40, H⟩ := H; replace H : ((bits_Mul64.f t190 t191).bind fun bt192 => ((big_size_with.f bt192.1 bt192.2 ((decide (a0 < 0)) != (decide (a1 < 0)))).bind fun bt194 => (some (bt194.1, bt194.2.1, bt194.2.2)))) = some (r1, r2, r3) := H; have A4 := Aside0.mk A40; clear A40; replace H := Option.bind_eq_some_iff.mp H; obtain ⟨⟨t192, t193⟩, A50, H⟩ := H; replace H : ((big_size_with.f t192 t193 ((decide (a0 < 0)) != (decide (a1 < 0)))).bind fun bt194 => (some (bt194.1, bt194.2.1, bt194.2.2))) = some (r1, r2, r3) := H; have A5 := Aside0.mk A50; clear A50; replace H := Option.bind_eq_some_iff.mp H; obtain ⟨⟨t194, t195, t196⟩, A60, H⟩ := H; replace H : (some (t194, t195, t196)) = some (r1, r2, r3) := H; have A6 := Aside0.mk A60; clear A60; simp only [Option.some.injEq, Prod.mk.injEq] at H; obtain ⟨rfl, rfl, rfl⟩ := H
 go_enter Tryz.func131, Tryz.ntmps131
 go_wp2_with (first | ((with_reducible refine gate_dst (N := 4) rfl ?_); refine box_event ?hg (N := 4) ?hd (cs := #[.bool false, .int .u64 0, .int .u64 0]) (t := 99) ?hr ?_; (case hd => rfl); (case hg => rfl); (case hr => first | (go_simp; done) | (go_simp; rfl)); intro gb189 hg w7 hbox hb; have BK189 := Aside0.mk (hbox); obtain ⟨GW189, nHB⟩ := geA hg hb; have GE189 := GW189; replace HB := nHB; clear nHB; clear hb hbox hg) | ((with_reducible refine gate_callee (f := 102) rfl ?_); refine goesLA_ (some 9) rfl rfl Tryz.func102 rfl #[.int .i64 a0] rfl ?_; (with_reducible refine (big_far.calls a0 t190 _ A3.out).mono ?_); rintro e w' ⟨rfl, ⟨nd, rfl⟩⟩; refine ⟨_, rfl, ?_⟩; (try (rw [drewN_self w7]; generalize hq_ : World.drewN w7 _ = w7; have n0_ : Aside0 (w7.heap[gb189]? = some (.cells #[.bool false, .int .u64 0, .int .u64 0] 99 (0, 0))) := ⟨by rw [← hq_]; exact (by (with_reducible repeat first | apply blk_drewN | apply blk_drew | apply blk_alloc); exact BK189.out)⟩; have n1_ : Aside0 (Below w.heap.size w w7) := ⟨by rw [← hq_]; exact (by repeat (first | (with_reducible first | exact HB.out | apply below_alloc | apply pw_below_drewN | apply below_drew1 | refine below_set ?_ GE189.out) | exact HB.out))⟩; clear BK189 HB hq_; have BK189 := n0_; have HB := n1_; clear n0_ n1_))) | ((with_reducible refine gate_callee (f := 102) rfl ?_); refine goesLA_ (some 11) rfl rfl Tryz.func102 rfl #[.int .i64 a1] rfl ?_; (with_reducible refine (big_far.calls a1 t191 _ A4.out).mono ?_); rintro e w' ⟨rfl, ⟨nd, rfl⟩⟩; refine ⟨_, rfl, ?_⟩; (try (rw [drewN_self w7]; generalize hq_ : World.drewN w7 _ = w7; have n0_ : Aside0 (w7.heap[gb189]? = some (.cells #[.bool false, .int .u64 0, .int .u64 0] 99 (0, 0))) := ⟨by rw [← hq_]; exact (by (with_reducible repeat first | apply blk_drewN | apply blk_drew | apply blk_alloc); exact BK189.out)⟩; have n1_ : Aside0 (Below w.heap.size w w7) := ⟨by rw [← hq_]; exact (by repeat (first | (with_reducible first | exact HB.out | apply below_alloc | apply pw_below_drewN | apply below_drew1 | refine below_set ?_ GE189.out) | exact HB.out))⟩; clear BK189 HB hq_; have BK189 := n0_; have HB := n1_; clear n0_ n1_))) | ((with_reducible refine gate_callee (f := 104) rfl ?_); refine goesLA_ (some 12) rfl rfl Tryz.func104 rfl #[.int .u64 t190, .int .u64 t191] rfl ?_; (with_reducible refine (bits_Mul64.calls t190 t191 t192 t193 _ A5.out).mono ?_); rintro e w' ⟨rfl, ⟨nd, rfl⟩⟩; refine ⟨_, rfl, ?_⟩; (try (rw [drewN_self w7]; generalize hq_ : World.drewN w7 _ = w7; have n0_ : Aside0 (w7.heap[gb189]? = some (.cells #[.bool false, .int .u64 0, .int .u64 0] 99 (0, 0))) := ⟨by rw [← hq_]; exact (by (with_reducible repeat first | apply blk_drewN | apply blk_drew | apply blk_alloc); exact BK189.out)⟩; have n1_ : Aside0 (Below w.heap.size w w7) := ⟨by rw [← hq_]; exact (by repeat (first | (with_reducible first | exact HB.out | apply below_alloc | apply pw_below_drewN | apply below_drew1 | refine below_set ?_ GE189.out) | exact HB.out))⟩; clear BK189 HB hq_; have BK189 := n0_; have HB := n1_; clear n0_ n1_))) | ((with_reducible refine gate_callee (f := 103) rfl ?_); refine goesLA_ (some 23) rfl rfl Tryz.func103 rfl #[.agg #[.int .u64 t192, .int .u64 t193], .bool ((decide (a0 < 0)) != (decide (a1 < 0)))] rfl ?_; (with_reducible refine (big_size_with.calls t192 t193 ((decide (a0 < 0)) != (decide (a1 < 0))) t194 t195 t196 _ A6.out).mono ?_); rintro e w8 ⟨rfl, hb⟩; refine ⟨_, rfl, ?_⟩; replace BK189 := bdZ BK189 hb; replace HB := stA hb; clear hb; have hcz9_0 := czZ BK189 0 (.bool false); have hcz9_1 := czZ BK189 1 (.int .u64 0); have hcz9_2 := czZ BK189 2 (.int .u64 0); have hfz9_0 := blk_frozen BK189.out 0; have hfz9_1 := blk_frozen BK189.out 1; have hfz9_2 := blk_frozen BK189.out 2))
 refine bodyPost_ret (results_cell_row rfl _ _ gb189 99 #[.bool t194, .int .u64 t195, .int .u64 t196] (0, 0) _ rfl (by (with_reducible repeat first | apply blk_drewN | apply blk_drew | apply blk_alloc); refine blk_put (cs := #[.bool t194, .int .u64 t195, .int .u64 0]) ?_ 2 _ rfl; (with_reducible repeat first | apply blk_drewN | apply blk_drew | apply blk_alloc); refine blk_put (cs := #[.bool t194, .int .u64 0, .int .u64 0]) ?_ 1 _ rfl; (with_reducible repeat first | apply blk_drewN | apply blk_drew | apply blk_alloc); refine blk_put (cs := #[.bool false, .int .u64 0, .int .u64 0]) ?_ 0 _ rfl; (with_reducible repeat first | apply blk_drewN | apply blk_drew | apply blk_alloc); exact BK189.out) Tryz.underlying99 rfl (by kernel_rfl)) rfl ?_; exact ⟨by first | rfl | (simp [errW_none, errW_some] <;> rfl) | (simp [*, errW_none, errW_some] <;> rfl), by repeat (first | (with_reducible first | exact HB.out | apply below_alloc | apply pw_below_drewN | apply below_drew1 | refine below_set ?_ GE189.out) | exact HB.out)⟩

/-! ### big_MulS: a product: pure, behind function 131 -/
noncomputable def big_MulS.f (a b : Int) : Option (Bool × Int × Int) := Sp.need (Sp.I a ∧ Sp.I b) (some (Sp.encN (a * b), Sp.encH (a * b), Sp.encL (a * b)))
theorem big_MulS.eq {a b : Int} (h1 : Sp.I a) (h2 : Sp.I b) : big_MulS.f a b = some (Sp.encN (a * b), Sp.encH (a * b), Sp.encL (a * b)) := Sp.need_pos ⟨h1, h2⟩
set_option maxRecDepth 100000 in
theorem big_MulS.calls (a0 a1 : Int) (r1 : Bool) (r2 r3 : Int) (w : World) (h : big_MulS.f a0 a1 = some (r1, r2, r3)) :
  Calls Tryz.prog 131 #[.int .i64 a0, .int .i64 a1] w fun e w' => e = .returned (.agg #[.bool r1, .int .u64 r2, .int .u64 r3]) ∧ Below w.heap.size w w' := by
 obtain ⟨hc, h⟩ := Sp.need_some h; refine big_Mul.calls a0 a1 r1 r2 r3 w ?_
 rw [← h]
 unfold big_Mul.f bits_Mul64.f
 rw [big_far.eq hc.1, big_far.eq hc.2]
 simp only [Option.bind_some]
 rw [Sp.need_pos (by omega)]
 simp only [Option.bind_some]
 have hp : (a0.natAbs : Int) * (a1.natAbs : Int) = ((a0 * a1).natAbs : Int) := by rw [Int.natAbs_mul]; simp
 have hb := Sp.mulI hc.1 hc.2
 rw [hp, big_with.eq (by omega) (by omega)]
 simp only [Option.bind_some]
 have e : Sp.val (decide (a0 < 0) != decide (a1 < 0)) (((a0 * a1).natAbs : Int) / 18446744073709551616) (((a0 * a1).natAbs : Int) % 18446744073709551616) = a0 * a1 := by
  have hs := Sp.mul_sign a0 a1
  unfold Sp.val
  generalize a0 * a1 = p at *
  by_cases h1 : a0 < 0 <;> by_cases h2 : a1 < 0 <;> simp [h1, h2] at hs ⊢ <;> omega
 rw [e]

end Go.Proofs.YtfahbgkoldoflaaGreatDoor.Px
