/- Printed by px.py, over the kit's print. Conditions: none beside the theorems' own. -/
import Derived.Test.YtfahbgkoldoflaaGreatDoorPx0
import Derived.Test.YtfahbgkoldoflaaGreatDoorPx6
import Derived.Test.YtfahbgkoldoflaaGreatDoorPx7
import Derived.Test.YtfahbgkoldoflaaGreatDoorPx8
import Derived.Test.YtfahbgkoldoflaaGreatDoorSpec
namespace Go.Proofs.YtfahbgkoldoflaaGreatDoor.Px
open Go.RowKit Go.Proofs.YtfahbgkoldoflaaGreatDoorW.PrintWords Go.Proofs.YtfahbgkoldoflaaGreatDoorW.PrintLast Go.Proofs.YtfahbgkoldoflaaGreatDoorW.PrintMore
attribute [local go_sem] max2_int min2_int max_two min_two max_three min_three max_four min_four
set_option linter.unusedVariables false
set_option linter.unusedSimpArgs false

/-! ### big_AddS: a sum: pure, behind function 107 -/
noncomputable def big_AddS.f (n : Bool) (h l : Int) (m : Bool) (i k : Int) : Option (Bool × Int × Int × Int) :=
 Sp.need (Sp.U h ∧ Sp.U l ∧ Sp.U i ∧ Sp.U k) (Sp.held (Sp.val n h l + Sp.val m i k))
section BigAdd
open Go.Proofs.YtfahbgkoldoflaaGreatDoor.Sp
theorem big_Add.main {n m : Bool} {h l i k : Int} (h1 : U h) (h2 : U l) (h3 : U i) (h4 : U k) : big_Add.f n h l m i k = held (val n h l + val m i k) := by
 unfold big_Add.f big_of.f
 simp only [Option.bind_some]
 have hv1 : val n h l = if n = true then -(h * 18446744073709551616 + l) else h * 18446744073709551616 + l := rfl
 have hv2 : val m i k = if m = true then -(i * 18446744073709551616 + k) else i * 18446744073709551616 + k := rfl
 by_cases hn : (n != m) = true
 ·rw [if_pos hn]
  unfold big_size_cmpS.f
  rw [need_pos (by omega)]
  simp only [Option.bind_some]
  have hm : m = !n := by cases n <;> cases m <;> simp_all
  subst hm
  by_cases hc : h * 18446744073709551616 + l < i * 18446744073709551616 + k
  ·have : cmpI (h * 18446744073709551616 + l) (i * 18446744073709551616 + k) < 0 := by unfold cmpI; rw [if_pos hc]; omega
   rw [if_pos this]
   unfold big_size_minusS.f
   rw [need_pos (by omega)]
   simp only [Option.bind_some]
   rw [big_with.eq (by omega) (by omega)]
   simp only [Option.bind_some]
   have e : val (!n) ((i * 18446744073709551616 + k - (h * 18446744073709551616 + l)) / 18446744073709551616) ((i * 18446744073709551616 + k - (h * 18446744073709551616 + l)) % 18446744073709551616) = val n h l + val (!n) i k := by
    rw [hv1, hv2]; unfold val; cases n <;> simp <;> omega
   rw [e]
   have hb : B (val n h l + val (!n) i k) := by rw [hv1, hv2]; cases n <;> simp <;> omega
   unfold held
   rw [if_pos hb]
  ·have : ¬ cmpI (h * 18446744073709551616 + l) (i * 18446744073709551616 + k) < 0 := by unfold cmpI; rw [if_neg hc]; split <;> omega
   rw [if_neg this]
   unfold big_size_minusS.f
   rw [need_pos (by omega)]
   simp only [Option.bind_some]
   rw [big_with.eq (by omega) (by omega)]
   simp only [Option.bind_some]
   have e : val n ((h * 18446744073709551616 + l - (i * 18446744073709551616 + k)) / 18446744073709551616) ((h * 18446744073709551616 + l - (i * 18446744073709551616 + k)) % 18446744073709551616) = val n h l + val (!n) i k := by
    rw [hv1, hv2]; unfold val; cases n <;> simp <;> omega
   rw [e]
   have hb : B (val n h l + val (!n) i k) := by rw [hv1, hv2]; cases n <;> simp <;> omega
   unfold held
   rw [if_pos hb]
 ·rw [if_neg hn]
  have hm : m = n := by cases n <;> cases m <;> simp_all
  subst hm
  unfold bits_Add64.f
  rw [need_pos (by omega)]
  simp only [Option.bind_some]
  rw [need_pos (by omega)]
  simp only [Option.bind_some]
  unfold held
  by_cases c : (h + i + (l + k + 0) / 18446744073709551616) / 18446744073709551616 > 0
  ·rw [if_pos c, if_neg (by rw [hv1, hv2]; cases m <;> simp <;> omega)]
  ·rw [if_neg c, big_with.eq (by omega) (by omega), if_pos (by rw [hv1, hv2]; cases m <;> simp <;> omega)]
   simp only [Option.bind_some]
   have e : val m ((h + i + (l + k + 0) / 18446744073709551616) % 18446744073709551616) ((l + k + 0) % 18446744073709551616) = val m h l + val m i k := by
    rw [hv1, hv2]; unfold val; cases m <;> simp <;> omega
   rw [e]
theorem big_AddS.eq {n m : Bool} {h l i k : Int} (h1 : U h) (h2 : U l) (h3 : U i) (h4 : U k) : big_AddS.f n h l m i k = held (val n h l + val m i k) := need_pos ⟨h1, h2, h3, h4⟩
theorem big_AddS.enc {v w : Int} (h1 : B v) (h2 : B w) : big_AddS.f (encN v) (encH v) (encL v) (encN w) (encH w) (encL w) = held (v + w) := by
 rw [big_AddS.eq (encH_U h1) encL_U (encH_U h2) encL_U, val_enc, val_enc]
theorem big_AddS.le {n : Bool} {h l w : Int} (h1 : U h) (h2 : U l) (h3 : B w) : big_AddS.f n h l (encN w) (encH w) (encL w) = held (val n h l + w) := by
 rw [big_AddS.eq h1 h2 (encH_U h3) encL_U, val_enc]
theorem big_AddS.el {m : Bool} {v i k : Int} (h1 : B v) (h2 : U i) (h3 : U k) : big_AddS.f (encN v) (encH v) (encL v) m i k = held (v + val m i k) := by
 rw [big_AddS.eq (encH_U h1) encL_U h2 h3, val_enc]
end BigAdd
theorem big_AddS.calls (a0_0 : Bool) (a0_1 a0_2 : Int) (a1_0 : Bool) (a1_1 a1_2 : Int) (r1 : Bool) (r2 r3 r4 : Int) (w : World) (h : big_AddS.f a0_0 a0_1 a0_2 a1_0 a1_1 a1_2 = some (r1, r2, r3, r4)) :
  Calls Tryz.prog 107 #[.agg #[.bool a0_0, .int .u64 a0_1, .int .u64 a0_2], .agg #[.bool a1_0, .int .u64 a1_1, .int .u64 a1_2]] w fun e w' => e = .returned (.tuple #[.agg #[.bool r1, .int .u64 r2, .int .u64 r3], .int .i64 r4]) ∧ Below w.heap.size w w' := by
 obtain ⟨hc, h⟩ := Sp.need_some h; obtain ⟨h1, h2, h3, h4⟩ := hc; exact big_Add.calls _ _ _ _ _ _ r1 r2 r3 r4 w (by rw [big_Add.main h1 h2 h3 h4]; exact h)

/-! ### big_Div: function 50 -/
noncomputable def big_Div.j0 : Nat → Int → Int → Int → Int → Bool → Bool → Int → Int → Option (Bool × Int × Int × Int × Int)
 | 0, _, _, _, _, _, _, _, _ => none
 | k + 1, x1, x7, x8, x9, x43, x175000, x175001, x175002 => if x43 = true then (some (x175000, x175001, x175002, x8, 0)) else ((big_size_with.f x7 x9 true).bind fun bt175 => ((big_OfS.f (-1)).bind fun bt178 => ((big_AddS.f bt175.1 bt175.2.1 bt175.2.2 bt178.1 bt178.2.1 bt178.2.2).bind fun bt181 => (if bt181.2.2.2 = 0 then (some (bt181.1, bt181.2.1, bt181.2.2.1, IntKind.u64.wrap (x1 - x8), 0)) else (some (false, 0, 0, 0, bt181.2.2.2))))))
noncomputable def big_Div.f (k : Nat) (a0_0 : Bool) (a0_1 : Int) (a0_2 : Int) (a1 : Int) : Option (Bool × Int × Int × Int × Int) := if a1 = 0 then (some (false, 0, 0, 0, 20)) else ((bits_Div64S.f (Int.tmod a0_1 a1) a0_2 a1).bind fun bt169 => ((big_size_with.f (IntKind.u64.wrap (Int.tdiv a0_1 a1)) bt169.1 a0_0).bind fun bt171 => (if a0_0 = true then (big_Div.j0 k a1 (IntKind.u64.wrap (Int.tdiv a0_1 a1)) bt169.2 bt169.1 (bt169.2 == 0) bt171.1 bt171.2.1 bt171.2.2) else (big_Div.j0 k a1 (IntKind.u64.wrap (Int.tdiv a0_1 a1)) bt169.2 bt169.1 true bt171.1 bt171.2.1 bt171.2.2))))
set_option maxHeartbeats 8000000 in
set_option maxRecDepth 100000 in
theorem big_Div.calls (k : Nat) (a0_0 : Bool) (a0_1 : Int) (a0_2 : Int) (a1 : Int) (r1 : Bool) (r2 : Int) (r3 : Int) (r4 : Int) (r5 : Int) (w : World) (h : big_Div.f k a0_0 a0_1 a0_2 a1 = some (r1, r2, r3, r4, r5)) :
  Calls Tryz.prog 50 #[.agg #[.bool a0_0, .int .u64 a0_1, .int .u64 a0_2], .int .u64 a1] w fun e w' => e = .returned (.tuple #[.agg #[.bool r1, .int .u64 r2, .int .u64 r3], .int .u64 r4, .int .i64 r5]) ∧ Below w.heap.size w w' := by
 have hu99 := Tryz.underlying99; have hu154 := Tryz.underlying154; have HB := Aside0.mk (Below.refl w.heap.size w); have H : (if a1 = 0 then (some (false, 0, 0, 0, 20)) else ((bits_Div64S.f (Int.tmod a0_1 a1) a0_2 a1).bind fun bt169 => ((big_size_with.f (IntKind.u64.wrap (Int.tdiv a0_1 a1)) bt169.1 a0_0).bind fun bt171 => (if a0_0 = true then (big_Div.j0 k a1 (IntKind.u64.wrap (Int.tdiv a0_1 a1)) bt169.2 bt169.1 (bt169.2 == 0) bt171.1 bt171.2.1 bt171.2.2) else (big_Div.j0 k a1 (IntKind.u64.wrap (Int.tdiv a0_1 a1)) bt169.2 bt169.1 true bt171.1 bt171.2.1 bt171.2.2))))) = some (r1, r2, r3, r4, r5) := h; clear h
 by_cases c3 : a1 = 0
 ·rw [if_pos c3] at H
  have c3b0 : (a1 == 0) = true := beq_iff_eq.mpr c3; have c3b1 : (a1 != 0) = false := bne_eq_false_iff_eq.mpr c3; clear c3; simp only [Option.some.injEq, Prod.mk.injEq] at H; obtain ⟨rfl, rfl, rfl, rfl, rfl⟩ := H
  go_enter Tryz.func50, Tryz.ntmps50
  go_wp2_with (first | ((with_reducible refine gate_dst (N := 2) rfl ?_); refine box_event ?hg (N := 2) ?hd (cs := #[.bool a0_0, .int .u64 a0_1, .int .u64 a0_2]) (t := 99) ?hr ?_; (case hd => rfl); (case hg => rfl); (case hr => first | (go_simp; done) | (go_simp; rfl)); intro gb167 hg w4 hbox hb; have BK167 := Aside0.mk (hbox); obtain ⟨GW167, nHB⟩ := geA hg hb; have GE167 := GW167; replace HB := nHB; clear nHB; clear hb hbox hg) | ((with_reducible refine gate_dst (N := 4) rfl ?_); refine box_event ?hg (N := 4) ?hd (cs := #[.bool false, .int .u64 0, .int .u64 0]) (t := 99) ?hr ?_; (case hd => rfl); (case hg => rfl); (case hr => first | (go_simp; done) | (go_simp; rfl)); intro gb168 hg w5 hbox hb; have BK168 := Aside0.mk (hbox); obtain ⟨GW168, nHB⟩ := geA hg hb; have GE168 := GW168; obtain ⟨NB167_168, NB168_167, nBK⟩ := nbA BK167 hg hb; replace BK167 := nBK; clear nBK; replace HB := nHB; clear nHB; clear hb hbox hg; have hnb6 := NB168_167.out; have hnc6 := NB167_168.out; have hcz7_0 := czZ BK168 0 (.bool false); have hcz7_1 := czZ BK168 1 (.int .u64 0); have hcz7_2 := czZ BK168 2 (.int .u64 0); have hfz7_0 := blk_frozen BK168.out 0; have hfz7_1 := blk_frozen BK168.out 1; have hfz7_2 := blk_frozen BK168.out 2))
  repeat (go_quiet (first | ((with_reducible refine gate_dst (N := 2) rfl ?_); refine box_event ?hg (N := 2) ?hd (cs := #[.bool a0_0, .int .u64 a0_1, .int .u64 a0_2]) (t := 99) ?hr ?_; (case hd => rfl); (case hg => rfl); (case hr => first | (go_simp; done) | (go_simp; rfl)); intro gb167 hg w4 hbox hb; have BK167 := Aside0.mk (hbox); obtain ⟨GW167, nHB⟩ := geA hg hb; have GE167 := GW167; replace HB := nHB; clear nHB; clear hb hbox hg) | ((with_reducible refine gate_dst (N := 4) rfl ?_); refine box_event ?hg (N := 4) ?hd (cs := #[.bool false, .int .u64 0, .int .u64 0]) (t := 99) ?hr ?_; (case hd => rfl); (case hg => rfl); (case hr => first | (go_simp; done) | (go_simp; rfl)); intro gb168 hg w5 hbox hb; have BK168 := Aside0.mk (hbox); obtain ⟨GW168, nHB⟩ := geA hg hb; have GE168 := GW168; obtain ⟨NB167_168, NB168_167, nBK⟩ := nbA BK167 hg hb; replace BK167 := nBK; clear nBK; replace HB := nHB; clear nHB; clear hb hbox hg; have hnb6 := NB168_167.out; have hnc6 := NB167_168.out; have hcz7_0 := czZ BK168 0 (.bool false); have hcz7_1 := czZ BK168 1 (.int .u64 0); have hcz7_2 := czZ BK168 2 (.int .u64 0); have hfz7_0 := blk_frozen BK168.out 0; have hfz7_1 := blk_frozen BK168.out 1; have hfz7_2 := blk_frozen BK168.out 2)); try go_wp2_with (first | ((with_reducible refine gate_dst (N := 2) rfl ?_); refine box_event ?hg (N := 2) ?hd (cs := #[.bool a0_0, .int .u64 a0_1, .int .u64 a0_2]) (t := 99) ?hr ?_; (case hd => rfl); (case hg => rfl); (case hr => first | (go_simp; done) | (go_simp; rfl)); intro gb167 hg w4 hbox hb; have BK167 := Aside0.mk (hbox); obtain ⟨GW167, nHB⟩ := geA hg hb; have GE167 := GW167; replace HB := nHB; clear nHB; clear hb hbox hg) | ((with_reducible refine gate_dst (N := 4) rfl ?_); refine box_event ?hg (N := 4) ?hd (cs := #[.bool false, .int .u64 0, .int .u64 0]) (t := 99) ?hr ?_; (case hd => rfl); (case hg => rfl); (case hr => first | (go_simp; done) | (go_simp; rfl)); intro gb168 hg w5 hbox hb; have BK168 := Aside0.mk (hbox); obtain ⟨GW168, nHB⟩ := geA hg hb; have GE168 := GW168; obtain ⟨NB167_168, NB168_167, nBK⟩ := nbA BK167 hg hb; replace BK167 := nBK; clear nBK; replace HB := nHB; clear nHB; clear hb hbox hg; have hnb6 := NB168_167.out; have hnc6 := NB167_168.out; have hcz7_0 := czZ BK168 0 (.bool false); have hcz7_1 := czZ BK168 1 (.int .u64 0); have hcz7_2 := czZ BK168 2 (.int .u64 0); have hfz7_0 := blk_frozen BK168.out 0; have hfz7_1 := blk_frozen BK168.out 1; have hfz7_2 := blk_frozen BK168.out 2)))
  refine bodyPost_ret (results_ctt rfl _ _ gb168 99 #[.bool false, .int .u64 0, .int .u64 0] (0, 0) _ rfl (by (with_reducible repeat first | apply blk_drewN | apply blk_drew | apply blk_alloc); refine blk_put (cs := #[.bool false, .int .u64 0, .int .u64 0]) ?_ 2 _ rfl; (with_reducible repeat first | apply blk_drewN | apply blk_drew | apply blk_alloc); refine blk_put (cs := #[.bool false, .int .u64 0, .int .u64 0]) ?_ 1 _ rfl; (with_reducible repeat first | apply blk_drewN | apply blk_drew | apply blk_alloc); refine blk_put (cs := #[.bool false, .int .u64 0, .int .u64 0]) ?_ 0 _ rfl; (with_reducible repeat first | apply blk_drewN | apply blk_drew | apply blk_alloc); exact BK168.out) Tryz.underlying99 rfl (by kernel_rfl)) rfl ?_; exact ⟨by first | rfl | (simp [errW_none, errW_some] <;> rfl) | (simp [*, errW_none, errW_some] <;> rfl), by repeat (first | (with_reducible first | exact HB.out | apply below_alloc | apply pw_below_drewN | apply below_drew1 | refine below_set ?_ (Aside0.out (by assumption))) | exact HB.out)⟩
 ·rw [if_neg c3] at H
  have c3b0 : (a1 == 0) = false := beq_eq_false_iff_ne.mpr c3; have c3b1 : (a1 != 0) = true := bne_iff_ne.mpr c3; replace H := Option.bind_eq_some_iff.mp H; obtain ⟨⟨t169, t170⟩, A80, H⟩ := H; (try dsimp only at H); have A8 := Aside0.mk A80; clear A80; replace H := Option.bind_eq_some_iff.mp H; obtain ⟨⟨t171, t172, t173⟩, A90, H⟩ := H; (try dsimp only at H); have A9 := Aside0.mk A90; clear A90; have HC10 := Aside0.mk H; clear H
  go_enter Tryz.func50, Tryz.ntmps50
  go_upto_region 6 with (first | ((with_reducible refine gate_dst (N := 2) rfl ?_); refine box_event ?hg (N := 2) ?hd (cs := #[.bool a0_0, .int .u64 a0_1, .int .u64 a0_2]) (t := 99) ?hr ?_; (case hd => rfl); (case hg => rfl); (case hr => first | (go_simp; done) | (go_simp; rfl)); intro gb167 hg w11 hbox hb; have BK167 := Aside0.mk (hbox); obtain ⟨GW167, nHB⟩ := geA hg hb; have GE167 := GW167; replace HB := nHB; clear nHB; clear hb hbox hg) | ((with_reducible refine gate_dst (N := 4) rfl ?_); refine box_event ?hg (N := 4) ?hd (cs := #[.bool false, .int .u64 0, .int .u64 0]) (t := 99) ?hr ?_; (case hd => rfl); (case hg => rfl); (case hr => first | (go_simp; done) | (go_simp; rfl)); intro gb168 hg w12 hbox hb; have BK168 := Aside0.mk (hbox); obtain ⟨GW168, nHB⟩ := geA hg hb; have GE168 := GW168; obtain ⟨NB167_168, NB168_167, nBK⟩ := nbA BK167 hg hb; replace BK167 := nBK; clear nBK; replace HB := nHB; clear nHB; clear hb hbox hg; have hnb13 := NB167_168.out; have hnc13 := NB168_167.out; have hcz14_0 := czZ BK167 0 (.bool a0_0); have hcz14_1 := czZ BK167 1 (.int .u64 a0_1); have hcz14_2 := czZ BK167 2 (.int .u64 a0_2); have hfz14_0 := blk_frozen BK167.out 0; have hfz14_1 := blk_frozen BK167.out 1; have hfz14_2 := blk_frozen BK167.out 2) | (go_at_call 106; (with_reducible refine (bits_Div64S.calls (Int.tmod a0_1 a1) a0_2 a1 t169 t170 _ A8.out).mono ?_); rintro e w' ⟨rfl, ⟨nd, rfl⟩⟩; (try first | exact ⟨rfl, _, World.drewN_drewN _ _ _⟩ | exact ⟨rfl, _, Eq.trans (World.drewN_drewN _ _ _) (congrArg (World.drewN _) (Nat.add_assoc _ _ _))⟩)) | (go_at_call 103; (with_reducible refine (big_size_with.calls (IntKind.u64.wrap (Int.tdiv a0_1 a1)) t169 a0_0 t171 t172 t173 _ A9.out).mono ?_); rintro e w15 ⟨rfl, hb⟩; replace BK167 := bdZ BK167 hb; replace BK168 := bdZ BK168 hb; replace HB := stA hb; clear hb) | ((with_reducible refine gate_dst (N := 10) rfl ?_); refine box_event ?hg (N := 10) ?hd (cs := #[.bool false, .int .u64 0, .int .u64 0]) (t := 99) ?hr ?_; (case hd => rfl); (case hg => rfl); (case hr => first | (go_simp; done) | (go_simp; rfl)); intro gb174 hg w16 hbox hb; have BK174 := Aside0.mk (hbox); obtain ⟨GW174, nHB⟩ := geA hg hb; have GE174 := GW174; obtain ⟨NB167_174, NB174_167, nBK⟩ := nbA BK167 hg hb; replace BK167 := nBK; clear nBK; obtain ⟨NB168_174, NB174_168, nBK⟩ := nbA BK168 hg hb; replace BK168 := nBK; clear nBK; replace HB := nHB; clear nHB; clear hb hbox hg; have hnb17 := NB174_167.out; have hnc17 := NB167_174.out; have hnb18 := NB174_168.out; have hnc18 := NB168_174.out; have hcz19_0 := czZ BK174 0 (.bool false); have hcz19_1 := czZ BK174 1 (.int .u64 0); have hcz19_2 := czZ BK174 2 (.int .u64 0); have hfz19_0 := blk_frozen BK174.out 0; have hfz19_1 := blk_frozen BK174.out 1; have hfz19_2 := blk_frozen BK174.out 2))
  repeat (go_quiet (first | ((with_reducible refine gate_dst (N := 2) rfl ?_); refine box_event ?hg (N := 2) ?hd (cs := #[.bool a0_0, .int .u64 a0_1, .int .u64 a0_2]) (t := 99) ?hr ?_; (case hd => rfl); (case hg => rfl); (case hr => first | (go_simp; done) | (go_simp; rfl)); intro gb167 hg w11 hbox hb; have BK167 := Aside0.mk (hbox); obtain ⟨GW167, nHB⟩ := geA hg hb; have GE167 := GW167; replace HB := nHB; clear nHB; clear hb hbox hg) | ((with_reducible refine gate_dst (N := 4) rfl ?_); refine box_event ?hg (N := 4) ?hd (cs := #[.bool false, .int .u64 0, .int .u64 0]) (t := 99) ?hr ?_; (case hd => rfl); (case hg => rfl); (case hr => first | (go_simp; done) | (go_simp; rfl)); intro gb168 hg w12 hbox hb; have BK168 := Aside0.mk (hbox); obtain ⟨GW168, nHB⟩ := geA hg hb; have GE168 := GW168; obtain ⟨NB167_168, NB168_167, nBK⟩ := nbA BK167 hg hb; replace BK167 := nBK; clear nBK; replace HB := nHB; clear nHB; clear hb hbox hg; have hnb13 := NB167_168.out; have hnc13 := NB168_167.out; have hcz14_0 := czZ BK167 0 (.bool a0_0); have hcz14_1 := czZ BK167 1 (.int .u64 a0_1); have hcz14_2 := czZ BK167 2 (.int .u64 a0_2); have hfz14_0 := blk_frozen BK167.out 0; have hfz14_1 := blk_frozen BK167.out 1; have hfz14_2 := blk_frozen BK167.out 2) | (go_at_call 106; (with_reducible refine (bits_Div64S.calls (Int.tmod a0_1 a1) a0_2 a1 t169 t170 _ A8.out).mono ?_); rintro e w' ⟨rfl, ⟨nd, rfl⟩⟩; (try first | exact ⟨rfl, _, World.drewN_drewN _ _ _⟩ | exact ⟨rfl, _, Eq.trans (World.drewN_drewN _ _ _) (congrArg (World.drewN _) (Nat.add_assoc _ _ _))⟩)) | (go_at_call 103; (with_reducible refine (big_size_with.calls (IntKind.u64.wrap (Int.tdiv a0_1 a1)) t169 a0_0 t171 t172 t173 _ A9.out).mono ?_); rintro e w15 ⟨rfl, hb⟩; replace BK167 := bdZ BK167 hb; replace BK168 := bdZ BK168 hb; replace HB := stA hb; clear hb) | ((with_reducible refine gate_dst (N := 10) rfl ?_); refine box_event ?hg (N := 10) ?hd (cs := #[.bool false, .int .u64 0, .int .u64 0]) (t := 99) ?hr ?_; (case hd => rfl); (case hg => rfl); (case hr => first | (go_simp; done) | (go_simp; rfl)); intro gb174 hg w16 hbox hb; have BK174 := Aside0.mk (hbox); obtain ⟨GW174, nHB⟩ := geA hg hb; have GE174 := GW174; obtain ⟨NB167_174, NB174_167, nBK⟩ := nbA BK167 hg hb; replace BK167 := nBK; clear nBK; obtain ⟨NB168_174, NB174_168, nBK⟩ := nbA BK168 hg hb; replace BK168 := nBK; clear nBK; replace HB := nHB; clear nHB; clear hb hbox hg; have hnb17 := NB174_167.out; have hnc17 := NB167_174.out; have hnb18 := NB174_168.out; have hnc18 := NB168_174.out; have hcz19_0 := czZ BK174 0 (.bool false); have hcz19_1 := czZ BK174 1 (.int .u64 0); have hcz19_2 := czZ BK174 2 (.int .u64 0); have hfz19_0 := blk_frozen BK174.out 0; have hfz19_1 := blk_frozen BK174.out 1; have hfz19_2 := blk_frozen BK174.out 2)); go_upto_region 6 with (first | ((with_reducible refine gate_dst (N := 2) rfl ?_); refine box_event ?hg (N := 2) ?hd (cs := #[.bool a0_0, .int .u64 a0_1, .int .u64 a0_2]) (t := 99) ?hr ?_; (case hd => rfl); (case hg => rfl); (case hr => first | (go_simp; done) | (go_simp; rfl)); intro gb167 hg w11 hbox hb; have BK167 := Aside0.mk (hbox); obtain ⟨GW167, nHB⟩ := geA hg hb; have GE167 := GW167; replace HB := nHB; clear nHB; clear hb hbox hg) | ((with_reducible refine gate_dst (N := 4) rfl ?_); refine box_event ?hg (N := 4) ?hd (cs := #[.bool false, .int .u64 0, .int .u64 0]) (t := 99) ?hr ?_; (case hd => rfl); (case hg => rfl); (case hr => first | (go_simp; done) | (go_simp; rfl)); intro gb168 hg w12 hbox hb; have BK168 := Aside0.mk (hbox); obtain ⟨GW168, nHB⟩ := geA hg hb; have GE168 := GW168; obtain ⟨NB167_168, NB168_167, nBK⟩ := nbA BK167 hg hb; replace BK167 := nBK; clear nBK; replace HB := nHB; clear nHB; clear hb hbox hg; have hnb13 := NB167_168.out; have hnc13 := NB168_167.out; have hcz14_0 := czZ BK167 0 (.bool a0_0); have hcz14_1 := czZ BK167 1 (.int .u64 a0_1); have hcz14_2 := czZ BK167 2 (.int .u64 a0_2); have hfz14_0 := blk_frozen BK167.out 0; have hfz14_1 := blk_frozen BK167.out 1; have hfz14_2 := blk_frozen BK167.out 2) | (go_at_call 106; (with_reducible refine (bits_Div64S.calls (Int.tmod a0_1 a1) a0_2 a1 t169 t170 _ A8.out).mono ?_); rintro e w' ⟨rfl, ⟨nd, rfl⟩⟩; (try first | exact ⟨rfl, _, World.drewN_drewN _ _ _⟩ | exact ⟨rfl, _, Eq.trans (World.drewN_drewN _ _ _) (congrArg (World.drewN _) (Nat.add_assoc _ _ _))⟩)) | (go_at_call 103; (with_reducible refine (big_size_with.calls (IntKind.u64.wrap (Int.tdiv a0_1 a1)) t169 a0_0 t171 t172 t173 _ A9.out).mono ?_); rintro e w15 ⟨rfl, hb⟩; replace BK167 := bdZ BK167 hb; replace BK168 := bdZ BK168 hb; replace HB := stA hb; clear hb) | ((with_reducible refine gate_dst (N := 10) rfl ?_); refine box_event ?hg (N := 10) ?hd (cs := #[.bool false, .int .u64 0, .int .u64 0]) (t := 99) ?hr ?_; (case hd => rfl); (case hg => rfl); (case hr => first | (go_simp; done) | (go_simp; rfl)); intro gb174 hg w16 hbox hb; have BK174 := Aside0.mk (hbox); obtain ⟨GW174, nHB⟩ := geA hg hb; have GE174 := GW174; obtain ⟨NB167_174, NB174_167, nBK⟩ := nbA BK167 hg hb; replace BK167 := nBK; clear nBK; obtain ⟨NB168_174, NB174_168, nBK⟩ := nbA BK168 hg hb; replace BK168 := nBK; clear nBK; replace HB := nHB; clear nHB; clear hb hbox hg; have hnb17 := NB174_167.out; have hnc17 := NB167_174.out; have hnb18 := NB174_168.out; have hnc18 := NB168_174.out; have hcz19_0 := czZ BK174 0 (.bool false); have hcz19_1 := czZ BK174 1 (.int .u64 0); have hcz19_2 := czZ BK174 2 (.int .u64 0); have hfz19_0 := blk_frozen BK174.out 0; have hfz19_1 := blk_frozen BK174.out 1; have hfz19_2 := blk_frozen BK174.out 2)))
  (try simp only [Act.put, sA, sB, sC])
  go_cut [43] (fun v43 wc => ∃ (kq : Nat) (x43_9 : Bool), v43 = .bool x43_9 ∧ Aside0 (big_Div.j0 kq a1 (IntKind.u64.wrap (Int.tdiv a0_1 a1)) t170 t169 x43_9 t171 t172 t173 = some (r1, r2, r3, r4, r5)) ∧ Aside0 (kq ≤ k) ∧ Aside0 (wc.heap[gb167]? = some (.cells #[.bool a0_0, .int .u64 a0_1, .int .u64 a0_2] 99 (0, 0))) ∧ Aside0 (wc.heap[gb168]? = some (.cells #[.bool false, .int .u64 0, .int .u64 0] 99 (0, 0))) ∧ Aside0 (wc.heap[gb174]? = some (.cells #[.bool t171, .int .u64 t172, .int .u64 t173] 99 (0, 0))) ∧ Aside0 (Below w.heap.size w wc))
  case first =>
   have H := HC10.out; clear HC10
   by_cases c20 : a0_0 = true
   ·subst c20
    have H1 : (big_Div.j0 k a1 (IntKind.u64.wrap (Int.tdiv a0_1 a1)) t170 t169 (t170 == 0) t171 t172 t173) = some (r1, r2, r3, r4, r5) := by rw [if_pos rfl] at H; exact H
    clear H; have H := H1; clear H1; have H' := Aside0.mk H; clear H; have hnb21 := NB167_168.out; have hnc21 := NB168_167.out; have hnb22 := NB167_174.out; have hnc22 := NB174_167.out; have hcz23_0 := czZ BK167 0 (.bool true); have hcz23_1 := czZ BK167 1 (.int .u64 a0_1); have hcz23_2 := czZ BK167 2 (.int .u64 a0_2); have hfz23_0 := blk_frozen BK167.out 0; have hfz23_1 := blk_frozen BK167.out 1; have hfz23_2 := blk_frozen BK167.out 2
    go_wp2
    repeat (go_quiet (fail); try go_wp2)
    go_meet
    case rel => exact ⟨_, ((t170 == 0)), (by first | rfl | (simp; done) | (simp [*]; done)), H', ⟨by first | omega | exact Nat.le_refl _⟩, ⟨by (with_reducible repeat first | apply blk_drewN | apply blk_drew | apply blk_alloc); refine blk_far ?_ NB167_174.out _; (with_reducible repeat first | apply blk_drewN | apply blk_drew | apply blk_alloc); refine blk_far ?_ NB167_174.out _; (with_reducible repeat first | apply blk_drewN | apply blk_drew | apply blk_alloc); refine blk_far ?_ NB167_174.out _; (with_reducible repeat first | apply blk_drewN | apply blk_drew | apply blk_alloc); exact BK167.out⟩, ⟨by (with_reducible repeat first | apply blk_drewN | apply blk_drew | apply blk_alloc); refine blk_far ?_ NB168_174.out _; (with_reducible repeat first | apply blk_drewN | apply blk_drew | apply blk_alloc); refine blk_far ?_ NB168_174.out _; (with_reducible repeat first | apply blk_drewN | apply blk_drew | apply blk_alloc); refine blk_far ?_ NB168_174.out _; (with_reducible repeat first | apply blk_drewN | apply blk_drew | apply blk_alloc); exact BK168.out⟩, ⟨by (with_reducible repeat first | apply blk_drewN | apply blk_drew | apply blk_alloc); refine blk_put (cs := #[.bool t171, .int .u64 t172, .int .u64 0]) ?_ 2 _ rfl; (with_reducible repeat first | apply blk_drewN | apply blk_drew | apply blk_alloc); refine blk_put (cs := #[.bool t171, .int .u64 0, .int .u64 0]) ?_ 1 _ rfl; (with_reducible repeat first | apply blk_drewN | apply blk_drew | apply blk_alloc); refine blk_put (cs := #[.bool false, .int .u64 0, .int .u64 0]) ?_ 0 _ rfl; (with_reducible repeat first | apply blk_drewN | apply blk_drew | apply blk_alloc); exact BK174.out⟩, ⟨by repeat (first | (with_reducible first | exact HB.out | apply below_alloc | apply pw_below_drewN | apply below_drew1 | refine below_set ?_ (Aside0.out (by assumption))) | exact HB.out)⟩⟩
   ·replace c20 := Bool.eq_false_iff.mpr c20
    subst c20
    have H1 : (big_Div.j0 k a1 (IntKind.u64.wrap (Int.tdiv a0_1 a1)) t170 t169 true t171 t172 t173) = some (r1, r2, r3, r4, r5) := by rw [if_neg (show ¬ (false = true) by decide)] at H; exact H
    clear H; have H := H1; clear H1; have H' := Aside0.mk H; clear H; have hnb24 := NB167_168.out; have hnc24 := NB168_167.out; have hnb25 := NB167_174.out; have hnc25 := NB174_167.out; have hcz26_0 := czZ BK167 0 (.bool false); have hcz26_1 := czZ BK167 1 (.int .u64 a0_1); have hcz26_2 := czZ BK167 2 (.int .u64 a0_2); have hfz26_0 := blk_frozen BK167.out 0; have hfz26_1 := blk_frozen BK167.out 1; have hfz26_2 := blk_frozen BK167.out 2
    go_wp2
    repeat (go_quiet (fail); try go_wp2)
    go_meet
    case rel => exact ⟨_, (true), (by first | rfl | (simp; done) | (simp [*]; done)), H', ⟨by first | omega | exact Nat.le_refl _⟩, ⟨by (with_reducible repeat first | apply blk_drewN | apply blk_drew | apply blk_alloc); refine blk_far ?_ NB167_174.out _; (with_reducible repeat first | apply blk_drewN | apply blk_drew | apply blk_alloc); refine blk_far ?_ NB167_174.out _; (with_reducible repeat first | apply blk_drewN | apply blk_drew | apply blk_alloc); refine blk_far ?_ NB167_174.out _; (with_reducible repeat first | apply blk_drewN | apply blk_drew | apply blk_alloc); exact BK167.out⟩, ⟨by (with_reducible repeat first | apply blk_drewN | apply blk_drew | apply blk_alloc); refine blk_far ?_ NB168_174.out _; (with_reducible repeat first | apply blk_drewN | apply blk_drew | apply blk_alloc); refine blk_far ?_ NB168_174.out _; (with_reducible repeat first | apply blk_drewN | apply blk_drew | apply blk_alloc); refine blk_far ?_ NB168_174.out _; (with_reducible repeat first | apply blk_drewN | apply blk_drew | apply blk_alloc); exact BK168.out⟩, ⟨by (with_reducible repeat first | apply blk_drewN | apply blk_drew | apply blk_alloc); refine blk_put (cs := #[.bool t171, .int .u64 t172, .int .u64 0]) ?_ 2 _ rfl; (with_reducible repeat first | apply blk_drewN | apply blk_drew | apply blk_alloc); refine blk_put (cs := #[.bool t171, .int .u64 0, .int .u64 0]) ?_ 1 _ rfl; (with_reducible repeat first | apply blk_drewN | apply blk_drew | apply blk_alloc); refine blk_put (cs := #[.bool false, .int .u64 0, .int .u64 0]) ?_ 0 _ rfl; (with_reducible repeat first | apply blk_drewN | apply blk_drew | apply blk_alloc); exact BK174.out⟩, ⟨by repeat (first | (with_reducible first | exact HB.out | apply below_alloc | apply pw_below_drewN | apply below_drew1 | refine below_set ?_ (Aside0.out (by assumption))) | exact HB.out)⟩⟩
  case rest =>
   clear HC10
   try clear c1
   try clear c2
   try clear p2
   try clear c3
   try clear c3b0
   try clear c3b1
   try clear c5
   try clear c6
   try clear c13
   try clear c17
   try clear c18
   try clear c20
   try clear c21
   try clear c22
   try clear c24
   try clear c25
   try clear hcz14_0
   try clear hcz14_1
   try clear hcz14_2
   try clear hcz19_0
   try clear hcz19_1
   try clear hcz19_2
   try clear hcz23_0
   try clear hcz23_1
   try clear hcz23_2
   try clear hcz26_0
   try clear hcz26_1
   try clear hcz26_2
   try clear hcz7_0
   try clear hcz7_1
   try clear hcz7_2
   try clear hfz14_0
   try clear hfz14_1
   try clear hfz14_2
   try clear hfz19_0
   try clear hfz19_1
   try clear hfz19_2
   try clear hfz23_0
   try clear hfz23_1
   try clear hfz23_2
   try clear hfz26_0
   try clear hfz26_1
   try clear hfz26_2
   try clear hfz7_0
   try clear hfz7_1
   try clear hfz7_2
   obtain ⟨kq, x43_9, rfl, HA, HJ9, BK167, BK168, BK174, HB⟩ := hcut
   cases kq with
   | zero => exact absurd HA.out (by simp [big_Div.j0])
   | succ kj9 =>
    have H := HA.out; clear HA; simp only [big_Div.j0] at H
    by_cases c27 : x43_9 = true
    ·subst c27
     have H1 : (some (t171, t172, t173, t170, 0)) = some (r1, r2, r3, r4, r5) := by rw [if_pos rfl] at H; exact H
     clear H; have H := H1; clear H1; simp only [Option.some.injEq, Prod.mk.injEq] at H; obtain ⟨rfl, rfl, rfl, rfl, rfl⟩ := H; have hnb28 := NB174_167.out; have hnc28 := NB167_174.out; have hnb29 := NB174_168.out; have hnc29 := NB168_174.out; have hcz30_0 : wc.cell? ⟨gb174, 0, none⟩ = some (.bool t171) := (blk_cell BK174.out 0).trans rfl; have hcz30_1 : wc.cell? ⟨gb174, 1, none⟩ = some (.int .u64 t172) := (blk_cell BK174.out 1).trans rfl; have hcz30_2 : wc.cell? ⟨gb174, 2, none⟩ = some (.int .u64 t173) := (blk_cell BK174.out 2).trans rfl; have hfz30_0 := blk_frozen BK174.out 0; have hfz30_1 := blk_frozen BK174.out 1; have hfz30_2 := blk_frozen BK174.out 2; have hnb31 := NB168_167.out; have hnc31 := NB167_168.out; have hcz32_0 : wc.cell? ⟨gb168, 0, none⟩ = some (.bool false) := (blk_cell BK168.out 0).trans rfl; have hcz32_1 : wc.cell? ⟨gb168, 1, none⟩ = some (.int .u64 0) := (blk_cell BK168.out 1).trans rfl; have hcz32_2 : wc.cell? ⟨gb168, 2, none⟩ = some (.int .u64 0) := (blk_cell BK168.out 2).trans rfl; have hfz32_0 := blk_frozen BK168.out 0; have hfz32_1 := blk_frozen BK168.out 1; have hfz32_2 := blk_frozen BK168.out 2
     go_wp2
     repeat (go_quiet (fail); try go_wp2)
     refine bodyPost_ret (results_ctt rfl _ _ gb168 99 #[.bool t171, .int .u64 t172, .int .u64 t173] (0, 0) _ rfl (by (with_reducible repeat first | apply blk_drewN | apply blk_drew | apply blk_alloc); refine blk_put (cs := #[.bool t171, .int .u64 t172, .int .u64 0]) ?_ 2 _ rfl; (with_reducible repeat first | apply blk_drewN | apply blk_drew | apply blk_alloc); refine blk_put (cs := #[.bool t171, .int .u64 0, .int .u64 0]) ?_ 1 _ rfl; (with_reducible repeat first | apply blk_drewN | apply blk_drew | apply blk_alloc); refine blk_put (cs := #[.bool false, .int .u64 0, .int .u64 0]) ?_ 0 _ rfl; (with_reducible repeat first | apply blk_drewN | apply blk_drew | apply blk_alloc); exact BK168.out) Tryz.underlying99 rfl (by kernel_rfl)) rfl ?_; exact ⟨by first | rfl | (simp [errW_none, errW_some] <;> rfl) | (simp [*, errW_none, errW_some] <;> rfl), by repeat (first | (with_reducible first | exact HB.out | apply below_alloc | apply pw_below_drewN | apply below_drew1 | refine below_set ?_ (Aside0.out (by assumption))) | exact HB.out)⟩
    ·replace c27 := Bool.eq_false_iff.mpr c27
     subst c27
     have H1 : ((big_size_with.f (IntKind.u64.wrap (Int.tdiv a0_1 a1)) t169 true).bind fun bt175 => ((big_OfS.f (-1)).bind fun bt178 => ((big_AddS.f bt175.1 bt175.2.1 bt175.2.2 bt178.1 bt178.2.1 bt178.2.2).bind fun bt181 => (if bt181.2.2.2 = 0 then (some (bt181.1, bt181.2.1, bt181.2.2.1, IntKind.u64.wrap (a1 - t170), 0)) else (some (false, 0, 0, 0, bt181.2.2.2)))))) = some (r1, r2, r3, r4, r5) := by rw [if_neg (show ¬ (false = true) by decide)] at H; exact H
     clear H; have H := H1; clear H1; replace H := Option.bind_eq_some_iff.mp H; obtain ⟨⟨t175, t176, t177⟩, A330, H⟩ := H; (try dsimp only at H); have A33 := Aside0.mk A330; clear A330; replace H := Option.bind_eq_some_iff.mp H; obtain ⟨⟨t178, t179, t180⟩, A340, H⟩ := H; (try dsimp only at H); have A34 := Aside0.mk A340; clear A340; replace H := Option.bind_eq_some_iff.mp H; obtain ⟨⟨t181, t182, t183, t184⟩, A350, H⟩ := H; replace H : (if t184 = 0 then (some (t181, t182, t183, IntKind.u64.wrap (a1 - t170), 0)) else (some (false, 0, 0, 0, t184))) = some (r1, r2, r3, r4, r5) := H; have A35 := Aside0.mk A350; clear A350
     by_cases c36 : t184 = 0
     ·rw [if_pos c36] at H
      have c36b0 : (t184 == 0) = true := beq_iff_eq.mpr c36; have c36b1 : (t184 != 0) = false := bne_eq_false_iff_eq.mpr c36; clear c36; simp only [Option.some.injEq, Prod.mk.injEq] at H; obtain ⟨rfl, rfl, rfl, rfl, rfl⟩ := H
      go_wp2_with (first | (go_at_call 103; (with_reducible refine (big_size_with.calls (IntKind.u64.wrap (Int.tdiv a0_1 a1)) t169 true t175 t176 t177 _ A33.out).mono ?_); rintro e w37 ⟨rfl, hb⟩; replace BK167 := bdZ BK167 hb; replace BK168 := bdZ BK168 hb; replace BK174 := bdZ BK174 hb; replace HB := stA hb; clear hb) | (go_at_call 48; (with_reducible refine (big_OfS.calls (-1) t178 t179 t180 _ A34.out).mono ?_); rintro e w38 ⟨rfl, hb⟩; replace BK167 := bdZ BK167 hb; replace BK168 := bdZ BK168 hb; replace BK174 := bdZ BK174 hb; replace HB := stA hb; clear hb) | (go_at_call 107; (with_reducible refine (big_AddS.calls t175 t176 t177 t178 t179 t180 t181 t182 t183 t184 _ A35.out).mono ?_); rintro e w39 ⟨rfl, hb⟩; replace BK167 := bdZ BK167 hb; replace BK168 := bdZ BK168 hb; replace BK174 := bdZ BK174 hb; replace HB := stA hb; clear hb; have hnb40 := NB174_167.out; have hnc40 := NB167_174.out; have hnb41 := NB174_168.out; have hnc41 := NB168_174.out; have hcz42_0 := czZ BK174 0 (.bool t171); have hcz42_1 := czZ BK174 1 (.int .u64 t172); have hcz42_2 := czZ BK174 2 (.int .u64 t173); have hfz42_0 := blk_frozen BK174.out 0; have hfz42_1 := blk_frozen BK174.out 1; have hfz42_2 := blk_frozen BK174.out 2; have hnb43 := NB168_167.out; have hnc43 := NB167_168.out; have hcz44_0 := czZ BK168 0 (.bool false); have hcz44_1 := czZ BK168 1 (.int .u64 0); have hcz44_2 := czZ BK168 2 (.int .u64 0); have hfz44_0 := blk_frozen BK168.out 0; have hfz44_1 := blk_frozen BK168.out 1; have hfz44_2 := blk_frozen BK168.out 2))
      repeat (go_quiet (first | (go_at_call 103; (with_reducible refine (big_size_with.calls (IntKind.u64.wrap (Int.tdiv a0_1 a1)) t169 true t175 t176 t177 _ A33.out).mono ?_); rintro e w37 ⟨rfl, hb⟩; replace BK167 := bdZ BK167 hb; replace BK168 := bdZ BK168 hb; replace BK174 := bdZ BK174 hb; replace HB := stA hb; clear hb) | (go_at_call 48; (with_reducible refine (big_OfS.calls (-1) t178 t179 t180 _ A34.out).mono ?_); rintro e w38 ⟨rfl, hb⟩; replace BK167 := bdZ BK167 hb; replace BK168 := bdZ BK168 hb; replace BK174 := bdZ BK174 hb; replace HB := stA hb; clear hb) | (go_at_call 107; (with_reducible refine (big_AddS.calls t175 t176 t177 t178 t179 t180 t181 t182 t183 t184 _ A35.out).mono ?_); rintro e w39 ⟨rfl, hb⟩; replace BK167 := bdZ BK167 hb; replace BK168 := bdZ BK168 hb; replace BK174 := bdZ BK174 hb; replace HB := stA hb; clear hb; have hnb40 := NB174_167.out; have hnc40 := NB167_174.out; have hnb41 := NB174_168.out; have hnc41 := NB168_174.out; have hcz42_0 := czZ BK174 0 (.bool t171); have hcz42_1 := czZ BK174 1 (.int .u64 t172); have hcz42_2 := czZ BK174 2 (.int .u64 t173); have hfz42_0 := blk_frozen BK174.out 0; have hfz42_1 := blk_frozen BK174.out 1; have hfz42_2 := blk_frozen BK174.out 2; have hnb43 := NB168_167.out; have hnc43 := NB167_168.out; have hcz44_0 := czZ BK168 0 (.bool false); have hcz44_1 := czZ BK168 1 (.int .u64 0); have hcz44_2 := czZ BK168 2 (.int .u64 0); have hfz44_0 := blk_frozen BK168.out 0; have hfz44_1 := blk_frozen BK168.out 1; have hfz44_2 := blk_frozen BK168.out 2)); try go_wp2_with (first | (go_at_call 103; (with_reducible refine (big_size_with.calls (IntKind.u64.wrap (Int.tdiv a0_1 a1)) t169 true t175 t176 t177 _ A33.out).mono ?_); rintro e w37 ⟨rfl, hb⟩; replace BK167 := bdZ BK167 hb; replace BK168 := bdZ BK168 hb; replace BK174 := bdZ BK174 hb; replace HB := stA hb; clear hb) | (go_at_call 48; (with_reducible refine (big_OfS.calls (-1) t178 t179 t180 _ A34.out).mono ?_); rintro e w38 ⟨rfl, hb⟩; replace BK167 := bdZ BK167 hb; replace BK168 := bdZ BK168 hb; replace BK174 := bdZ BK174 hb; replace HB := stA hb; clear hb) | (go_at_call 107; (with_reducible refine (big_AddS.calls t175 t176 t177 t178 t179 t180 t181 t182 t183 t184 _ A35.out).mono ?_); rintro e w39 ⟨rfl, hb⟩; replace BK167 := bdZ BK167 hb; replace BK168 := bdZ BK168 hb; replace BK174 := bdZ BK174 hb; replace HB := stA hb; clear hb; have hnb40 := NB174_167.out; have hnc40 := NB167_174.out; have hnb41 := NB174_168.out; have hnc41 := NB168_174.out; have hcz42_0 := czZ BK174 0 (.bool t171); have hcz42_1 := czZ BK174 1 (.int .u64 t172); have hcz42_2 := czZ BK174 2 (.int .u64 t173); have hfz42_0 := blk_frozen BK174.out 0; have hfz42_1 := blk_frozen BK174.out 1; have hfz42_2 := blk_frozen BK174.out 2; have hnb43 := NB168_167.out; have hnc43 := NB167_168.out; have hcz44_0 := czZ BK168 0 (.bool false); have hcz44_1 := czZ BK168 1 (.int .u64 0); have hcz44_2 := czZ BK168 2 (.int .u64 0); have hfz44_0 := blk_frozen BK168.out 0; have hfz44_1 := blk_frozen BK168.out 1; have hfz44_2 := blk_frozen BK168.out 2)))
      refine bodyPost_ret (results_ctt rfl _ _ gb168 99 #[.bool t181, .int .u64 t182, .int .u64 t183] (0, 0) _ rfl (by (with_reducible repeat first | apply blk_drewN | apply blk_drew | apply blk_alloc); refine blk_put (cs := #[.bool t181, .int .u64 t182, .int .u64 0]) ?_ 2 _ rfl; (with_reducible repeat first | apply blk_drewN | apply blk_drew | apply blk_alloc); refine blk_put (cs := #[.bool t181, .int .u64 0, .int .u64 0]) ?_ 1 _ rfl; (with_reducible repeat first | apply blk_drewN | apply blk_drew | apply blk_alloc); refine blk_put (cs := #[.bool false, .int .u64 0, .int .u64 0]) ?_ 0 _ rfl; (with_reducible repeat first | apply blk_drewN | apply blk_drew | apply blk_alloc); refine blk_far ?_ NB168_174.out _; (with_reducible repeat first | apply blk_drewN | apply blk_drew | apply blk_alloc); refine blk_far ?_ NB168_174.out _; (with_reducible repeat first | apply blk_drewN | apply blk_drew | apply blk_alloc); refine blk_far ?_ NB168_174.out _; (with_reducible repeat first | apply blk_drewN | apply blk_drew | apply blk_alloc); exact BK168.out) Tryz.underlying99 rfl (by kernel_rfl)) rfl ?_; exact ⟨by first | rfl | (simp [errW_none, errW_some] <;> rfl) | (simp [*, errW_none, errW_some] <;> rfl), by repeat (first | (with_reducible first | exact HB.out | apply below_alloc | apply pw_below_drewN | apply below_drew1 | refine below_set ?_ (Aside0.out (by assumption))) | exact HB.out)⟩
     ·rw [if_neg c36] at H
      have c36b0 : (t184 == 0) = false := beq_eq_false_iff_ne.mpr c36; have c36b1 : (t184 != 0) = true := bne_iff_ne.mpr c36; simp only [Option.some.injEq, Prod.mk.injEq] at H; obtain ⟨rfl, rfl, rfl, rfl, rfl⟩ := H
      go_wp2_with (first | (go_at_call 103; (with_reducible refine (big_size_with.calls (IntKind.u64.wrap (Int.tdiv a0_1 a1)) t169 true t175 t176 t177 _ A33.out).mono ?_); rintro e w45 ⟨rfl, hb⟩; replace BK167 := bdZ BK167 hb; replace BK168 := bdZ BK168 hb; replace BK174 := bdZ BK174 hb; replace HB := stA hb; clear hb) | (go_at_call 48; (with_reducible refine (big_OfS.calls (-1) t178 t179 t180 _ A34.out).mono ?_); rintro e w46 ⟨rfl, hb⟩; replace BK167 := bdZ BK167 hb; replace BK168 := bdZ BK168 hb; replace BK174 := bdZ BK174 hb; replace HB := stA hb; clear hb) | (go_at_call 107; (with_reducible refine (big_AddS.calls t175 t176 t177 t178 t179 t180 t181 t182 t183 t184 _ A35.out).mono ?_); rintro e w47 ⟨rfl, hb⟩; replace BK167 := bdZ BK167 hb; replace BK168 := bdZ BK168 hb; replace BK174 := bdZ BK174 hb; replace HB := stA hb; clear hb; have hnb48 := NB174_167.out; have hnc48 := NB167_174.out; have hnb49 := NB174_168.out; have hnc49 := NB168_174.out; have hcz50_0 := czZ BK174 0 (.bool t171); have hcz50_1 := czZ BK174 1 (.int .u64 t172); have hcz50_2 := czZ BK174 2 (.int .u64 t173); have hfz50_0 := blk_frozen BK174.out 0; have hfz50_1 := blk_frozen BK174.out 1; have hfz50_2 := blk_frozen BK174.out 2; have hnb51 := NB168_167.out; have hnc51 := NB167_168.out; have hcz52_0 := czZ BK168 0 (.bool false); have hcz52_1 := czZ BK168 1 (.int .u64 0); have hcz52_2 := czZ BK168 2 (.int .u64 0); have hfz52_0 := blk_frozen BK168.out 0; have hfz52_1 := blk_frozen BK168.out 1; have hfz52_2 := blk_frozen BK168.out 2))
      repeat (go_quiet (first | (go_at_call 103; (with_reducible refine (big_size_with.calls (IntKind.u64.wrap (Int.tdiv a0_1 a1)) t169 true t175 t176 t177 _ A33.out).mono ?_); rintro e w45 ⟨rfl, hb⟩; replace BK167 := bdZ BK167 hb; replace BK168 := bdZ BK168 hb; replace BK174 := bdZ BK174 hb; replace HB := stA hb; clear hb) | (go_at_call 48; (with_reducible refine (big_OfS.calls (-1) t178 t179 t180 _ A34.out).mono ?_); rintro e w46 ⟨rfl, hb⟩; replace BK167 := bdZ BK167 hb; replace BK168 := bdZ BK168 hb; replace BK174 := bdZ BK174 hb; replace HB := stA hb; clear hb) | (go_at_call 107; (with_reducible refine (big_AddS.calls t175 t176 t177 t178 t179 t180 t181 t182 t183 t184 _ A35.out).mono ?_); rintro e w47 ⟨rfl, hb⟩; replace BK167 := bdZ BK167 hb; replace BK168 := bdZ BK168 hb; replace BK174 := bdZ BK174 hb; replace HB := stA hb; clear hb; have hnb48 := NB174_167.out; have hnc48 := NB167_174.out; have hnb49 := NB174_168.out; have hnc49 := NB168_174.out; have hcz50_0 := czZ BK174 0 (.bool t171); have hcz50_1 := czZ BK174 1 (.int .u64 t172); have hcz50_2 := czZ BK174 2 (.int .u64 t173); have hfz50_0 := blk_frozen BK174.out 0; have hfz50_1 := blk_frozen BK174.out 1; have hfz50_2 := blk_frozen BK174.out 2; have hnb51 := NB168_167.out; have hnc51 := NB167_168.out; have hcz52_0 := czZ BK168 0 (.bool false); have hcz52_1 := czZ BK168 1 (.int .u64 0); have hcz52_2 := czZ BK168 2 (.int .u64 0); have hfz52_0 := blk_frozen BK168.out 0; have hfz52_1 := blk_frozen BK168.out 1; have hfz52_2 := blk_frozen BK168.out 2)); try go_wp2_with (first | (go_at_call 103; (with_reducible refine (big_size_with.calls (IntKind.u64.wrap (Int.tdiv a0_1 a1)) t169 true t175 t176 t177 _ A33.out).mono ?_); rintro e w45 ⟨rfl, hb⟩; replace BK167 := bdZ BK167 hb; replace BK168 := bdZ BK168 hb; replace BK174 := bdZ BK174 hb; replace HB := stA hb; clear hb) | (go_at_call 48; (with_reducible refine (big_OfS.calls (-1) t178 t179 t180 _ A34.out).mono ?_); rintro e w46 ⟨rfl, hb⟩; replace BK167 := bdZ BK167 hb; replace BK168 := bdZ BK168 hb; replace BK174 := bdZ BK174 hb; replace HB := stA hb; clear hb) | (go_at_call 107; (with_reducible refine (big_AddS.calls t175 t176 t177 t178 t179 t180 t181 t182 t183 t184 _ A35.out).mono ?_); rintro e w47 ⟨rfl, hb⟩; replace BK167 := bdZ BK167 hb; replace BK168 := bdZ BK168 hb; replace BK174 := bdZ BK174 hb; replace HB := stA hb; clear hb; have hnb48 := NB174_167.out; have hnc48 := NB167_174.out; have hnb49 := NB174_168.out; have hnc49 := NB168_174.out; have hcz50_0 := czZ BK174 0 (.bool t171); have hcz50_1 := czZ BK174 1 (.int .u64 t172); have hcz50_2 := czZ BK174 2 (.int .u64 t173); have hfz50_0 := blk_frozen BK174.out 0; have hfz50_1 := blk_frozen BK174.out 1; have hfz50_2 := blk_frozen BK174.out 2; have hnb51 := NB168_167.out; have hnc51 := NB167_168.out; have hcz52_0 := czZ BK168 0 (.bool false); have hcz52_1 := czZ BK168 1 (.int .u64 0); have hcz52_2 := czZ BK168 2 (.int .u64 0); have hfz52_0 := blk_frozen BK168.out 0; have hfz52_1 := blk_frozen BK168.out 1; have hfz52_2 := blk_frozen BK168.out 2)))
      refine bodyPost_ret (results_ctt rfl _ _ gb168 99 #[.bool false, .int .u64 0, .int .u64 0] (0, 0) _ rfl (by (with_reducible repeat first | apply blk_drewN | apply blk_drew | apply blk_alloc); refine blk_put (cs := #[.bool false, .int .u64 0, .int .u64 0]) ?_ 2 _ rfl; (with_reducible repeat first | apply blk_drewN | apply blk_drew | apply blk_alloc); refine blk_put (cs := #[.bool false, .int .u64 0, .int .u64 0]) ?_ 1 _ rfl; (with_reducible repeat first | apply blk_drewN | apply blk_drew | apply blk_alloc); refine blk_put (cs := #[.bool false, .int .u64 0, .int .u64 0]) ?_ 0 _ rfl; (with_reducible repeat first | apply blk_drewN | apply blk_drew | apply blk_alloc); refine blk_far ?_ NB168_174.out _; (with_reducible repeat first | apply blk_drewN | apply blk_drew | apply blk_alloc); refine blk_far ?_ NB168_174.out _; (with_reducible repeat first | apply blk_drewN | apply blk_drew | apply blk_alloc); refine blk_far ?_ NB168_174.out _; (with_reducible repeat first | apply blk_drewN | apply blk_drew | apply blk_alloc); exact BK168.out) Tryz.underlying99 rfl (by kernel_rfl)) rfl ?_; exact ⟨by first | rfl | (simp [errW_none, errW_some] <;> rfl) | (simp [*, errW_none, errW_some] <;> rfl), by repeat (first | (with_reducible first | exact HB.out | apply below_alloc | apply pw_below_drewN | apply below_drew1 | refine below_set ?_ (Aside0.out (by assumption))) | exact HB.out)⟩

/-! ### big_DivS: a quotient from below, and what is left over: pure, behind function 50 -/
noncomputable def big_DivS.f (n : Bool) (h l d : Int) : Option (Bool × Int × Int × Int × Int) :=
 Sp.need (Sp.U h ∧ Sp.U l ∧ Sp.U d) (Sp.quo (Sp.val n h l) d)
section BigDiv
open Go.Proofs.YtfahbgkoldoflaaGreatDoor.Sp
theorem big_Div.main {n : Bool} {h l d : Int} (h1 : U h) (h2 : U l) (h3 : U d) : big_Div.f 1 n h l d = quo (val n h l) d := by
 unfold big_Div.f quo
 by_cases hd : d = 0
 ·rw [if_pos hd, if_pos hd]
 rw [if_neg hd, if_neg hd]
 have hp : 0 < d := by omega
 have a := Int.emod_nonneg h hd; have b := Int.emod_lt_of_pos h hp; have c := Int.ediv_nonneg h1.1 h3.1; have c2 := Int.ediv_le_self d h1.1; have d1 := Int.emod_nonneg (h % d * 18446744073709551616 + l) hd; have d2 := Int.emod_lt_of_pos (h % d * 18446744073709551616 + l) hp; have d3 : 0 ≤ (h % d * 18446744073709551616 + l) / d := Int.ediv_nonneg (by omega) (by omega)
 have d4 : (h % d * 18446744073709551616 + l) / d < 18446744073709551616 := by rw [Int.ediv_lt_iff_lt_mul hp]; omega
 obtain ⟨e1, e2⟩ := two_div (h := h) (l := l) hp
 rw [Int.tmod_eq_emod_of_nonneg h1.1, Int.tdiv_eq_ediv_of_nonneg h1.1, u64w_in (x := h / d) (by omega)]
 unfold bits_Div64S.f
 rw [need_pos ⟨a, b, h3.2, h2.1, h2.2⟩]
 simp only [Option.bind_some]
 rw [big_with.eq (by omega) (by omega)]
 simp only [Option.bind_some, big_Div.j0]
 have hv : val n h l = if n = true then -(h * 18446744073709551616 + l) else h * 18446744073709551616 + l := rfl
 generalize h * 18446744073709551616 + l = X at *
 generalize (h % d * 18446744073709551616 + l) / d = lo at *
 generalize (h % d * 18446744073709551616 + l) % d = re at *
 have hX := Int.emod_add_ediv_mul X d
 have hQ : 0 ≤ X / d := by rw [e1]; omega
 have hQ2 : X / d < 340282366920938463463374607431768211456 := by rw [e1]; omega
 cases n with
 | false =>
  simp only [Bool.false_eq_true, if_false, if_true] at hv ⊢
  rw [hv, e2]
  have : val false (h / d) lo = X / d := by unfold val; rw [e1]; simp
  rw [this]
 | true =>
  simp only [if_true] at hv ⊢
  have hs : val true (h / d) lo = -(X / d) := by unfold val; rw [e1]; simp
  rw [hs]
  by_cases hz : re = 0
  ·subst hz
   have hv2 : val true h l / d = -(X / d) := by rw [hv]; exact neg_div hp e2
   have hm2 : val true h l % d = 0 := by rw [hv]; exact neg_mod hp e2
   rw [hv2, hm2]; simp
  ·have hv2 : val true h l / d = -(X / d) + -1 := by rw [hv]; exact neg_div' hp (by omega)
   have hm2 : val true h l % d = d - re := by rw [hv, ← e2]; exact neg_mod' hp (by omega)
   have hne : (re == 0) = false := by simpa using hz
   rw [hne]
   simp only [Bool.false_eq_true, if_false]
   rw [big_with.eq (by omega) (by omega), hs]
   unfold big_OfS.f
   rw [need_pos (by omega)]
   simp only [Option.bind_some]
   have hd2 : 2 ≤ d := by omega
   have hsm : X / d ≤ 170141183460469231731687303715884105728 := by
    have hX2 : X < 340282366920938463463374607431768211456 := by
     have := val_B (n := true) h1 h2; rw [hv] at this; omega
    have := Int.mul_le_mul_of_nonneg_left hd2 hQ
    omega
   rw [big_AddS.enc (by omega) (by omega), held_in (by omega)]
   simp only [Option.bind_some, if_true]
   rw [u64w_in (x := d - re) (by omega), hv2, hm2]
theorem big_DivS.eq {n : Bool} {h l d : Int} (h1 : U h) (h2 : U l) (h3 : U d) : big_DivS.f n h l d = quo (val n h l) d := need_pos ⟨h1, h2, h3⟩
theorem big_DivS.enc {v d : Int} (h1 : B v) (h3 : U d) : big_DivS.f (encN v) (encH v) (encL v) d = quo v d := by
 rw [big_DivS.eq (encH_U h1) encL_U h3, val_enc]
end BigDiv
theorem big_DivS.calls (a0_0 : Bool) (a0_1 a0_2 a1 : Int) (r1 : Bool) (r2 r3 r4 r5 : Int) (w : World) (h : big_DivS.f a0_0 a0_1 a0_2 a1 = some (r1, r2, r3, r4, r5)) :
  Calls Tryz.prog 50 #[.agg #[.bool a0_0, .int .u64 a0_1, .int .u64 a0_2], .int .u64 a1] w fun e w' => e = .returned (.tuple #[.agg #[.bool r1, .int .u64 r2, .int .u64 r3], .int .u64 r4, .int .i64 r5]) ∧ Below w.heap.size w w' := by
 obtain ⟨hc, h⟩ := Sp.need_some h; obtain ⟨h1, h2, h3⟩ := hc; exact big_Div.calls 1 _ _ _ _ r1 r2 r3 r4 r5 w (by rw [big_Div.main h1 h2 h3]; exact h)

/-! ### root_long: function 108 -/
noncomputable def root_long.f (a0_0 : Bool) (a0_1 : Int) (a0_2 : Int) : Option (Int) := if a0_1 > 0 then ((bits_Len64.f a0_1).bind fun t186 => (some (wrap64 (64 + t186)))) else ((bits_Len64.f a0_2).bind fun t187 => (some t187))
set_option maxHeartbeats 8000000 in
set_option maxRecDepth 100000 in
theorem root_long.calls (a0_0 : Bool) (a0_1 : Int) (a0_2 : Int) (r : Int) (w : World) (h : root_long.f a0_0 a0_1 a0_2 = some r) :
  Calls Tryz.prog 108 #[.agg #[.bool a0_0, .int .u64 a0_1, .int .u64 a0_2]] w fun e w' => e = .returned (.int .i64 r) ∧ Below w.heap.size w w' := by
 have hu99 := Tryz.underlying99; have HB := Aside0.mk (Below.refl w.heap.size w); have H : (if a0_1 > 0 then ((bits_Len64.f a0_1).bind fun t186 => (some (wrap64 (64 + t186)))) else ((bits_Len64.f a0_2).bind fun t187 => (some t187))) = some r := h; clear h
 by_cases c2 : a0_1 > 0
 ·rw [if_pos c2] at H
  have c2b0 : decide (0 < a0_1) = true := decide_eq_true c2; clear c2; replace H := Option.bind_eq_some_iff.mp H; obtain ⟨t186, A30, H⟩ := H; replace H : (some (wrap64 (64 + t186))) = some r := H; have A3 := Aside0.mk A30; clear A30; obtain rfl := Option.some.inj H
  go_enter Tryz.func108, Tryz.ntmps108
  go_wp2_with (first | ((with_reducible refine gate_dst (N := 1) rfl ?_); refine box_event ?hg (N := 1) ?hd (cs := #[.bool a0_0, .int .u64 a0_1, .int .u64 a0_2]) (t := 99) ?hr ?_; (case hd => rfl); (case hg => rfl); (case hr => first | (go_simp; done) | (go_simp; rfl)); intro gb185 hg w4 hbox hb; have BK185 := Aside0.mk (hbox); obtain ⟨GW185, nHB⟩ := geA hg hb; have GE185 := GW185; replace HB := nHB; clear nHB; clear hb hbox hg; have hcz5_0 := czZ BK185 0 (.bool a0_0); have hcz5_1 := czZ BK185 1 (.int .u64 a0_1); have hcz5_2 := czZ BK185 2 (.int .u64 a0_2); have hfz5_0 := blk_frozen BK185.out 0; have hfz5_1 := blk_frozen BK185.out 1; have hfz5_2 := blk_frozen BK185.out 2) | ((with_reducible refine gate_callee (f := 151) rfl ?_); refine goesLA_ (some 8) rfl rfl Tryz.func151 rfl #[.int .u64 a0_1] rfl ?_; (with_reducible refine (bits_Len64.calls a0_1 t186 _ A3.out).mono ?_); rintro e w' ⟨rfl, ⟨nd, rfl⟩⟩; refine ⟨_, rfl, ?_⟩))
  go_ret
  exact ⟨by first | rfl | (simp [errW_none, errW_some] <;> rfl) | (simp [*, errW_none, errW_some] <;> rfl), by repeat (first | (with_reducible first | exact HB.out | apply below_alloc | apply pw_below_drewN | apply below_drew1 | refine below_set ?_ GE185.out) | exact HB.out)⟩
 ·rw [if_neg c2] at H
  have c2b0 : decide (0 < a0_1) = false := decide_eq_false c2; clear c2; replace H := Option.bind_eq_some_iff.mp H; obtain ⟨t187, A60, H⟩ := H; replace H : (some t187) = some r := H; have A6 := Aside0.mk A60; clear A60; obtain rfl := Option.some.inj H
  go_enter Tryz.func108, Tryz.ntmps108
  go_wp2_with (first | ((with_reducible refine gate_dst (N := 1) rfl ?_); refine box_event ?hg (N := 1) ?hd (cs := #[.bool a0_0, .int .u64 a0_1, .int .u64 a0_2]) (t := 99) ?hr ?_; (case hd => rfl); (case hg => rfl); (case hr => first | (go_simp; done) | (go_simp; rfl)); intro gb185 hg w7 hbox hb; have BK185 := Aside0.mk (hbox); obtain ⟨GW185, nHB⟩ := geA hg hb; have GE185 := GW185; replace HB := nHB; clear nHB; clear hb hbox hg; have hcz8_0 := czZ BK185 0 (.bool a0_0); have hcz8_1 := czZ BK185 1 (.int .u64 a0_1); have hcz8_2 := czZ BK185 2 (.int .u64 a0_2); have hfz8_0 := blk_frozen BK185.out 0; have hfz8_1 := blk_frozen BK185.out 1; have hfz8_2 := blk_frozen BK185.out 2) | ((with_reducible refine gate_callee (f := 151) rfl ?_); refine goesLA_ (some 12) rfl rfl Tryz.func151 rfl #[.int .u64 a0_2] rfl ?_; (with_reducible refine (bits_Len64.calls a0_2 t187 _ A6.out).mono ?_); rintro e w' ⟨rfl, ⟨nd, rfl⟩⟩; refine ⟨_, rfl, ?_⟩))
  go_ret
  exact ⟨by first | rfl | (simp [errW_none, errW_some] <;> rfl) | (simp [*, errW_none, errW_some] <;> rfl), by repeat (first | (with_reducible first | exact HB.out | apply below_alloc | apply pw_below_drewN | apply below_drew1 | refine below_set ?_ GE185.out) | exact HB.out)⟩

/-! ### root_longS: pure, behind function 108 -/
section
open Go.Proofs.YtfahbgkoldoflaaGreatDoor.Sp
noncomputable def root_longS.f (n : Bool) (h : Int) (l : Int) : Option (Int) := need (U h ∧ U l) (some (longW h l))
theorem root_longS.eq {n : Bool} {h : Int} {l : Int} (h1 : U h) (h2 : U l) : root_longS.f n h l = some (longW h l) := need_pos ⟨h1, h2⟩
theorem root_long.main {n : Bool} {h : Int} {l : Int} (h1 : U h) (h2 : U l) : root_long.f n h l = some (longW h l) := by
 unfold root_long.f longW bits_Len64.f
 by_cases c : h > 0
 ·rw [if_pos c, if_pos (show 0 < h from c), need_pos (by omega)]
  simp only [Option.bind_some]; obtain ⟨a1, a2, a3, a4⟩ := bitLen_facts (Y := h.toNat) (by omega) (by omega)
  rw [w64 (by omega)]
 ·rw [if_neg c, if_neg (show ¬ 0 < h from c), need_pos (by omega)]
  rfl
end
theorem root_longS.calls (a0_0 : Bool) (a0_1 : Int) (a0_2 : Int) (r : Int) (w : World) (h : root_longS.f a0_0 a0_1 a0_2 = some r) :
  Calls Tryz.prog 108 #[.agg #[.bool a0_0, .int .u64 a0_1, .int .u64 a0_2]] w fun e w' => e = .returned (.int .i64 r) ∧ Below w.heap.size w w' := by
 obtain ⟨hc, h⟩ := Sp.need_some h; obtain ⟨h1, h2⟩ := hc; exact root_long.calls a0_0 a0_1 a0_2 r w (by rw [root_long.main h1 h2]; exact h)

-- NOT PRINTED: function 109 (root_greatest)

/-! ### root_Square: function 152 -/
noncomputable def root_Square.f (a0 : Int) : Option (Bool × Int × Int) := (big_ScaleS.f false 0 a0 a0).bind fun bt189 => (some (bt189.1, bt189.2.1, bt189.2.2.1))
set_option maxHeartbeats 8000000 in
set_option maxRecDepth 100000 in
theorem root_Square.calls (a0 : Int) (r1 : Bool) (r2 : Int) (r3 : Int) (w : World) (h : root_Square.f a0 = some (r1, r2, r3)) :
  Calls Tryz.prog 152 #[.int .u64 a0] w fun e w' => e = .returned (.agg #[.bool r1, .int .u64 r2, .int .u64 r3]) ∧ Below w.heap.size w w' := by
 have hu99 := Tryz.underlying99; have HB := Aside0.mk (Below.refl w.heap.size w); have H : ((big_ScaleS.f false 0 a0 a0).bind fun bt189 => (some (bt189.1, bt189.2.1, bt189.2.2.1))) = some (r1, r2, r3) := h; clear h; replace H := Option.bind_eq_some_iff.mp H; obtain ⟨⟨t189, t190, t191, t192⟩, A20, H⟩ := H; replace H : (some (t189, t190, t191)) = some (r1, r2, r3) := H; have A2 := Aside0.mk A20; clear A20; simp only [Option.some.injEq, Prod.mk.injEq] at H; obtain ⟨rfl, rfl, rfl⟩ := H
 go_enter Tryz.func152, Tryz.ntmps152
 go_wp2_with (first | ((with_reducible refine gate_dst (N := 2) rfl ?_); refine box_event ?hg (N := 2) ?hd (cs := #[.bool false, .int .u64 0, .int .u64 0]) (t := 99) ?hr ?_; (case hd => rfl); (case hg => rfl); (case hr => first | (go_simp; done) | (go_simp; rfl)); intro gb188 hg w3 hbox hb; have BK188 := Aside0.mk (hbox); obtain ⟨GW188, nHB⟩ := geA hg hb; have GE188 := GW188; replace HB := nHB; clear nHB; clear hb hbox hg) | ((with_reducible refine gate_callee (f := 49) rfl ?_); refine goesLA_ (some 9) rfl rfl Tryz.func49 rfl #[.agg #[.bool false, .int .u64 0, .int .u64 a0], .int .u64 a0] rfl ?_; (with_reducible refine (big_ScaleS.calls false 0 a0 a0 t189 t190 t191 t192 _ A2.out).mono ?_); rintro e w4 ⟨rfl, hb⟩; refine ⟨_, rfl, ?_⟩; replace BK188 := bdZ BK188 hb; replace HB := stA hb; clear hb) | ((with_reducible refine gate_dst (N := 3) rfl ?_); refine box_event ?hg (N := 3) ?hd (cs := #[.bool false, .int .u64 0, .int .u64 0]) (t := 99) ?hr ?_; (case hd => rfl); (case hg => rfl); (case hr => first | (go_simp; done) | (go_simp; rfl)); intro gb193 hg w5 hbox hb; have BK193 := Aside0.mk (hbox); obtain ⟨GW193, nHB⟩ := geA hg hb; have GE193 := GW193; obtain ⟨NB188_193, NB193_188, nBK⟩ := nbA BK188 hg hb; replace BK188 := nBK; clear nBK; replace HB := nHB; clear nHB; clear hb hbox hg; have hnb6 := NB193_188.out; have hnc6 := NB188_193.out; have hcz7_0 := czZ BK193 0 (.bool false); have hcz7_1 := czZ BK193 1 (.int .u64 0); have hcz7_2 := czZ BK193 2 (.int .u64 0); have hfz7_0 := blk_frozen BK193.out 0; have hfz7_1 := blk_frozen BK193.out 1; have hfz7_2 := blk_frozen BK193.out 2; have hcz8_0 := czZ BK188 0 (.bool false); have hcz8_1 := czZ BK188 1 (.int .u64 0); have hcz8_2 := czZ BK188 2 (.int .u64 0); have hfz8_0 := blk_frozen BK188.out 0; have hfz8_1 := blk_frozen BK188.out 1; have hfz8_2 := blk_frozen BK188.out 2))
 refine bodyPost_ret (results_cell_row rfl _ _ gb188 99 #[.bool t189, .int .u64 t190, .int .u64 t191] (0, 0) _ rfl (by (with_reducible repeat first | apply blk_drewN | apply blk_drew | apply blk_alloc); refine blk_put (cs := #[.bool t189, .int .u64 t190, .int .u64 0]) ?_ 2 _ rfl; (with_reducible repeat first | apply blk_drewN | apply blk_drew | apply blk_alloc); refine blk_put (cs := #[.bool t189, .int .u64 0, .int .u64 0]) ?_ 1 _ rfl; (with_reducible repeat first | apply blk_drewN | apply blk_drew | apply blk_alloc); refine blk_put (cs := #[.bool false, .int .u64 0, .int .u64 0]) ?_ 0 _ rfl; (with_reducible repeat first | apply blk_drewN | apply blk_drew | apply blk_alloc); refine blk_far ?_ NB188_193.out _; (with_reducible repeat first | apply blk_drewN | apply blk_drew | apply blk_alloc); refine blk_far ?_ NB188_193.out _; (with_reducible repeat first | apply blk_drewN | apply blk_drew | apply blk_alloc); refine blk_far ?_ NB188_193.out _; (with_reducible repeat first | apply blk_drewN | apply blk_drew | apply blk_alloc); exact BK188.out) Tryz.underlying99 rfl (by kernel_rfl)) rfl ?_; exact ⟨by first | rfl | (simp [errW_none, errW_some] <;> rfl) | (simp [*, errW_none, errW_some] <;> rfl), by repeat (first | (with_reducible first | exact HB.out | apply below_alloc | apply pw_below_drewN | apply below_drew1 | refine below_set ?_ (Aside0.out (by assumption))) | exact HB.out)⟩

/-! ### root_Cube: function 111 -/
noncomputable def root_Cube.f (a0 : Int) : Option (Bool × Int × Int × Int) := (root_Square.f a0).bind fun bt195 => ((big_ScaleS.f bt195.1 bt195.2.1 bt195.2.2 a0).bind fun bt198 => (some (bt198.1, bt198.2.1, bt198.2.2.1, bt198.2.2.2)))
set_option maxHeartbeats 8000000 in
set_option maxRecDepth 100000 in
theorem root_Cube.calls (a0 : Int) (r1 : Bool) (r2 : Int) (r3 : Int) (r4 : Int) (w : World) (h : root_Cube.f a0 = some (r1, r2, r3, r4)) :
  Calls Tryz.prog 111 #[.int .u64 a0] w fun e w' => e = .returned (.tuple #[.agg #[.bool r1, .int .u64 r2, .int .u64 r3], .int .i64 r4]) ∧ Below w.heap.size w w' := by
 have hu99 := Tryz.underlying99; have HB := Aside0.mk (Below.refl w.heap.size w); have H : ((root_Square.f a0).bind fun bt195 => ((big_ScaleS.f bt195.1 bt195.2.1 bt195.2.2 a0).bind fun bt198 => (some (bt198.1, bt198.2.1, bt198.2.2.1, bt198.2.2.2)))) = some (r1, r2, r3, r4) := h; clear h; replace H := Option.bind_eq_some_iff.mp H; obtain ⟨⟨t195, t196, t197⟩, A20, H⟩ := H; replace H : ((big_ScaleS.f t195 t196 t197 a0).bind fun bt198 => (some (bt198.1, bt198.2.1, bt198.2.2.1, bt198.2.2.2))) = some (r1, r2, r3, r4) := H; have A2 := Aside0.mk A20; clear A20; replace H := Option.bind_eq_some_iff.mp H; obtain ⟨⟨t198, t199, t200, t201⟩, A30, H⟩ := H; replace H : (some (t198, t199, t200, t201)) = some (r1, r2, r3, r4) := H; have A3 := Aside0.mk A30; clear A30; simp only [Option.some.injEq, Prod.mk.injEq] at H; obtain ⟨rfl, rfl, rfl, rfl⟩ := H
 go_enter Tryz.func111, Tryz.ntmps111
 go_wp2_with (first | ((with_reducible refine gate_dst (N := 2) rfl ?_); refine box_event ?hg (N := 2) ?hd (cs := #[.bool false, .int .u64 0, .int .u64 0]) (t := 99) ?hr ?_; (case hd => rfl); (case hg => rfl); (case hr => first | (go_simp; done) | (go_simp; rfl)); intro gb194 hg w4 hbox hb; have BK194 := Aside0.mk (hbox); obtain ⟨GW194, nHB⟩ := geA hg hb; have GE194 := GW194; replace HB := nHB; clear nHB; clear hb hbox hg) | ((with_reducible refine gate_callee (f := 152) rfl ?_); refine goesLA_ (some 5) rfl rfl Tryz.func152 rfl #[.int .u64 a0] rfl ?_; (with_reducible refine (root_Square.calls a0 t195 t196 t197 _ A2.out).mono ?_); rintro e w5 ⟨rfl, hb⟩; refine ⟨_, rfl, ?_⟩; replace BK194 := bdZ BK194 hb; replace HB := stA hb; clear hb) | ((with_reducible refine gate_callee (f := 49) rfl ?_); refine goesLA_ (some 7) rfl rfl Tryz.func49 rfl #[.agg #[.bool t195, .int .u64 t196, .int .u64 t197], .int .u64 a0] rfl ?_; (with_reducible refine (big_ScaleS.calls t195 t196 t197 a0 t198 t199 t200 t201 _ A3.out).mono ?_); rintro e w6 ⟨rfl, hb⟩; refine ⟨_, rfl, ?_⟩; replace BK194 := bdZ BK194 hb; replace HB := stA hb; clear hb; have hcz7_0 := czZ BK194 0 (.bool false); have hcz7_1 := czZ BK194 1 (.int .u64 0); have hcz7_2 := czZ BK194 2 (.int .u64 0); have hfz7_0 := blk_frozen BK194.out 0; have hfz7_1 := blk_frozen BK194.out 1; have hfz7_2 := blk_frozen BK194.out 2))
 refine bodyPost_ret (results_ct rfl _ _ gb194 99 #[.bool t198, .int .u64 t199, .int .u64 t200] (0, 0) _ rfl (by (with_reducible repeat first | apply blk_drewN | apply blk_drew | apply blk_alloc); refine blk_put (cs := #[.bool t198, .int .u64 t199, .int .u64 0]) ?_ 2 _ rfl; (with_reducible repeat first | apply blk_drewN | apply blk_drew | apply blk_alloc); refine blk_put (cs := #[.bool t198, .int .u64 0, .int .u64 0]) ?_ 1 _ rfl; (with_reducible repeat first | apply blk_drewN | apply blk_drew | apply blk_alloc); refine blk_put (cs := #[.bool false, .int .u64 0, .int .u64 0]) ?_ 0 _ rfl; (with_reducible repeat first | apply blk_drewN | apply blk_drew | apply blk_alloc); exact BK194.out) Tryz.underlying99 rfl (by kernel_rfl)) rfl ?_; exact ⟨by first | rfl | (simp [errW_none, errW_some] <;> rfl) | (simp [*, errW_none, errW_some] <;> rfl), by repeat (first | (with_reducible first | exact HB.out | apply below_alloc | apply pw_below_drewN | apply below_drew1 | refine below_set ?_ GE194.out) | exact HB.out)⟩

/-! ### root_CubeS: pure, behind function 111 -/
section
open Go.Proofs.YtfahbgkoldoflaaGreatDoor.Sp
noncomputable def root_CubeS.f (a : Int) : Option (Bool × Int × Int × Int) := need (U a) (held (a * a * a))
theorem root_CubeS.eq {a : Int} (h1 : U a) : root_CubeS.f a = held (a * a * a) := need_pos h1
theorem root_Cube.main {a : Int} (h1 : U a) : root_Cube.f a = held (a * a * a) := by
 unfold root_Cube.f root_Square.f
 have u := mulU h1 h1; have p := Int.mul_nonneg h1.1 h1.1
 rw [big_ScaleS.eq (by omega) h1 h1, val_f]
 have e : (0 * 18446744073709551616 + a) * a = a * a := by rw [Int.zero_mul, Int.zero_add]
 rw [e, held_in (by omega)]
 simp only [Option.bind_some]
 rw [big_ScaleS.enc (by omega) h1]
 unfold held
 split <;> rfl
end
theorem root_CubeS.calls (a0 : Int) (r1 : Bool) (r2 : Int) (r3 : Int) (r4 : Int) (w : World) (h : root_CubeS.f a0 = some (r1, r2, r3, r4)) :
  Calls Tryz.prog 111 #[.int .u64 a0] w fun e w' => e = .returned (.tuple #[.agg #[.bool r1, .int .u64 r2, .int .u64 r3], .int .i64 r4]) ∧ Below w.heap.size w w' := by
 obtain ⟨hc, h⟩ := Sp.need_some h; have h1 := hc; exact root_Cube.calls a0 r1 r2 r3 r4 w (by rw [root_Cube.main h1]; exact h)

end Go.Proofs.YtfahbgkoldoflaaGreatDoor.Px
