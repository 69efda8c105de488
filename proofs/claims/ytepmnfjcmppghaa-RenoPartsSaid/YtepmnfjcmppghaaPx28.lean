/- Printed by a program of this session (wip/tool/px.py), over the kit's print: for each Go function a Lean function, and the proof that the machine's call answers as that function says. Conditions: none beside what the theorems state. -/
import Derived.Test.YtepmnfjcmppghaaPx0
import Derived.Test.YtepmnfjcmppghaaPx27
import Derived.Test.YtepmnfjcmppghaaSpec
namespace Go.Proofs.Ytepmnfjcmppghaa.Px
open Go.RowKit Go.Proofs.YtepmnfjcmppghaaW.PrintWords Go.Proofs.YtepmnfjcmppghaaW.PrintLast Go.Proofs.YtepmnfjcmppghaaW.PrintMore
attribute [local go_sem] max2_int min2_int max_two min_two max_three min_three max_four min_four   -- for this text's walks alone
set_option linter.unusedVariables false
set_option linter.unusedSimpArgs false

theorem unguard_Px28 {P : Program} {ops : Array Oper} {rest : List Oper} {o : Oper} {a : Act} {W : World} {Q : Exit → Act → World → Prop} (hw : Region.wanted o (yielded ops a.tmps) = true) (h : wpList P ops Q ({ o with guard := none } :: rest) a W) : wpList P ops Q (o :: rest) a W := by
 unfold wpList at h ⊢
 rw [if_pos hw]
 rw [if_pos (by simp [Region.wanted])] at h
 exact h

/-! ### sawtoothlaw13_awake: function 21 -/
noncomputable def sawtoothlaw13_awake.f  : Option (Bool) := (reno_Part.f 5 6).bind fun bt312 => ((reno_Part.f 6 6).bind fun bt314 => (if bt312.1 = 9 then (if bt312.2 = 17 then (if bt314.1 = 1 then (if bt314.2 = 1 then ((reno_StepS.f 655360 524288 655360 655360).bind fun t316 => (if t316 = 720896 then ((reno_StepS.f 655360 1310720 655360 655360).bind fun t317 => (if t317 = 690055 then ((reno_StepS.f 5 0 0 65536).bind fun t318 => (if t318 = 65541 then ((reno_StepS.f 68719476736 0 65536 68719476736).bind fun t319 => (if t319 = 68719476736 then ((reno_StepS.f (-5) (-9) 0 (-7)).bind fun t320 => (if t320 = 0 then ((reno_StepsS.f 0 0 65536 (([5, 6] : List Int))).bind fun t324 => (if t324 = 11 then ((reno_StepsS.f (-3) 0 0 ([] : List Int)).bind fun t325 => (some (t325 == (-3)))) else (none))) else (none))) else (none))) else (none))) else (none))) else (none))) else (none)) else (none)) else (none)) else (none)))
set_option maxHeartbeats 8000000 in
set_option maxRecDepth 100000 in
theorem sawtoothlaw13_awake.calls  (r : Bool) (w : World) (h : sawtoothlaw13_awake.f  = some r) :
  Calls Try.prog 21 #[] w fun e w' => e = .returned (.bool r) ∧ Below w.heap.size w w' := by
 have HB := Aside0.mk (Below.refl w.heap.size w)
 have H : ((reno_Part.f 5 6).bind fun bt312 => ((reno_Part.f 6 6).bind fun bt314 => (if bt312.1 = 9 then (if bt312.2 = 17 then (if bt314.1 = 1 then (if bt314.2 = 1 then ((reno_StepS.f 655360 524288 655360 655360).bind fun t316 => (if t316 = 720896 then ((reno_StepS.f 655360 1310720 655360 655360).bind fun t317 => (if t317 = 690055 then ((reno_StepS.f 5 0 0 65536).bind fun t318 => (if t318 = 65541 then ((reno_StepS.f 68719476736 0 65536 68719476736).bind fun t319 => (if t319 = 68719476736 then ((reno_StepS.f (-5) (-9) 0 (-7)).bind fun t320 => (if t320 = 0 then ((reno_StepsS.f 0 0 65536 (([5, 6] : List Int))).bind fun t324 => (if t324 = 11 then ((reno_StepsS.f (-3) 0 0 ([] : List Int)).bind fun t325 => (some (t325 == (-3)))) else (none))) else (none))) else (none))) else (none))) else (none))) else (none))) else (none)) else (none)) else (none)) else (none)))) = some r := h
 clear h
 replace H := Option.bind_eq_some_iff.mp H
 obtain ⟨⟨t312, t313⟩, A10, H⟩ := H
 try dsimp only at H
 have A1 := Aside0.mk A10
 clear A10
 replace H := Option.bind_eq_some_iff.mp H
 obtain ⟨⟨t314, t315⟩, A20, H⟩ := H
 try dsimp only at H
 have A2 := Aside0.mk A20
 clear A20
 by_cases c3 : t312 = 9
 ·rw [if_pos c3] at H
  have c3b0 : (t312 == 9) = true := beq_iff_eq.mpr c3
  have c3b1 : (t312 != 9) = false := bne_eq_false_iff_eq.mpr c3
  clear c3
  by_cases c4 : t313 = 17
  ·rw [if_pos c4] at H
   have c4b0 : (t313 == 17) = true := beq_iff_eq.mpr c4
   have c4b1 : (t313 != 17) = false := bne_eq_false_iff_eq.mpr c4
   clear c4
   by_cases c5 : t314 = 1
   ·rw [if_pos c5] at H
    have c5b0 : (t314 == 1) = true := beq_iff_eq.mpr c5
    have c5b1 : (t314 != 1) = false := bne_eq_false_iff_eq.mpr c5
    clear c5
    by_cases c6 : t315 = 1
    ·rw [if_pos c6] at H
     have c6b0 : (t315 == 1) = true := beq_iff_eq.mpr c6
     have c6b1 : (t315 != 1) = false := bne_eq_false_iff_eq.mpr c6
     clear c6
     replace H := Option.bind_eq_some_iff.mp H
     obtain ⟨t316, A70, H⟩ := H
     try dsimp only at H
     have A7 := Aside0.mk A70
     clear A70
     by_cases c8 : t316 = 720896
     ·rw [if_pos c8] at H
      have c8b0 : (t316 == 720896) = true := beq_iff_eq.mpr c8
      have c8b1 : (t316 != 720896) = false := bne_eq_false_iff_eq.mpr c8
      clear c8
      replace H := Option.bind_eq_some_iff.mp H
      obtain ⟨t317, A90, H⟩ := H
      try dsimp only at H
      have A9 := Aside0.mk A90
      clear A90
      by_cases c10 : t317 = 690055
      ·rw [if_pos c10] at H
       have c10b0 : (t317 == 690055) = true := beq_iff_eq.mpr c10
       have c10b1 : (t317 != 690055) = false := bne_eq_false_iff_eq.mpr c10
       clear c10
       replace H := Option.bind_eq_some_iff.mp H
       obtain ⟨t318, A110, H⟩ := H
       try dsimp only at H
       have A11 := Aside0.mk A110
       clear A110
       by_cases c12 : t318 = 65541
       ·rw [if_pos c12] at H
        have c12b0 : (t318 == 65541) = true := beq_iff_eq.mpr c12
        have c12b1 : (t318 != 65541) = false := bne_eq_false_iff_eq.mpr c12
        clear c12
        replace H := Option.bind_eq_some_iff.mp H
        obtain ⟨t319, A130, H⟩ := H
        try dsimp only at H
        have A13 := Aside0.mk A130
        clear A130
        by_cases c14 : t319 = 68719476736
        ·rw [if_pos c14] at H
         have c14b0 : (t319 == 68719476736) = true := beq_iff_eq.mpr c14
         have c14b1 : (t319 != 68719476736) = false := bne_eq_false_iff_eq.mpr c14
         clear c14
         replace H := Option.bind_eq_some_iff.mp H
         obtain ⟨t320, A150, H⟩ := H
         try dsimp only at H
         have A15 := Aside0.mk A150
         clear A150
         by_cases c16 : t320 = 0
         ·rw [if_pos c16] at H
          have c16b0 : (t320 == 0) = true := beq_iff_eq.mpr c16
          have c16b1 : (t320 != 0) = false := bne_eq_false_iff_eq.mpr c16
          clear c16
          obtain ⟨y321, hy321⟩ : ∃ y_ : List Int, y_ = (([5, 6] : List Int)) := ⟨_, rfl⟩
          replace H : ((reno_StepsS.f 0 0 65536 y321).bind fun t324 => (if t324 = 11 then ((reno_StepsS.f (-3) 0 0 ([] : List Int)).bind fun t325 => (some (t325 == (-3)))) else (none))) = some r := by first | (rw [hy321]; with_reducible exact H) | (have H2_ := (Option.bind_some _ _).symm.trans H; rw [hy321]; with_reducible exact H2_) | (have H2_ := (Option.bind_some _ _).symm.trans H; with_reducible exact H2_) | with_reducible exact H | (rw [hy321]; exact H) | exact H
          have Ny321 := Aside0.mk hy321
          clear hy321
          replace H := Option.bind_eq_some_iff.mp H
          obtain ⟨t324, A170, H⟩ := H
          replace H : (if t324 = 11 then ((reno_StepsS.f (-3) 0 0 ([] : List Int)).bind fun t325 => (some (t325 == (-3)))) else (none)) = some r := H
          have A17 := Aside0.mk A170
          clear A170
          by_cases c18 : t324 = 11
          ·rw [if_pos c18] at H
           have c18b0 : (t324 == 11) = true := beq_iff_eq.mpr c18
           have c18b1 : (t324 != 11) = false := bne_eq_false_iff_eq.mpr c18
           clear c18
           replace H := Option.bind_eq_some_iff.mp H
           obtain ⟨t325, A190, H⟩ := H
           replace H : (some (t325 == (-3))) = some r := H
           have A19 := Aside0.mk A190
           clear A190
           obtain rfl := Option.some.inj H
           go_enter Try.func21, Try.ntmps21
           go_wp2_with (first | ((with_reducible refine gate_callee (f := 22) rfl ?_); refine goesL_ (some 6) rfl rfl Try.func22 (by kernel_rfl) rfl #[.int .i64 5, .int .i64 6] rfl (by (try simp only [List.map_toArray, List.map_cons, List.map_nil]); first | done | rfl | (simp only [List.length_drop, List.length_take]; rfl)) ?_; (with_reducible refine (reno_Part.calls 5 6 t312 t313 _ A1.out).mono ?_); rintro e w' ⟨rfl, ⟨nd, rfl⟩⟩; refine ⟨_, rfl, ?_⟩) | ((with_reducible refine gate_callee (f := 22) rfl ?_); refine goesL_ (some 10) rfl rfl Try.func22 (by kernel_rfl) rfl #[.int .i64 6, .int .i64 6] rfl (by (try simp only [List.map_toArray, List.map_cons, List.map_nil]); first | done | rfl | (simp only [List.length_drop, List.length_take]; rfl)) ?_; (with_reducible refine (reno_Part.calls 6 6 t314 t315 _ A2.out).mono ?_); rintro e w' ⟨rfl, ⟨nd, rfl⟩⟩; refine ⟨_, rfl, ?_⟩) | (go_at_call 23; (with_reducible refine (reno_StepS.calls 655360 524288 655360 655360 t316 _ A7.out).mono ?_); rintro e w20 ⟨rfl, hb⟩; replace HB := Aside0.mk (below_step (by repeat (first | (with_reducible first | exact HB.out | apply below_alloc | apply pw_below_drewN | apply below_drew1) | exact HB.out)) hb); (try clear hb); (try clear hb2); (try clear hk); (try clear hi)) | (go_at_call 23; (with_reducible refine (reno_StepS.calls 655360 1310720 655360 655360 t317 _ A9.out).mono ?_); rintro e w21 ⟨rfl, hb⟩; replace HB := Aside0.mk (below_step (by repeat (first | (with_reducible first | exact HB.out | apply below_alloc | apply pw_below_drewN | apply below_drew1) | exact HB.out)) hb); (try clear hb); (try clear hb2); (try clear hk); (try clear hi)) | (go_at_call 23; (with_reducible refine (reno_StepS.calls 5 0 0 65536 t318 _ A11.out).mono ?_); rintro e w22 ⟨rfl, hb⟩; replace HB := Aside0.mk (below_step (by repeat (first | (with_reducible first | exact HB.out | apply below_alloc | apply pw_below_drewN | apply below_drew1) | exact HB.out)) hb); (try clear hb); (try clear hb2); (try clear hk); (try clear hi)) | (go_at_call 23; (with_reducible refine (reno_StepS.calls 68719476736 0 65536 68719476736 t319 _ A13.out).mono ?_); rintro e w23 ⟨rfl, hb⟩; replace HB := Aside0.mk (below_step (by repeat (first | (with_reducible first | exact HB.out | apply below_alloc | apply pw_below_drewN | apply below_drew1) | exact HB.out)) hb); (try clear hb); (try clear hb2); (try clear hk); (try clear hi)) | (go_at_call 23; (with_reducible refine (reno_StepS.calls (-5) (-9) 0 (-7) t320 _ A15.out).mono ?_); rintro e w24 ⟨rfl, hb⟩; replace HB := Aside0.mk (below_step (by repeat (first | (with_reducible first | exact HB.out | apply below_alloc | apply pw_below_drewN | apply below_drew1) | exact HB.out)) hb); (try clear hb); (try clear hb2); (try clear hk); (try clear hi)) | ((with_reducible refine gate_dst (N := 48) rfl ?_); refine unguard_Px28 (by first | rfl | (simp [Region.wanted, yielded]; done) | (go_simp; done)) ?_; refine Kd.R_lit (Kd.int .i64) _ 3 ?hg (N := 48) ?hd (xs := ([5, 6] : List Int)) (inner := [.int .i64 5, .int .i64 6]) (ok := fun _ => True) (okp := fun _ => True) ?hr ?hp (fun _ hk => hk) trivial (Below.refl _ _) (Nat.le_refl _) (by simp) ?_; (case hd => rfl); (case hg => rfl); (case hr => first | (go_simp; done) | (go_simp; rfl)); (case hp => exact (Reps.one (show Kd.M (Kd.int .i64) _ _ _ 5 [.int .i64 5] from rfl) (Reps.one (show Kd.M (Kd.int .i64) _ _ _ 6 [.int .i64 6] from rfl) (Reps.none _ _)))); intro v322 w25 ho26 hb hg_ hnew_; clear hg_ hnew_; (first | rw [← Ny321.out] at ho26 | (simp only [Int.reduceToNat] at ho26; rw [← Ny321.out] at ho26)); have HO323 := Aside0.mk (Kd.R_lower ho26 (below_size (by repeat (first | (with_reducible first | exact HB.out | apply below_alloc | apply pw_below_drewN | apply below_drew1) | exact HB.out)))); replace HB := Aside0.mk (below_step (by repeat (first | (with_reducible first | exact HB.out | apply below_alloc | apply pw_below_drewN | apply below_drew1) | exact HB.out)) hb); clear hb ho26; obtain ⟨Ao27, co27, eo27⟩ := Kd.R_slice HO323.out; subst eo27) | (go_at_call 25; (with_reducible refine (reno_StepsS.calls 0 0 65536 _ _ y321 t324 _ ?side1 ?side2 A17.out).mono ?_); (case side1 => repeat (first | exact (Kd.R_reads' HO323.out).2.2 | (with_reducible refine Kd.C_alloc ?_ _) | (with_reducible refine Kd.C_drewN ?_ _) | (with_reducible refine Kd.C_drew ?_))); (case side2 => exact (Kd.R_reads' HO323.out).2.1); rintro e w28 ⟨rfl, hb⟩; replace HO323 := Aside0.mk (Kd.R_below (by (with_reducible repeat (first | apply Kd.R_alloc | apply Kd.R_drewN | apply Kd.R_drew)); exact HO323.out) hb); replace HB := Aside0.mk (below_step (by repeat (first | (with_reducible first | exact HB.out | apply below_alloc | apply pw_below_drewN | apply below_drew1) | exact HB.out)) hb); (try clear hb); (try clear hb2); (try clear hk); (try clear hi)) | (go_at_call 25; (refine (reno_StepsS.calls (-3) 0 0 _ _ ([] : List Int) t325 _ ?side1 ?side2 A19.out).mono ?_); (case side1 => exact Kd.C_nil _ _); (case side2 => exact Nat.le_refl _); rintro e w29 ⟨rfl, hb⟩; replace HO323 := Aside0.mk (Kd.R_below (by (with_reducible repeat (first | apply Kd.R_alloc | apply Kd.R_drewN | apply Kd.R_drew)); exact HO323.out) hb); replace HB := Aside0.mk (below_step (by repeat (first | (with_reducible first | exact HB.out | apply below_alloc | apply pw_below_drewN | apply below_drew1) | exact HB.out)) hb); (try clear hb); (try clear hb2); (try clear hk); (try clear hi)))
           go_ret
           exact ⟨by first | rfl | (simp [errW_none, errW_some] <;> rfl) | (simp [*, errW_none, errW_some] <;> rfl), by repeat (first | (with_reducible first | exact HB.out | apply below_alloc | apply pw_below_drewN | apply below_drew1) | exact HB.out)⟩
          ·rw [if_neg c18] at H
           exact absurd H (by simp)
         ·rw [if_neg c16] at H
          exact absurd H (by simp)
        ·rw [if_neg c14] at H
         exact absurd H (by simp)
       ·rw [if_neg c12] at H
        exact absurd H (by simp)
      ·rw [if_neg c10] at H
       exact absurd H (by simp)
     ·rw [if_neg c8] at H
      exact absurd H (by simp)
    ·rw [if_neg c6] at H
     exact absurd H (by simp)
   ·rw [if_neg c5] at H
    exact absurd H (by simp)
  ·rw [if_neg c4] at H
   exact absurd H (by simp)
 ·rw [if_neg c3] at H
  exact absurd H (by simp)

/-! ### sawtoothlaw13_awakeS: pure, behind function 21 -/
noncomputable def sawtoothlaw13_awakeS.f : Option Bool := some true
section
open Go.Proofs.Ytepmnfjcmppghaa.Sp
theorem sawtoothlaw13_awake.main : sawtoothlaw13_awake.f = some true := by
 have f1 : reno_Part.f 5 6 = some (9, 17) := by simp [reno_Part.f]
 have f2 : reno_Part.f 6 6 = some (1, 1) := by simp [reno_Part.f]
 have f3 : reno_StepS.f 655360 524288 655360 655360 = some 720896 := by rw [reno_StepS.eq (by omega) (by omega) (by omega) (by omega)]; simp [stepQ, clamp]
 have f4 : reno_StepS.f 655360 1310720 655360 655360 = some 690055 := by rw [reno_StepS.eq (by omega) (by omega) (by omega) (by omega)]; simp [stepQ, clamp]
 have f5 : reno_StepS.f 5 0 0 65536 = some 65541 := by rw [reno_StepS.eq (by omega) (by omega) (by omega) (by omega)]; simp [stepQ, clamp]
 have f6 : reno_StepS.f 68719476736 0 65536 68719476736 = some 68719476736 := by rw [reno_StepS.eq (by omega) (by omega) (by omega) (by omega)]; simp [stepQ, clamp]
 have f7 : reno_StepS.f (-5) (-9) 0 (-7) = some 0 := by rw [reno_StepS.eq (by omega) (by omega) (by omega) (by omega)]; simp [stepQ, clamp]
 have f8 : reno_StepsS.f 0 0 65536 ([5, 6] : List Int) = some 11 := by rw [reno_StepsS.eq (by omega) (by omega) (by omega) (by simp [I]) (by simp)]; simp [stepsQ, stepQ, clamp]
 have f9 : reno_StepsS.f (-3) 0 0 ([] : List Int) = some (-3) := by rw [reno_StepsS.eq (by omega) (by omega) (by omega) (by simp [I]) (by simp)]; simp [stepsQ, stepQ, clamp]
 unfold sawtoothlaw13_awake.f
 simp only [f1, f2, f3, f4, f5, f6, f7, f8, f9, Option.bind_some, if_true, eq_self, beq_self_eq_true]
end
theorem sawtoothlaw13_awakeS.calls (r : Bool) (w : World) (h : sawtoothlaw13_awakeS.f = some r) :
  Calls Try.prog 21 #[] w fun e w' => e = .returned (.bool r) ∧ Below w.heap.size w w' :=
 sawtoothlaw13_awake.calls r w (by rw [sawtoothlaw13_awake.main]; exact h)

/-! ### sawtoothlaw13_RenoRises: function 9 -/
noncomputable def sawtoothlaw13_RenoRises.f (a0 : Int) (a1 : Int) (a2 : Int) (a3 : Int) (a4 : Int) : Option (Bool) := (sawtoothlaw13_awakeS.f).bind fun t326 => ((reno_StepS.f (wrap64 (a0)) a1 (mx a2 a3) a4).bind fun t327 => ((reno_StepS.f (wrap64 (a0)) a1 (mn a2 a3) a4).bind fun t328 => ((reno_StepS.f (wrap64 (a0)) a1 a2 (mn a3 a4)).bind fun t329 => ((reno_StepS.f (wrap64 (a0)) a1 a2 (mx a3 a4)).bind fun t330 => (if t326 = true then (if t327 ≥ (wrap64 (a0)) then (if t327 ≤ t328 then (if t329 ≤ t330 then (some (decide (t328 ≤ 68719476736))) else (none)) else (none)) else (none)) else (none))))))
set_option maxHeartbeats 8000000 in
set_option maxRecDepth 100000 in
theorem sawtoothlaw13_RenoRises.calls (a0 : Int) (a1 : Int) (a2 : Int) (a3 : Int) (a4 : Int) (r : Bool) (w : World) (h : sawtoothlaw13_RenoRises.f a0 a1 a2 a3 a4 = some r) :
  Calls Try.prog 9 #[.int .u32 a0, .int .i64 a1, .int .i64 a2, .int .i64 a3, .int .i64 a4] w fun e w' => e = .returned (.bool r) ∧ Below w.heap.size w w' := by
 have HB := Aside0.mk (Below.refl w.heap.size w)
 have H : ((sawtoothlaw13_awakeS.f).bind fun t326 => ((reno_StepS.f (wrap64 (a0)) a1 (mx a2 a3) a4).bind fun t327 => ((reno_StepS.f (wrap64 (a0)) a1 (mn a2 a3) a4).bind fun t328 => ((reno_StepS.f (wrap64 (a0)) a1 a2 (mn a3 a4)).bind fun t329 => ((reno_StepS.f (wrap64 (a0)) a1 a2 (mx a3 a4)).bind fun t330 => (if t326 = true then (if t327 ≥ (wrap64 (a0)) then (if t327 ≤ t328 then (if t329 ≤ t330 then (some (decide (t328 ≤ 68719476736))) else (none)) else (none)) else (none)) else (none))))))) = some r := h
 clear h
 replace H := Option.bind_eq_some_iff.mp H
 obtain ⟨t326, A60, H⟩ := H
 try dsimp only at H
 have A6 := Aside0.mk A60
 clear A60
 obtain ⟨ji7, hji7⟩ : ∃ j_ : Int, (mx a2 a3) = j_ := ⟨_, rfl⟩
 replace H : ((reno_StepS.f (wrap64 (a0)) a1 (ji7) a4).bind fun t327 => ((reno_StepS.f (wrap64 (a0)) a1 (mn a2 a3) a4).bind fun t328 => ((reno_StepS.f (wrap64 (a0)) a1 a2 (mn a3 a4)).bind fun t329 => ((reno_StepS.f (wrap64 (a0)) a1 a2 (mx a3 a4)).bind fun t330 => (if t326 = true then (if t327 ≥ (wrap64 (a0)) then (if t327 ≤ t328 then (if t329 ≤ t330 then (some (decide (t328 ≤ 68719476736))) else (none)) else (none)) else (none)) else (none)))))) = some r := by first | (rw [hji7] at H; exact H) | (simp only [hji7] at H ⊢; exact H)
 (try rw [hji7] at A6)
 have hji7_ : (if a2 < a3 then a3 else a2) = ji7 := hji7
 replace H := Option.bind_eq_some_iff.mp H
 obtain ⟨t327, A80, H⟩ := H
 try dsimp only at H
 have A8 := Aside0.mk A80
 clear A80
 obtain ⟨ji9, hji9⟩ : ∃ j_ : Int, (mn a2 a3) = j_ := ⟨_, rfl⟩
 replace H : ((reno_StepS.f (wrap64 (a0)) a1 (ji9) a4).bind fun t328 => ((reno_StepS.f (wrap64 (a0)) a1 a2 (mn a3 a4)).bind fun t329 => ((reno_StepS.f (wrap64 (a0)) a1 a2 (mx a3 a4)).bind fun t330 => (if t326 = true then (if t327 ≥ (wrap64 (a0)) then (if t327 ≤ t328 then (if t329 ≤ t330 then (some (decide (t328 ≤ 68719476736))) else (none)) else (none)) else (none)) else (none))))) = some r := by first | (rw [hji9] at H; exact H) | (simp only [hji9] at H ⊢; exact H)
 (try rw [hji9] at A6)
 (try rw [hji9] at A8)
 have hji9_ : (if a3 < a2 then a3 else a2) = ji9 := hji9
 replace H := Option.bind_eq_some_iff.mp H
 obtain ⟨t328, A100, H⟩ := H
 try dsimp only at H
 have A10 := Aside0.mk A100
 clear A100
 obtain ⟨ji11, hji11⟩ : ∃ j_ : Int, (mn a3 a4) = j_ := ⟨_, rfl⟩
 replace H : ((reno_StepS.f (wrap64 (a0)) a1 a2 (ji11)).bind fun t329 => ((reno_StepS.f (wrap64 (a0)) a1 a2 (mx a3 a4)).bind fun t330 => (if t326 = true then (if t327 ≥ (wrap64 (a0)) then (if t327 ≤ t328 then (if t329 ≤ t330 then (some (decide (t328 ≤ 68719476736))) else (none)) else (none)) else (none)) else (none)))) = some r := by first | (rw [hji11] at H; exact H) | (simp only [hji11] at H ⊢; exact H)
 (try rw [hji11] at A6)
 (try rw [hji11] at A8)
 (try rw [hji11] at A10)
 have hji11_ : (if a4 < a3 then a4 else a3) = ji11 := hji11
 replace H := Option.bind_eq_some_iff.mp H
 obtain ⟨t329, A120, H⟩ := H
 try dsimp only at H
 have A12 := Aside0.mk A120
 clear A120
 obtain ⟨ji13, hji13⟩ : ∃ j_ : Int, (mx a3 a4) = j_ := ⟨_, rfl⟩
 replace H : ((reno_StepS.f (wrap64 (a0)) a1 a2 (ji13)).bind fun t330 => (if t326 = true then (if t327 ≥ (wrap64 (a0)) then (if t327 ≤ t328 then (if t329 ≤ t330 then (some (decide (t328 ≤ 68719476736))) else (none)) else (none)) else (none)) else (none))) = some r := by first | (rw [hji13] at H; exact H) | (simp only [hji13] at H ⊢; exact H)
 (try rw [hji13] at A6)
 (try rw [hji13] at A8)
 (try rw [hji13] at A10)
 (try rw [hji13] at A12)
 have hji13_ : (if a3 < a4 then a4 else a3) = ji13 := hji13
 replace H := Option.bind_eq_some_iff.mp H
 obtain ⟨t330, A140, H⟩ := H
 replace H : (if t326 = true then (if t327 ≥ (wrap64 (a0)) then (if t327 ≤ t328 then (if t329 ≤ t330 then (some (decide (t328 ≤ 68719476736))) else (none)) else (none)) else (none)) else (none)) = some r := H
 have A14 := Aside0.mk A140
 clear A140
 by_cases c15 : t326 = true
 ·subst c15
  have H1 : (if t327 ≥ (wrap64 (a0)) then (if t327 ≤ t328 then (if t329 ≤ t330 then (some (decide (t328 ≤ 68719476736))) else (none)) else (none)) else (none)) = some r := by rw [if_pos rfl] at H; exact H
  clear H
  have H := H1
  clear H1
  by_cases c16 : t327 ≥ (wrap64 (a0))
  ·rw [if_pos c16] at H
   have c16b0 : decide ((wrap64 (a0)) ≤ t327) = true := decide_eq_true c16
   clear c16
   by_cases c17 : t327 ≤ t328
   ·rw [if_pos c17] at H
    have c17b0 : decide (t327 ≤ t328) = true := decide_eq_true c17
    clear c17
    by_cases c18 : t329 ≤ t330
    ·rw [if_pos c18] at H
     have c18b0 : decide (t329 ≤ t330) = true := decide_eq_true c18
     clear c18
     obtain rfl := Option.some.inj H
     go_enter Try.func9, Try.ntmps9
     go_wp2_with (first | ((with_reducible refine gate_callee (f := 21) rfl ?_); refine goesL_ (some 17) rfl rfl Try.func21 (by kernel_rfl) rfl #[] rfl (by (try simp only [List.map_toArray, List.map_cons, List.map_nil]); first | done | rfl | (simp only [List.length_drop, List.length_take]; rfl)) ?_; (with_reducible refine (sawtoothlaw13_awakeS.calls  true _ A6.out).mono ?_); rintro e w19 ⟨rfl, hb⟩; refine ⟨_, rfl, ?_⟩; replace HB := Aside0.mk (below_step (by repeat (first | (with_reducible first | exact HB.out | apply below_alloc | apply pw_below_drewN | apply below_drew1) | exact HB.out)) hb); (try clear hb); (try clear hb2); (try clear hk); (try clear hi)) | ((with_reducible refine gate_callee (f := 23) rfl ?_); refine goesL_ (some 26) rfl rfl Try.func23 (by kernel_rfl) rfl #[.int .i64 (wrap64 (a0)), .int .i64 a1, .int .i64 ji7, .int .i64 a4] rfl (by (try simp only [List.map_toArray, List.map_cons, List.map_nil]); first | done | (simp only [hji7]; rfl) | rfl | (simp only [List.length_drop, List.length_take]; rfl)) ?_; (with_reducible refine (reno_StepS.calls (wrap64 (a0)) a1 ji7 a4 t327 _ A8.out).mono ?_); rintro e w20 ⟨rfl, hb⟩; refine ⟨_, rfl, ?_⟩; replace HB := Aside0.mk (below_step (by repeat (first | (with_reducible first | exact HB.out | apply below_alloc | apply pw_below_drewN | apply below_drew1) | exact HB.out)) hb); (try clear hb); (try clear hb2); (try clear hk); (try clear hi)) | ((with_reducible refine gate_callee (f := 23) rfl ?_); refine goesL_ (some 33) rfl rfl Try.func23 (by kernel_rfl) rfl #[.int .i64 (wrap64 (a0)), .int .i64 a1, .int .i64 ji9, .int .i64 a4] rfl (by (try simp only [List.map_toArray, List.map_cons, List.map_nil]); first | done | (simp only [hji9]; rfl) | rfl | (simp only [List.length_drop, List.length_take]; rfl)) ?_; (with_reducible refine (reno_StepS.calls (wrap64 (a0)) a1 ji9 a4 t328 _ A10.out).mono ?_); rintro e w21 ⟨rfl, hb⟩; refine ⟨_, rfl, ?_⟩; replace HB := Aside0.mk (below_step (by repeat (first | (with_reducible first | exact HB.out | apply below_alloc | apply pw_below_drewN | apply below_drew1) | exact HB.out)) hb); (try clear hb); (try clear hb2); (try clear hk); (try clear hi)) | ((with_reducible refine gate_callee (f := 23) rfl ?_); refine goesL_ (some 40) rfl rfl Try.func23 (by kernel_rfl) rfl #[.int .i64 (wrap64 (a0)), .int .i64 a1, .int .i64 a2, .int .i64 ji11] rfl (by (try simp only [List.map_toArray, List.map_cons, List.map_nil]); first | done | (simp only [hji11]; rfl) | rfl | (simp only [List.length_drop, List.length_take]; rfl)) ?_; (with_reducible refine (reno_StepS.calls (wrap64 (a0)) a1 a2 ji11 t329 _ A12.out).mono ?_); rintro e w22 ⟨rfl, hb⟩; refine ⟨_, rfl, ?_⟩; replace HB := Aside0.mk (below_step (by repeat (first | (with_reducible first | exact HB.out | apply below_alloc | apply pw_below_drewN | apply below_drew1) | exact HB.out)) hb); (try clear hb); (try clear hb2); (try clear hk); (try clear hi)) | ((with_reducible refine gate_callee (f := 23) rfl ?_); refine goesL_ (some 47) rfl rfl Try.func23 (by kernel_rfl) rfl #[.int .i64 (wrap64 (a0)), .int .i64 a1, .int .i64 a2, .int .i64 ji13] rfl (by (try simp only [List.map_toArray, List.map_cons, List.map_nil]); first | done | (simp only [hji13]; rfl) | rfl | (simp only [List.length_drop, List.length_take]; rfl)) ?_; (with_reducible refine (reno_StepS.calls (wrap64 (a0)) a1 a2 ji13 t330 _ A14.out).mono ?_); rintro e w23 ⟨rfl, hb⟩; refine ⟨_, rfl, ?_⟩; replace HB := Aside0.mk (below_step (by repeat (first | (with_reducible first | exact HB.out | apply below_alloc | apply pw_below_drewN | apply below_drew1) | exact HB.out)) hb); (try clear hb); (try clear hb2); (try clear hk); (try clear hi)))
     go_ret
     exact ⟨by first | rfl | (simp [errW_none, errW_some] <;> rfl) | (simp only [← hji7, ← hji9, ← hji11, ← hji13]; first | rfl | (simp [errW_none, errW_some] <;> rfl)) | (simp [*, errW_none, errW_some] <;> rfl), by repeat (first | (with_reducible first | exact HB.out | apply below_alloc | apply pw_below_drewN | apply below_drew1) | exact HB.out)⟩
    ·rw [if_neg c18] at H
     exact absurd H (by simp)
   ·rw [if_neg c17] at H
    exact absurd H (by simp)
  ·rw [if_neg c16] at H
   exact absurd H (by simp)
 ·replace c15 := Bool.eq_false_iff.mpr c15
  subst c15
  have H1 : (none) = some r := by rw [if_neg (show ¬ (false = true) by decide)] at H; exact H
  clear H
  have H := H1
  clear H1
  exact absurd H (by simp)

/-- THE ONE PURE STATEMENT of sawtoothlaw13_RenoRises: yours. -/
def sawtoothlaw13_RenoRises.Pure : Prop := ∀ (a0 : Int) (a1 : Int) (a2 : Int) (a3 : Int) (a4 : Int), (Lit.int .u32 a0).wf = true → (Lit.int .i64 a1).wf = true → (Lit.int .i64 a2).wf = true → (Lit.int .i64 a3).wf = true → (Lit.int .i64 a4).wf = true → sawtoothlaw13_RenoRises.f a0 a1 a2 a3 a4 = some true
theorem sawtoothlaw13_RenoRises.walk (P : sawtoothlaw13_RenoRises.Pure) (a0 : Int) (a1 : Int) (a2 : Int) (a3 : Int) (a4 : Int) (w : World) (w0 : (Lit.int .u32 a0).wf = true) (w1 : (Lit.int .i64 a1).wf = true) (w2 : (Lit.int .i64 a2).wf = true) (w3 : (Lit.int .i64 a3).wf = true) (w4 : (Lit.int .i64 a4).wf = true) :
  Calls Try.prog 9 #[.int .u32 a0, .int .i64 a1, .int .i64 a2, .int .i64 a3, .int .i64 a4] w fun e w' => e = .returned (.bool true) ∧ Below w.heap.size w w' := by
 have h := P a0 a1 a2 a3 a4 w0 w1 w2 w3 w4
 refine (sawtoothlaw13_RenoRises.calls a0 a1 a2 a3 a4 true w h).mono ?_
 rintro e w' ⟨rfl, hd⟩
 exact ⟨rfl, hd⟩

/-! ### sawtoothlaw13_RenoRound: function 10 -/
noncomputable def sawtoothlaw13_RenoRound.f (a0 : Int) (a1 : Int) (a2 : Int) : Option (Bool) := (sawtoothlaw13_awakeS.f).bind fun t331 => ((reno_StepS.f (wrap64 (a0)) (wrap64 (a1)) (wrap64 (65536 + (wrap64 (a2)))) (wrap64 (65536 + (wrap64 (a2))))).bind fun t332 => (if t331 = true then (if (wrap64 (t332 - (wrap64 (a0)))) ≤ 65536 then (if (wrap64 (17 * (wrap64 ((wrap64 (t332 - (wrap64 (a0)))) + 1)))) > 589824 then (if (wrap64 (a0)) < (wrap64 (a1)) then (some true) else (some ((wrap64 (t332 - (wrap64 (a0)))) == 65536))) else (none)) else (none)) else (none)))
set_option maxHeartbeats 8000000 in
set_option maxRecDepth 100000 in
theorem sawtoothlaw13_RenoRound.calls (a0 : Int) (a1 : Int) (a2 : Int) (r : Bool) (w : World) (h : sawtoothlaw13_RenoRound.f a0 a1 a2 = some r) :
  Calls Try.prog 10 #[.int .u32 a0, .int .u32 a1, .int .u32 a2] w fun e w' => e = .returned (.bool r) ∧ Below w.heap.size w w' := by
 have HB := Aside0.mk (Below.refl w.heap.size w)
 have H : ((sawtoothlaw13_awakeS.f).bind fun t331 => ((reno_StepS.f (wrap64 (a0)) (wrap64 (a1)) (wrap64 (65536 + (wrap64 (a2)))) (wrap64 (65536 + (wrap64 (a2))))).bind fun t332 => (if t331 = true then (if (wrap64 (t332 - (wrap64 (a0)))) ≤ 65536 then (if (wrap64 (17 * (wrap64 ((wrap64 (t332 - (wrap64 (a0)))) + 1)))) > 589824 then (if (wrap64 (a0)) < (wrap64 (a1)) then (some true) else (some ((wrap64 (t332 - (wrap64 (a0)))) == 65536))) else (none)) else (none)) else (none)))) = some r := h
 clear h
 replace H := Option.bind_eq_some_iff.mp H
 obtain ⟨t331, A40, H⟩ := H
 try dsimp only at H
 have A4 := Aside0.mk A40
 clear A40
 replace H := Option.bind_eq_some_iff.mp H
 obtain ⟨t332, A50, H⟩ := H
 try dsimp only at H
 have A5 := Aside0.mk A50
 clear A50
 by_cases c6 : t331 = true
 ·subst c6
  have H1 : (if (wrap64 (t332 - (wrap64 (a0)))) ≤ 65536 then (if (wrap64 (17 * (wrap64 ((wrap64 (t332 - (wrap64 (a0)))) + 1)))) > 589824 then (if (wrap64 (a0)) < (wrap64 (a1)) then (some true) else (some ((wrap64 (t332 - (wrap64 (a0)))) == 65536))) else (none)) else (none)) = some r := by rw [if_pos rfl] at H; exact H
  clear H
  have H := H1
  clear H1
  by_cases c7 : (wrap64 (t332 - (wrap64 (a0)))) ≤ 65536
  ·rw [if_pos c7] at H
   have c7b0 : decide ((wrap64 (t332 - (wrap64 (a0)))) ≤ 65536) = true := decide_eq_true c7
   clear c7
   by_cases c8 : (wrap64 (17 * (wrap64 ((wrap64 (t332 - (wrap64 (a0)))) + 1)))) > 589824
   ·rw [if_pos c8] at H
    have c8b0 : decide (589824 < (wrap64 (17 * (wrap64 ((wrap64 (t332 - (wrap64 (a0)))) + 1))))) = true := decide_eq_true c8
    clear c8
    by_cases c9 : (wrap64 (a0)) < (wrap64 (a1))
    ·rw [if_pos c9] at H
     have c9b0 : decide ((wrap64 (a0)) < (wrap64 (a1))) = true := decide_eq_true c9
     clear c9
     obtain rfl := Option.some.inj H
     go_enter Try.func10, Try.ntmps10
     go_wp2_with (first | ((with_reducible refine gate_callee (f := 21) rfl ?_); refine goesL_ (some 11) rfl rfl Try.func21 (by kernel_rfl) rfl #[] rfl (by (try simp only [List.map_toArray, List.map_cons, List.map_nil]); first | done | rfl | (simp only [List.length_drop, List.length_take]; rfl)) ?_; (with_reducible refine (sawtoothlaw13_awakeS.calls  true _ A4.out).mono ?_); rintro e w10 ⟨rfl, hb⟩; refine ⟨_, rfl, ?_⟩; replace HB := Aside0.mk (below_step (by repeat (first | (with_reducible first | exact HB.out | apply below_alloc | apply pw_below_drewN | apply below_drew1) | exact HB.out)) hb); (try clear hb); (try clear hb2); (try clear hk); (try clear hi)) | ((with_reducible refine gate_callee (f := 23) rfl ?_); refine goesL_ (some 22) rfl rfl Try.func23 (by kernel_rfl) rfl #[.int .i64 (wrap64 (a0)), .int .i64 (wrap64 (a1)), .int .i64 (wrap64 (65536 + (wrap64 (a2)))), .int .i64 (wrap64 (65536 + (wrap64 (a2))))] rfl (by (try simp only [List.map_toArray, List.map_cons, List.map_nil]); first | done | rfl | (simp only [List.length_drop, List.length_take]; rfl)) ?_; (with_reducible refine (reno_StepS.calls (wrap64 (a0)) (wrap64 (a1)) (wrap64 (65536 + (wrap64 (a2)))) (wrap64 (65536 + (wrap64 (a2)))) t332 _ A5.out).mono ?_); rintro e w11 ⟨rfl, hb⟩; refine ⟨_, rfl, ?_⟩; replace HB := Aside0.mk (below_step (by repeat (first | (with_reducible first | exact HB.out | apply below_alloc | apply pw_below_drewN | apply below_drew1) | exact HB.out)) hb); (try clear hb); (try clear hb2); (try clear hk); (try clear hi)))
     go_ret
     exact ⟨by first | rfl | (simp [errW_none, errW_some] <;> rfl) | (simp [*, errW_none, errW_some] <;> rfl), by repeat (first | (with_reducible first | exact HB.out | apply below_alloc | apply pw_below_drewN | apply below_drew1) | exact HB.out)⟩
    ·rw [if_neg c9] at H
     have c9b0 : decide ((wrap64 (a0)) < (wrap64 (a1))) = false := decide_eq_false c9
     clear c9
     obtain rfl := Option.some.inj H
     go_enter Try.func10, Try.ntmps10
     go_wp2_with (first | ((with_reducible refine gate_callee (f := 21) rfl ?_); refine goesL_ (some 11) rfl rfl Try.func21 (by kernel_rfl) rfl #[] rfl (by (try simp only [List.map_toArray, List.map_cons, List.map_nil]); first | done | rfl | (simp only [List.length_drop, List.length_take]; rfl)) ?_; (with_reducible refine (sawtoothlaw13_awakeS.calls  true _ A4.out).mono ?_); rintro e w12 ⟨rfl, hb⟩; refine ⟨_, rfl, ?_⟩; replace HB := Aside0.mk (below_step (by repeat (first | (with_reducible first | exact HB.out | apply below_alloc | apply pw_below_drewN | apply below_drew1) | exact HB.out)) hb); (try clear hb); (try clear hb2); (try clear hk); (try clear hi)) | ((with_reducible refine gate_callee (f := 23) rfl ?_); refine goesL_ (some 22) rfl rfl Try.func23 (by kernel_rfl) rfl #[.int .i64 (wrap64 (a0)), .int .i64 (wrap64 (a1)), .int .i64 (wrap64 (65536 + (wrap64 (a2)))), .int .i64 (wrap64 (65536 + (wrap64 (a2))))] rfl (by (try simp only [List.map_toArray, List.map_cons, List.map_nil]); first | done | rfl | (simp only [List.length_drop, List.length_take]; rfl)) ?_; (with_reducible refine (reno_StepS.calls (wrap64 (a0)) (wrap64 (a1)) (wrap64 (65536 + (wrap64 (a2)))) (wrap64 (65536 + (wrap64 (a2)))) t332 _ A5.out).mono ?_); rintro e w13 ⟨rfl, hb⟩; refine ⟨_, rfl, ?_⟩; replace HB := Aside0.mk (below_step (by repeat (first | (with_reducible first | exact HB.out | apply below_alloc | apply pw_below_drewN | apply below_drew1) | exact HB.out)) hb); (try clear hb); (try clear hb2); (try clear hk); (try clear hi)))
     go_ret
     exact ⟨by first | rfl | (simp [errW_none, errW_some] <;> rfl) | (simp [*, errW_none, errW_some] <;> rfl), by repeat (first | (with_reducible first | exact HB.out | apply below_alloc | apply pw_below_drewN | apply below_drew1) | exact HB.out)⟩
   ·rw [if_neg c8] at H
    exact absurd H (by simp)
  ·rw [if_neg c7] at H
   exact absurd H (by simp)
 ·replace c6 := Bool.eq_false_iff.mpr c6
  subst c6
  have H1 : (none) = some r := by rw [if_neg (show ¬ (false = true) by decide)] at H; exact H
  clear H
  have H := H1
  clear H1
  exact absurd H (by simp)

/-- THE ONE PURE STATEMENT of sawtoothlaw13_RenoRound: yours. -/
def sawtoothlaw13_RenoRound.Pure : Prop := ∀ (a0 : Int) (a1 : Int) (a2 : Int), (Lit.int .u32 a0).wf = true → (Lit.int .u32 a1).wf = true → (Lit.int .u32 a2).wf = true → sawtoothlaw13_RenoRound.f a0 a1 a2 = some true
theorem sawtoothlaw13_RenoRound.walk (P : sawtoothlaw13_RenoRound.Pure) (a0 : Int) (a1 : Int) (a2 : Int) (w : World) (w0 : (Lit.int .u32 a0).wf = true) (w1 : (Lit.int .u32 a1).wf = true) (w2 : (Lit.int .u32 a2).wf = true) :
  Calls Try.prog 10 #[.int .u32 a0, .int .u32 a1, .int .u32 a2] w fun e w' => e = .returned (.bool true) ∧ Below w.heap.size w w' := by
 have h := P a0 a1 a2 w0 w1 w2
 refine (sawtoothlaw13_RenoRound.calls a0 a1 a2 true w h).mono ?_
 rintro e w' ⟨rfl, hd⟩
 exact ⟨rfl, hd⟩

/-! ### sawtoothlaw13_RenoParts: function 11 -/
noncomputable def sawtoothlaw13_RenoParts.f (a0 : Int) (a1 : Int) (a2 : Int) (a3 : Int) (a4 : Int) : Option (Bool) := (sawtoothlaw13_awakeS.f).bind fun t333 => ((reno_StepsS.f (wrap64 (a0)) (wrap64 (a1)) (wrap64 (a2)) (([wrap64 (a3), wrap64 (a4)] : List Int))).bind fun t337 => ((reno_StepS.f (wrap64 (a0)) (wrap64 (a1)) (wrap64 (a2)) (wrap64 ((wrap64 (a3)) + (wrap64 (a4))))).bind fun t338 => ((reno_StepS.f (wrap64 (a0)) (wrap64 (a1)) (wrap64 (a2)) (wrap64 (a3))).bind fun t339 => (if t333 = true then (if (((decide ((wrap64 (a0)) < (wrap64 (a1)))) == (decide (t339 < (wrap64 (a1))))) = true) then (if t337 ≤ t338 then (some (decide ((wrap64 (t338 - t337)) ≤ 1))) else (none)) else (some true)) else (none)))))
set_option maxHeartbeats 8000000 in
set_option maxRecDepth 100000 in
theorem sawtoothlaw13_RenoParts.calls (a0 : Int) (a1 : Int) (a2 : Int) (a3 : Int) (a4 : Int) (r : Bool) (w : World) (h : sawtoothlaw13_RenoParts.f a0 a1 a2 a3 a4 = some r) :
  Calls Try.prog 11 #[.int .u32 a0, .int .u32 a1, .int .u32 a2, .int .u16 a3, .int .u16 a4] w fun e w' => e = .returned (.bool r) ∧ Below w.heap.size w w' := by
 have HB := Aside0.mk (Below.refl w.heap.size w)
 have H : ((sawtoothlaw13_awakeS.f).bind fun t333 => ((reno_StepsS.f (wrap64 (a0)) (wrap64 (a1)) (wrap64 (a2)) (([wrap64 (a3), wrap64 (a4)] : List Int))).bind fun t337 => ((reno_StepS.f (wrap64 (a0)) (wrap64 (a1)) (wrap64 (a2)) (wrap64 ((wrap64 (a3)) + (wrap64 (a4))))).bind fun t338 => ((reno_StepS.f (wrap64 (a0)) (wrap64 (a1)) (wrap64 (a2)) (wrap64 (a3))).bind fun t339 => (if t333 = true then (if (((decide ((wrap64 (a0)) < (wrap64 (a1)))) == (decide (t339 < (wrap64 (a1))))) = true) then (if t337 ≤ t338 then (some (decide ((wrap64 (t338 - t337)) ≤ 1))) else (none)) else (some true)) else (none)))))) = some r := h
 clear h
 replace H := Option.bind_eq_some_iff.mp H
 obtain ⟨t333, A60, H⟩ := H
 try dsimp only at H
 have A6 := Aside0.mk A60
 clear A60
 obtain ⟨y334, hy334⟩ : ∃ y_ : List Int, y_ = (([wrap64 (a3), wrap64 (a4)] : List Int)) := ⟨_, rfl⟩
 replace H : ((reno_StepsS.f (wrap64 (a0)) (wrap64 (a1)) (wrap64 (a2)) y334).bind fun t337 => ((reno_StepS.f (wrap64 (a0)) (wrap64 (a1)) (wrap64 (a2)) (wrap64 ((wrap64 (a3)) + (wrap64 (a4))))).bind fun t338 => ((reno_StepS.f (wrap64 (a0)) (wrap64 (a1)) (wrap64 (a2)) (wrap64 (a3))).bind fun t339 => (if t333 = true then (if (((decide ((wrap64 (a0)) < (wrap64 (a1)))) == (decide (t339 < (wrap64 (a1))))) = true) then (if t337 ≤ t338 then (some (decide ((wrap64 (t338 - t337)) ≤ 1))) else (none)) else (some true)) else (none))))) = some r := by first | (rw [hy334]; with_reducible exact H) | (have H2_ := (Option.bind_some _ _).symm.trans H; rw [hy334]; with_reducible exact H2_) | (have H2_ := (Option.bind_some _ _).symm.trans H; with_reducible exact H2_) | with_reducible exact H | (rw [hy334]; exact H) | exact H
 have Ny334 := Aside0.mk hy334
 clear hy334
 replace H := Option.bind_eq_some_iff.mp H
 obtain ⟨t337, A70, H⟩ := H
 try dsimp only at H
 have A7 := Aside0.mk A70
 clear A70
 replace H := Option.bind_eq_some_iff.mp H
 obtain ⟨t338, A80, H⟩ := H
 try dsimp only at H
 have A8 := Aside0.mk A80
 clear A80
 replace H := Option.bind_eq_some_iff.mp H
 obtain ⟨t339, A90, H⟩ := H
 try dsimp only at H
 have A9 := Aside0.mk A90
 clear A90
 by_cases c10 : t333 = true
 ·subst c10
  have H1 : (if (((decide ((wrap64 (a0)) < (wrap64 (a1)))) == (decide (t339 < (wrap64 (a1))))) = true) then (if t337 ≤ t338 then (some (decide ((wrap64 (t338 - t337)) ≤ 1))) else (none)) else (some true)) = some r := by rw [if_pos rfl] at H; exact H
  clear H
  have H := H1
  clear H1
  by_cases c11 : (((decide ((wrap64 (a0)) < (wrap64 (a1)))) == (decide (t339 < (wrap64 (a1))))) = true)
  ·rw [if_pos c11] at H
   have c11b0 : ((decide ((wrap64 (a0)) < (wrap64 (a1)))) == (decide (t339 < (wrap64 (a1))))) = true := c11
   (try (have c11b1 : decide ((decide ((wrap64 (a0)) < (wrap64 (a1)))) = (decide (t339 < (wrap64 (a1))))) = true := by simpa using c11))
   (try (have c11b2 : ((decide ((wrap64 (a0)) < (wrap64 (a1)))) == (decide (t339 < (wrap64 (a1))))) = true := by simpa using c11))
   clear c11
   by_cases c12 : t337 ≤ t338
   ·rw [if_pos c12] at H
    have c12b0 : decide (t337 ≤ t338) = true := decide_eq_true c12
    clear c12
    obtain rfl := Option.some.inj H
    go_enter Try.func11, Try.ntmps11
    go_wp2_with (first | ((with_reducible refine gate_callee (f := 21) rfl ?_); refine goesL_ (some 18) rfl rfl Try.func21 (by kernel_rfl) rfl #[] rfl (by (try simp only [List.map_toArray, List.map_cons, List.map_nil]); first | done | rfl | (simp only [List.length_drop, List.length_take]; rfl)) ?_; (with_reducible refine (sawtoothlaw13_awakeS.calls  true _ A6.out).mono ?_); rintro e w13 ⟨rfl, hb⟩; refine ⟨_, rfl, ?_⟩; replace HB := Aside0.mk (below_step (by repeat (first | (with_reducible first | exact HB.out | apply below_alloc | apply pw_below_drewN | apply below_drew1) | exact HB.out)) hb); (try clear hb); (try clear hb2); (try clear hk); (try clear hi)) | ((with_reducible refine gate_dst (N := 31) rfl ?_); refine unguard_Px28 (by first | rfl | (simp [Region.wanted, yielded]; done) | (go_simp; done)) ?_; refine Kd.R_lit (Kd.int .i64) _ 3 ?hg (N := 31) ?hd (xs := ([wrap64 (a3), wrap64 (a4)] : List Int)) (inner := [.int .i64 (wrap64 (a3)), .int .i64 (wrap64 (a4))]) (ok := fun _ => True) (okp := fun _ => True) ?hr ?hp (fun _ hk => hk) trivial (Below.refl _ _) (Nat.le_refl _) (by simp) ?_; (case hd => rfl); (case hg => rfl); (case hr => first | (go_simp; done) | (go_simp; rfl)); (case hp => exact (Reps.one (show Kd.M (Kd.int .i64) _ _ _ (wrap64 (a3)) [.int .i64 (wrap64 (a3))] from rfl) (Reps.one (show Kd.M (Kd.int .i64) _ _ _ (wrap64 (a4)) [.int .i64 (wrap64 (a4))] from rfl) (Reps.none _ _)))); intro v335 w14 ho15 hb hg_ hnew_; clear hg_ hnew_; (first | rw [← Ny334.out] at ho15 | (simp only [Int.reduceToNat] at ho15; rw [← Ny334.out] at ho15)); have HO336 := Aside0.mk (Kd.R_lower ho15 (below_size (by repeat (first | (with_reducible first | exact HB.out | apply below_alloc | apply pw_below_drewN | apply below_drew1) | exact HB.out)))); replace HB := Aside0.mk (below_step (by repeat (first | (with_reducible first | exact HB.out | apply below_alloc | apply pw_below_drewN | apply below_drew1) | exact HB.out)) hb); clear hb ho15; obtain ⟨Ao16, co16, eo16⟩ := Kd.R_slice HO336.out; subst eo16) | ((with_reducible refine gate_callee (f := 25) rfl ?_); refine goesL_ (some 32) rfl rfl Try.func25 (by kernel_rfl) rfl #[.int .i64 (wrap64 (a0)), .int .i64 (wrap64 (a1)), .int .i64 (wrap64 (a2)), .slice Ao16 y334.length co16] rfl (by (try simp only [List.map_toArray, List.map_cons, List.map_nil]); first | done | rfl | (simp only [List.length_drop, List.length_take]; rfl)) ?_; (with_reducible refine (reno_StepsS.calls (wrap64 (a0)) (wrap64 (a1)) (wrap64 (a2)) _ _ y334 t337 _ ?side1 ?side2 A7.out).mono ?_); (case side1 => repeat (first | exact (Kd.R_reads' HO336.out).2.2 | (with_reducible refine Kd.C_alloc ?_ _) | (with_reducible refine Kd.C_drewN ?_ _) | (with_reducible refine Kd.C_drew ?_))); (case side2 => exact (Kd.R_reads' HO336.out).2.1); rintro e w17 ⟨rfl, hb⟩; refine ⟨_, rfl, ?_⟩; replace HO336 := Aside0.mk (Kd.R_below (by (with_reducible repeat (first | apply Kd.R_alloc | apply Kd.R_drewN | apply Kd.R_drew)); exact HO336.out) hb); replace HB := Aside0.mk (below_step (by repeat (first | (with_reducible first | exact HB.out | apply below_alloc | apply pw_below_drewN | apply below_drew1) | exact HB.out)) hb); (try clear hb); (try clear hb2); (try clear hk); (try clear hi)) | ((with_reducible refine gate_callee (f := 23) rfl ?_); refine goesL_ (some 42) rfl rfl Try.func23 (by kernel_rfl) rfl #[.int .i64 (wrap64 (a0)), .int .i64 (wrap64 (a1)), .int .i64 (wrap64 (a2)), .int .i64 (wrap64 ((wrap64 (a3)) + (wrap64 (a4))))] rfl (by (try simp only [List.map_toArray, List.map_cons, List.map_nil]); first | done | rfl | (simp only [List.length_drop, List.length_take]; rfl)) ?_; (with_reducible refine (reno_StepS.calls (wrap64 (a0)) (wrap64 (a1)) (wrap64 (a2)) (wrap64 ((wrap64 (a3)) + (wrap64 (a4)))) t338 _ A8.out).mono ?_); rintro e w18 ⟨rfl, hb⟩; refine ⟨_, rfl, ?_⟩; replace HO336 := Aside0.mk (Kd.R_below (by (with_reducible repeat (first | apply Kd.R_alloc | apply Kd.R_drewN | apply Kd.R_drew)); exact HO336.out) hb); replace HB := Aside0.mk (below_step (by repeat (first | (with_reducible first | exact HB.out | apply below_alloc | apply pw_below_drewN | apply below_drew1) | exact HB.out)) hb); (try clear hb); (try clear hb2); (try clear hk); (try clear hi)) | ((with_reducible refine gate_callee (f := 23) rfl ?_); refine goesL_ (some 49) rfl rfl Try.func23 (by kernel_rfl) rfl #[.int .i64 (wrap64 (a0)), .int .i64 (wrap64 (a1)), .int .i64 (wrap64 (a2)), .int .i64 (wrap64 (a3))] rfl (by (try simp only [List.map_toArray, List.map_cons, List.map_nil]); first | done | rfl | (simp only [List.length_drop, List.length_take]; rfl)) ?_; (with_reducible refine (reno_StepS.calls (wrap64 (a0)) (wrap64 (a1)) (wrap64 (a2)) (wrap64 (a3)) t339 _ A9.out).mono ?_); rintro e w19 ⟨rfl, hb⟩; refine ⟨_, rfl, ?_⟩; replace HO336 := Aside0.mk (Kd.R_below (by (with_reducible repeat (first | apply Kd.R_alloc | apply Kd.R_drewN | apply Kd.R_drew)); exact HO336.out) hb); replace HB := Aside0.mk (below_step (by repeat (first | (with_reducible first | exact HB.out | apply below_alloc | apply pw_below_drewN | apply below_drew1) | exact HB.out)) hb); (try clear hb); (try clear hb2); (try clear hk); (try clear hi)))
    go_ret
    exact ⟨by first | rfl | (simp [errW_none, errW_some] <;> rfl) | (simp [*, errW_none, errW_some] <;> rfl), by repeat (first | (with_reducible first | exact HB.out | apply below_alloc | apply pw_below_drewN | apply below_drew1) | exact HB.out)⟩
   ·rw [if_neg c12] at H
    exact absurd H (by simp)
  ·rw [if_neg c11] at H
   have c11b0 : ((decide ((wrap64 (a0)) < (wrap64 (a1)))) == (decide (t339 < (wrap64 (a1))))) = false := by simpa using c11
   (try (have c11b1 : decide ((decide ((wrap64 (a0)) < (wrap64 (a1)))) = (decide (t339 < (wrap64 (a1))))) = false := by simpa using c11))
   (try (have c11b2 : ((decide ((wrap64 (a0)) < (wrap64 (a1)))) == (decide (t339 < (wrap64 (a1))))) = false := by simpa using c11))
   (try (have c11b3 : ¬ ((decide ((wrap64 (a0)) < (wrap64 (a1)))) = (decide (t339 < (wrap64 (a1))))) := by simpa using c11))
   clear c11
   obtain rfl := Option.some.inj H
   go_enter Try.func11, Try.ntmps11
   go_wp2_with (first | ((with_reducible refine gate_callee (f := 21) rfl ?_); refine goesL_ (some 18) rfl rfl Try.func21 (by kernel_rfl) rfl #[] rfl (by (try simp only [List.map_toArray, List.map_cons, List.map_nil]); first | done | rfl | (simp only [List.length_drop, List.length_take]; rfl)) ?_; (with_reducible refine (sawtoothlaw13_awakeS.calls  true _ A6.out).mono ?_); rintro e w20 ⟨rfl, hb⟩; refine ⟨_, rfl, ?_⟩; replace HB := Aside0.mk (below_step (by repeat (first | (with_reducible first | exact HB.out | apply below_alloc | apply pw_below_drewN | apply below_drew1) | exact HB.out)) hb); (try clear hb); (try clear hb2); (try clear hk); (try clear hi)) | ((with_reducible refine gate_dst (N := 31) rfl ?_); refine unguard_Px28 (by first | rfl | (simp [Region.wanted, yielded]; done) | (go_simp; done)) ?_; refine Kd.R_lit (Kd.int .i64) _ 3 ?hg (N := 31) ?hd (xs := ([wrap64 (a3), wrap64 (a4)] : List Int)) (inner := [.int .i64 (wrap64 (a3)), .int .i64 (wrap64 (a4))]) (ok := fun _ => True) (okp := fun _ => True) ?hr ?hp (fun _ hk => hk) trivial (Below.refl _ _) (Nat.le_refl _) (by simp) ?_; (case hd => rfl); (case hg => rfl); (case hr => first | (go_simp; done) | (go_simp; rfl)); (case hp => exact (Reps.one (show Kd.M (Kd.int .i64) _ _ _ (wrap64 (a3)) [.int .i64 (wrap64 (a3))] from rfl) (Reps.one (show Kd.M (Kd.int .i64) _ _ _ (wrap64 (a4)) [.int .i64 (wrap64 (a4))] from rfl) (Reps.none _ _)))); intro v335 w21 ho22 hb hg_ hnew_; clear hg_ hnew_; (first | rw [← Ny334.out] at ho22 | (simp only [Int.reduceToNat] at ho22; rw [← Ny334.out] at ho22)); have HO336 := Aside0.mk (Kd.R_lower ho22 (below_size (by repeat (first | (with_reducible first | exact HB.out | apply below_alloc | apply pw_below_drewN | apply below_drew1) | exact HB.out)))); replace HB := Aside0.mk (below_step (by repeat (first | (with_reducible first | exact HB.out | apply below_alloc | apply pw_below_drewN | apply below_drew1) | exact HB.out)) hb); clear hb ho22; obtain ⟨Ao23, co23, eo23⟩ := Kd.R_slice HO336.out; subst eo23) | ((with_reducible refine gate_callee (f := 25) rfl ?_); refine goesL_ (some 32) rfl rfl Try.func25 (by kernel_rfl) rfl #[.int .i64 (wrap64 (a0)), .int .i64 (wrap64 (a1)), .int .i64 (wrap64 (a2)), .slice Ao23 y334.length co23] rfl (by (try simp only [List.map_toArray, List.map_cons, List.map_nil]); first | done | rfl | (simp only [List.length_drop, List.length_take]; rfl)) ?_; (with_reducible refine (reno_StepsS.calls (wrap64 (a0)) (wrap64 (a1)) (wrap64 (a2)) _ _ y334 t337 _ ?side1 ?side2 A7.out).mono ?_); (case side1 => repeat (first | exact (Kd.R_reads' HO336.out).2.2 | (with_reducible refine Kd.C_alloc ?_ _) | (with_reducible refine Kd.C_drewN ?_ _) | (with_reducible refine Kd.C_drew ?_))); (case side2 => exact (Kd.R_reads' HO336.out).2.1); rintro e w24 ⟨rfl, hb⟩; refine ⟨_, rfl, ?_⟩; replace HO336 := Aside0.mk (Kd.R_below (by (with_reducible repeat (first | apply Kd.R_alloc | apply Kd.R_drewN | apply Kd.R_drew)); exact HO336.out) hb); replace HB := Aside0.mk (below_step (by repeat (first | (with_reducible first | exact HB.out | apply below_alloc | apply pw_below_drewN | apply below_drew1) | exact HB.out)) hb); (try clear hb); (try clear hb2); (try clear hk); (try clear hi)) | ((with_reducible refine gate_callee (f := 23) rfl ?_); refine goesL_ (some 42) rfl rfl Try.func23 (by kernel_rfl) rfl #[.int .i64 (wrap64 (a0)), .int .i64 (wrap64 (a1)), .int .i64 (wrap64 (a2)), .int .i64 (wrap64 ((wrap64 (a3)) + (wrap64 (a4))))] rfl (by (try simp only [List.map_toArray, List.map_cons, List.map_nil]); first | done | rfl | (simp only [List.length_drop, List.length_take]; rfl)) ?_; (with_reducible refine (reno_StepS.calls (wrap64 (a0)) (wrap64 (a1)) (wrap64 (a2)) (wrap64 ((wrap64 (a3)) + (wrap64 (a4)))) t338 _ A8.out).mono ?_); rintro e w25 ⟨rfl, hb⟩; refine ⟨_, rfl, ?_⟩; replace HO336 := Aside0.mk (Kd.R_below (by (with_reducible repeat (first | apply Kd.R_alloc | apply Kd.R_drewN | apply Kd.R_drew)); exact HO336.out) hb); replace HB := Aside0.mk (below_step (by repeat (first | (with_reducible first | exact HB.out | apply below_alloc | apply pw_below_drewN | apply below_drew1) | exact HB.out)) hb); (try clear hb); (try clear hb2); (try clear hk); (try clear hi)) | ((with_reducible refine gate_callee (f := 23) rfl ?_); refine goesL_ (some 49) rfl rfl Try.func23 (by kernel_rfl) rfl #[.int .i64 (wrap64 (a0)), .int .i64 (wrap64 (a1)), .int .i64 (wrap64 (a2)), .int .i64 (wrap64 (a3))] rfl (by (try simp only [List.map_toArray, List.map_cons, List.map_nil]); first | done | rfl | (simp only [List.length_drop, List.length_take]; rfl)) ?_; (with_reducible refine (reno_StepS.calls (wrap64 (a0)) (wrap64 (a1)) (wrap64 (a2)) (wrap64 (a3)) t339 _ A9.out).mono ?_); rintro e w26 ⟨rfl, hb⟩; refine ⟨_, rfl, ?_⟩; replace HO336 := Aside0.mk (Kd.R_below (by (with_reducible repeat (first | apply Kd.R_alloc | apply Kd.R_drewN | apply Kd.R_drew)); exact HO336.out) hb); replace HB := Aside0.mk (below_step (by repeat (first | (with_reducible first | exact HB.out | apply below_alloc | apply pw_below_drewN | apply below_drew1) | exact HB.out)) hb); (try clear hb); (try clear hb2); (try clear hk); (try clear hi)))
   go_ret
   exact ⟨by first | rfl | (simp [errW_none, errW_some] <;> rfl) | (simp [*, errW_none, errW_some] <;> rfl), by repeat (first | (with_reducible first | exact HB.out | apply below_alloc | apply pw_below_drewN | apply below_drew1) | exact HB.out)⟩
 ·replace c10 := Bool.eq_false_iff.mpr c10
  subst c10
  have H1 : (none) = some r := by rw [if_neg (show ¬ (false = true) by decide)] at H; exact H
  clear H
  have H := H1
  clear H1
  exact absurd H (by simp)

/-- THE ONE PURE STATEMENT of sawtoothlaw13_RenoParts: yours. -/
def sawtoothlaw13_RenoParts.Pure : Prop := ∀ (a0 : Int) (a1 : Int) (a2 : Int) (a3 : Int) (a4 : Int), (Lit.int .u32 a0).wf = true → (Lit.int .u32 a1).wf = true → (Lit.int .u32 a2).wf = true → (Lit.int .u16 a3).wf = true → (Lit.int .u16 a4).wf = true → sawtoothlaw13_RenoParts.f a0 a1 a2 a3 a4 = some true
theorem sawtoothlaw13_RenoParts.walk (P : sawtoothlaw13_RenoParts.Pure) (a0 : Int) (a1 : Int) (a2 : Int) (a3 : Int) (a4 : Int) (w : World) (w0 : (Lit.int .u32 a0).wf = true) (w1 : (Lit.int .u32 a1).wf = true) (w2 : (Lit.int .u32 a2).wf = true) (w3 : (Lit.int .u16 a3).wf = true) (w4 : (Lit.int .u16 a4).wf = true) :
  Calls Try.prog 11 #[.int .u32 a0, .int .u32 a1, .int .u32 a2, .int .u16 a3, .int .u16 a4] w fun e w' => e = .returned (.bool true) ∧ Below w.heap.size w w' := by
 have h := P a0 a1 a2 a3 a4 w0 w1 w2 w3 w4
 refine (sawtoothlaw13_RenoParts.calls a0 a1 a2 a3 a4 true w h).mono ?_
 rintro e w' ⟨rfl, hd⟩
 exact ⟨rfl, hd⟩

end Go.Proofs.Ytepmnfjcmppghaa.Px
