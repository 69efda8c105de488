/- Printed by a program of this session (wip/tool/px.py), over the kit's print: for each Go function a Lean function, and the proof that the machine's call answers as that function says. Conditions: none beside what the theorems state. -/
import Derived.Test.YtepmnfjcmppghaaPx0
import Derived.Test.YtepmnfjcmppghaaPx35
import Derived.Test.YtepmnfjcmppghaaPx39
import Derived.Test.YtepmnfjcmppghaaPx44
namespace Go.Proofs.Ytepmnfjcmppghaa.Px
open Go.RowKit Go.Proofs.YtepmnfjcmppghaaW.PrintWords Go.Proofs.YtepmnfjcmppghaaW.PrintLast Go.Proofs.YtepmnfjcmppghaaW.PrintMore
attribute [local go_sem] max2_int min2_int max_two min_two max_three min_three max_four min_four   -- for this text's walks alone
set_option linter.unusedVariables false
set_option linter.unusedSimpArgs false

/-! ### sawtoothlaw15_CutExact: function 4 -/
noncomputable def sawtoothlaw15_CutExact.f (a0 : Int) (a1 : Int) : Option (Bool) := (sawtoothlaw15_awakeS.f).bind fun t358 => ((cut_LossS.f (wrap64 (131072 + (wrap64 (Int.tmod a0 68719345665)))) a1).bind fun bt359 => (if (wrap64 (10 * bt359.1)) ≤ (wrap64 (7 * (wrap64 (131072 + (wrap64 (Int.tmod a0 68719345665)))))) then (if (wrap64 ((wrap64 (7 * (wrap64 (131072 + (wrap64 (Int.tmod a0 68719345665)))))) - (wrap64 (10 * bt359.1)))) < 10 then (if (wrap64 (131072 + (wrap64 (Int.tmod a0 68719345665)))) ≥ a1 then (if bt359.2 = (wrap64 (131072 + (wrap64 (Int.tmod a0 68719345665)))) then (if t358 = true then ((cut_LeastS.f (wrap64 (131072 + (wrap64 (Int.tmod a0 68719345665))))).bind fun t361 => (some (t361 == bt359.1))) else (none)) else (if (wrap64 (131072 + (wrap64 (Int.tmod a0 68719345665)))) < a1 then (if (wrap64 (20 * bt359.2)) ≤ (wrap64 (17 * (wrap64 (131072 + (wrap64 (Int.tmod a0 68719345665)))))) then (if t358 = true then (if (wrap64 ((wrap64 (17 * (wrap64 (131072 + (wrap64 (Int.tmod a0 68719345665)))))) - (wrap64 (20 * bt359.2)))) < 20 then ((cut_LeastS.f (wrap64 (131072 + (wrap64 (Int.tmod a0 68719345665))))).bind fun t362 => (some (t362 == bt359.1))) else (none)) else (none)) else (if t358 = true then (none) else (none))) else (if t358 = true then (none) else (none)))) else (if (wrap64 (131072 + (wrap64 (Int.tmod a0 68719345665)))) < a1 then (if (wrap64 (20 * bt359.2)) ≤ (wrap64 (17 * (wrap64 (131072 + (wrap64 (Int.tmod a0 68719345665)))))) then (if t358 = true then (if (wrap64 ((wrap64 (17 * (wrap64 (131072 + (wrap64 (Int.tmod a0 68719345665)))))) - (wrap64 (20 * bt359.2)))) < 20 then ((cut_LeastS.f (wrap64 (131072 + (wrap64 (Int.tmod a0 68719345665))))).bind fun t363 => (some (t363 == bt359.1))) else (none)) else (none)) else (if t358 = true then (none) else (none))) else (if t358 = true then (none) else (none)))) else (if bt359.1 = 131072 then (if (wrap64 (131072 + (wrap64 (Int.tmod a0 68719345665)))) ≥ a1 then (if bt359.2 = (wrap64 (131072 + (wrap64 (Int.tmod a0 68719345665)))) then (if t358 = true then (if (wrap64 (7 * (wrap64 (131072 + (wrap64 (Int.tmod a0 68719345665)))))) < 1310720 then ((cut_LeastS.f (wrap64 (131072 + (wrap64 (Int.tmod a0 68719345665))))).bind fun t364 => (some (t364 == bt359.1))) else (none)) else (none)) else (if (wrap64 (131072 + (wrap64 (Int.tmod a0 68719345665)))) < a1 then (if (wrap64 (20 * bt359.2)) ≤ (wrap64 (17 * (wrap64 (131072 + (wrap64 (Int.tmod a0 68719345665)))))) then (if t358 = true then (if (wrap64 (7 * (wrap64 (131072 + (wrap64 (Int.tmod a0 68719345665)))))) < 1310720 then (if (wrap64 ((wrap64 (17 * (wrap64 (131072 + (wrap64 (Int.tmod a0 68719345665)))))) - (wrap64 (20 * bt359.2)))) < 20 then ((cut_LeastS.f (wrap64 (131072 + (wrap64 (Int.tmod a0 68719345665))))).bind fun t365 => (some (t365 == bt359.1))) else (none)) else (none)) else (none)) else (if t358 = true then (if (wrap64 (7 * (wrap64 (131072 + (wrap64 (Int.tmod a0 68719345665)))))) < 1310720 then (none) else (none)) else (none))) else (if t358 = true then (if (wrap64 (7 * (wrap64 (131072 + (wrap64 (Int.tmod a0 68719345665)))))) < 1310720 then (none) else (none)) else (none)))) else (if (wrap64 (131072 + (wrap64 (Int.tmod a0 68719345665)))) < a1 then (if (wrap64 (20 * bt359.2)) ≤ (wrap64 (17 * (wrap64 (131072 + (wrap64 (Int.tmod a0 68719345665)))))) then (if t358 = true then (if (wrap64 (7 * (wrap64 (131072 + (wrap64 (Int.tmod a0 68719345665)))))) < 1310720 then (if (wrap64 ((wrap64 (17 * (wrap64 (131072 + (wrap64 (Int.tmod a0 68719345665)))))) - (wrap64 (20 * bt359.2)))) < 20 then ((cut_LeastS.f (wrap64 (131072 + (wrap64 (Int.tmod a0 68719345665))))).bind fun t366 => (some (t366 == bt359.1))) else (none)) else (none)) else (none)) else (if t358 = true then (if (wrap64 (7 * (wrap64 (131072 + (wrap64 (Int.tmod a0 68719345665)))))) < 1310720 then (none) else (none)) else (none))) else (if t358 = true then (if (wrap64 (7 * (wrap64 (131072 + (wrap64 (Int.tmod a0 68719345665)))))) < 1310720 then (none) else (none)) else (none)))) else (if (wrap64 (131072 + (wrap64 (Int.tmod a0 68719345665)))) ≥ a1 then (if bt359.2 = (wrap64 (131072 + (wrap64 (Int.tmod a0 68719345665)))) then (if t358 = true then (none) else (none)) else (if (wrap64 (131072 + (wrap64 (Int.tmod a0 68719345665)))) < a1 then (if (wrap64 (20 * bt359.2)) ≤ (wrap64 (17 * (wrap64 (131072 + (wrap64 (Int.tmod a0 68719345665)))))) then (if t358 = true then (none) else (none)) else (if t358 = true then (none) else (none))) else (if t358 = true then (none) else (none)))) else (if (wrap64 (131072 + (wrap64 (Int.tmod a0 68719345665)))) < a1 then (if (wrap64 (20 * bt359.2)) ≤ (wrap64 (17 * (wrap64 (131072 + (wrap64 (Int.tmod a0 68719345665)))))) then (if t358 = true then (none) else (none)) else (if t358 = true then (none) else (none))) else (if t358 = true then (none) else (none)))))) else (if bt359.1 = 131072 then (if (wrap64 (131072 + (wrap64 (Int.tmod a0 68719345665)))) ≥ a1 then (if bt359.2 = (wrap64 (131072 + (wrap64 (Int.tmod a0 68719345665)))) then (if t358 = true then (if (wrap64 (7 * (wrap64 (131072 + (wrap64 (Int.tmod a0 68719345665)))))) < 1310720 then ((cut_LeastS.f (wrap64 (131072 + (wrap64 (Int.tmod a0 68719345665))))).bind fun t367 => (some (t367 == bt359.1))) else (none)) else (none)) else (if (wrap64 (131072 + (wrap64 (Int.tmod a0 68719345665)))) < a1 then (if (wrap64 (20 * bt359.2)) ≤ (wrap64 (17 * (wrap64 (131072 + (wrap64 (Int.tmod a0 68719345665)))))) then (if t358 = true then (if (wrap64 (7 * (wrap64 (131072 + (wrap64 (Int.tmod a0 68719345665)))))) < 1310720 then (if (wrap64 ((wrap64 (17 * (wrap64 (131072 + (wrap64 (Int.tmod a0 68719345665)))))) - (wrap64 (20 * bt359.2)))) < 20 then ((cut_LeastS.f (wrap64 (131072 + (wrap64 (Int.tmod a0 68719345665))))).bind fun t368 => (some (t368 == bt359.1))) else (none)) else (none)) else (none)) else (if t358 = true then (if (wrap64 (7 * (wrap64 (131072 + (wrap64 (Int.tmod a0 68719345665)))))) < 1310720 then (none) else (none)) else (none))) else (if t358 = true then (if (wrap64 (7 * (wrap64 (131072 + (wrap64 (Int.tmod a0 68719345665)))))) < 1310720 then (none) else (none)) else (none)))) else (if (wrap64 (131072 + (wrap64 (Int.tmod a0 68719345665)))) < a1 then (if (wrap64 (20 * bt359.2)) ≤ (wrap64 (17 * (wrap64 (131072 + (wrap64 (Int.tmod a0 68719345665)))))) then (if t358 = true then (if (wrap64 (7 * (wrap64 (131072 + (wrap64 (Int.tmod a0 68719345665)))))) < 1310720 then (if (wrap64 ((wrap64 (17 * (wrap64 (131072 + (wrap64 (Int.tmod a0 68719345665)))))) - (wrap64 (20 * bt359.2)))) < 20 then ((cut_LeastS.f (wrap64 (131072 + (wrap64 (Int.tmod a0 68719345665))))).bind fun t369 => (some (t369 == bt359.1))) else (none)) else (none)) else (none)) else (if t358 = true then (if (wrap64 (7 * (wrap64 (131072 + (wrap64 (Int.tmod a0 68719345665)))))) < 1310720 then (none) else (none)) else (none))) else (if t358 = true then (if (wrap64 (7 * (wrap64 (131072 + (wrap64 (Int.tmod a0 68719345665)))))) < 1310720 then (none) else (none)) else (none)))) else (if (wrap64 (131072 + (wrap64 (Int.tmod a0 68719345665)))) ≥ a1 then (if bt359.2 = (wrap64 (131072 + (wrap64 (Int.tmod a0 68719345665)))) then (if t358 = true then (none) else (none)) else (if (wrap64 (131072 + (wrap64 (Int.tmod a0 68719345665)))) < a1 then (if (wrap64 (20 * bt359.2)) ≤ (wrap64 (17 * (wrap64 (131072 + (wrap64 (Int.tmod a0 68719345665)))))) then (if t358 = true then (none) else (none)) else (if t358 = true then (none) else (none))) else (if t358 = true then (none) else (none)))) else (if (wrap64 (131072 + (wrap64 (Int.tmod a0 68719345665)))) < a1 then (if (wrap64 (20 * bt359.2)) ≤ (wrap64 (17 * (wrap64 (131072 + (wrap64 (Int.tmod a0 68719345665)))))) then (if t358 = true then (none) else (none)) else (if t358 = true then (none) else (none))) else (if t358 = true then (none) else (none)))))))
set_option maxHeartbeats 8000000 in
set_option maxRecDepth 100000 in
theorem sawtoothlaw15_CutExact.calls (a0 : Int) (a1 : Int) (r : Bool) (w : World) (h : sawtoothlaw15_CutExact.f a0 a1 = some r) :
  Calls Try.prog 4 #[.int .u64 a0, .int .i64 a1] w fun e w' => e = .returned (.bool r) ∧ Below w.heap.size w w' := by
 have HB := Aside0.mk (Below.refl w.heap.size w)
 have H : ((sawtoothlaw15_awakeS.f).bind fun t358 => ((cut_LossS.f (wrap64 (131072 + (wrap64 (Int.tmod a0 68719345665)))) a1).bind fun bt359 => (if (wrap64 (10 * bt359.1)) ≤ (wrap64 (7 * (wrap64 (131072 + (wrap64 (Int.tmod a0 68719345665)))))) then (if (wrap64 ((wrap64 (7 * (wrap64 (131072 + (wrap64 (Int.tmod a0 68719345665)))))) - (wrap64 (10 * bt359.1)))) < 10 then (if (wrap64 (131072 + (wrap64 (Int.tmod a0 68719345665)))) ≥ a1 then (if bt359.2 = (wrap64 (131072 + (wrap64 (Int.tmod a0 68719345665)))) then (if t358 = true then ((cut_LeastS.f (wrap64 (131072 + (wrap64 (Int.tmod a0 68719345665))))).bind fun t361 => (some (t361 == bt359.1))) else (none)) else (if (wrap64 (131072 + (wrap64 (Int.tmod a0 68719345665)))) < a1 then (if (wrap64 (20 * bt359.2)) ≤ (wrap64 (17 * (wrap64 (131072 + (wrap64 (Int.tmod a0 68719345665)))))) then (if t358 = true then (if (wrap64 ((wrap64 (17 * (wrap64 (131072 + (wrap64 (Int.tmod a0 68719345665)))))) - (wrap64 (20 * bt359.2)))) < 20 then ((cut_LeastS.f (wrap64 (131072 + (wrap64 (Int.tmod a0 68719345665))))).bind fun t362 => (some (t362 == bt359.1))) else (none)) else (none)) else (if t358 = true then (none) else (none))) else (if t358 = true then (none) else (none)))) else (if (wrap64 (131072 + (wrap64 (Int.tmod a0 68719345665)))) < a1 then (if (wrap64 (20 * bt359.2)) ≤ (wrap64 (17 * (wrap64 (131072 + (wrap64 (Int.tmod a0 68719345665)))))) then (if t358 = true then (if (wrap64 ((wrap64 (17 * (wrap64 (131072 + (wrap64 (Int.tmod a0 68719345665)))))) - (wrap64 (20 * bt359.2)))) < 20 then ((cut_LeastS.f (wrap64 (131072 + (wrap64 (Int.tmod a0 68719345665))))).bind fun t363 => (some (t363 == bt359.1))) else (none)) else (none)) else (if t358 = true then (none) else (none))) else (if t358 = true then (none) else (none)))) else (if bt359.1 = 131072 then (if (wrap64 (131072 + (wrap64 (Int.tmod a0 68719345665)))) ≥ a1 then (if bt359.2 = (wrap64 (131072 + (wrap64 (Int.tmod a0 68719345665)))) then (if t358 = true then (if (wrap64 (7 * (wrap64 (131072 + (wrap64 (Int.tmod a0 68719345665)))))) < 1310720 then ((cut_LeastS.f (wrap64 (131072 + (wrap64 (Int.tmod a0 68719345665))))).bind fun t364 => (some (t364 == bt359.1))) else (none)) else (none)) else (if (wrap64 (131072 + (wrap64 (Int.tmod a0 68719345665)))) < a1 then (if (wrap64 (20 * bt359.2)) ≤ (wrap64 (17 * (wrap64 (131072 + (wrap64 (Int.tmod a0 68719345665)))))) then (if t358 = true then (if (wrap64 (7 * (wrap64 (131072 + (wrap64 (Int.tmod a0 68719345665)))))) < 1310720 then (if (wrap64 ((wrap64 (17 * (wrap64 (131072 + (wrap64 (Int.tmod a0 68719345665)))))) - (wrap64 (20 * bt359.2)))) < 20 then ((cut_LeastS.f (wrap64 (131072 + (wrap64 (Int.tmod a0 68719345665))))).bind fun t365 => (some (t365 == bt359.1))) else (none)) else (none)) else (none)) else (if t358 = true then (if (wrap64 (7 * (wrap64 (131072 + (wrap64 (Int.tmod a0 68719345665)))))) < 1310720 then (none) else (none)) else (none))) else (if t358 = true then (if (wrap64 (7 * (wrap64 (131072 + (wrap64 (Int.tmod a0 68719345665)))))) < 1310720 then (none) else (none)) else (none)))) else (if (wrap64 (131072 + (wrap64 (Int.tmod a0 68719345665)))) < a1 then (if (wrap64 (20 * bt359.2)) ≤ (wrap64 (17 * (wrap64 (131072 + (wrap64 (Int.tmod a0 68719345665)))))) then (if t358 = true then (if (wrap64 (7 * (wrap64 (131072 + (wrap64 (Int.tmod a0 68719345665)))))) < 1310720 then (if (wrap64 ((wrap64 (17 * (wrap64 (131072 + (wrap64 (Int.tmod a0 68719345665)))))) - (wrap64 (20 * bt359.2)))) < 20 then ((cut_LeastS.f (wrap64 (131072 + (wrap64 (Int.tmod a0 68719345665))))).bind fun t366 => (some (t366 == bt359.1))) else (none)) else (none)) else (none)) else (if t358 = true then (if (wrap64 (7 * (wrap64 (131072 + (wrap64 (Int.tmod a0 68719345665)))))) < 1310720 then (none) else (none)) else (none))) else (if t358 = true then (if (wrap64 (7 * (wrap64 (131072 + (wrap64 (Int.tmod a0 68719345665)))))) < 1310720 then (none) else (none)) else (none)))) else (if (wrap64 (131072 + (wrap64 (Int.tmod a0 68719345665)))) ≥ a1 then (if bt359.2 = (wrap64 (131072 + (wrap64 (Int.tmod a0 68719345665)))) then (if t358 = true then (none) else (none)) else (if (wrap64 (131072 + (wrap64 (Int.tmod a0 68719345665)))) < a1 then (if (wrap64 (20 * bt359.2)) ≤ (wrap64 (17 * (wrap64 (131072 + (wrap64 (Int.tmod a0 68719345665)))))) then (if t358 = true then (none) else (none)) else (if t358 = true then (none) else (none))) else (if t358 = true then (none) else (none)))) else (if (wrap64 (131072 + (wrap64 (Int.tmod a0 68719345665)))) < a1 then (if (wrap64 (20 * bt359.2)) ≤ (wrap64 (17 * (wrap64 (131072 + (wrap64 (Int.tmod a0 68719345665)))))) then (if t358 = true then (none) else (none)) else (if t358 = true then (none) else (none))) else (if t358 = true then (none) else (none)))))) else (if bt359.1 = 131072 then (if (wrap64 (131072 + (wrap64 (Int.tmod a0 68719345665)))) ≥ a1 then (if bt359.2 = (wrap64 (131072 + (wrap64 (Int.tmod a0 68719345665)))) then (if t358 = true then (if (wrap64 (7 * (wrap64 (131072 + (wrap64 (Int.tmod a0 68719345665)))))) < 1310720 then ((cut_LeastS.f (wrap64 (131072 + (wrap64 (Int.tmod a0 68719345665))))).bind fun t367 => (some (t367 == bt359.1))) else (none)) else (none)) else (if (wrap64 (131072 + (wrap64 (Int.tmod a0 68719345665)))) < a1 then (if (wrap64 (20 * bt359.2)) ≤ (wrap64 (17 * (wrap64 (131072 + (wrap64 (Int.tmod a0 68719345665)))))) then (if t358 = true then (if (wrap64 (7 * (wrap64 (131072 + (wrap64 (Int.tmod a0 68719345665)))))) < 1310720 then (if (wrap64 ((wrap64 (17 * (wrap64 (131072 + (wrap64 (Int.tmod a0 68719345665)))))) - (wrap64 (20 * bt359.2)))) < 20 then ((cut_LeastS.f (wrap64 (131072 + (wrap64 (Int.tmod a0 68719345665))))).bind fun t368 => (some (t368 == bt359.1))) else (none)) else (none)) else (none)) else (if t358 = true then (if (wrap64 (7 * (wrap64 (131072 + (wrap64 (Int.tmod a0 68719345665)))))) < 1310720 then (none) else (none)) else (none))) else (if t358 = true then (if (wrap64 (7 * (wrap64 (131072 + (wrap64 (Int.tmod a0 68719345665)))))) < 1310720 then (none) else (none)) else (none)))) else (if (wrap64 (131072 + (wrap64 (Int.tmod a0 68719345665)))) < a1 then (if (wrap64 (20 * bt359.2)) ≤ (wrap64 (17 * (wrap64 (131072 + (wrap64 (Int.tmod a0 68719345665)))))) then (if t358 = true then (if (wrap64 (7 * (wrap64 (131072 + (wrap64 (Int.tmod a0 68719345665)))))) < 1310720 then (if (wrap64 ((wrap64 (17 * (wrap64 (131072 + (wrap64 (Int.tmod a0 68719345665)))))) - (wrap64 (20 * bt359.2)))) < 20 then ((cut_LeastS.f (wrap64 (131072 + (wrap64 (Int.tmod a0 68719345665))))).bind fun t369 => (some (t369 == bt359.1))) else (none)) else (none)) else (none)) else (if t358 = true then (if (wrap64 (7 * (wrap64 (131072 + (wrap64 (Int.tmod a0 68719345665)))))) < 1310720 then (none) else (none)) else (none))) else (if t358 = true then (if (wrap64 (7 * (wrap64 (131072 + (wrap64 (Int.tmod a0 68719345665)))))) < 1310720 then (none) else (none)) else (none)))) else (if (wrap64 (131072 + (wrap64 (Int.tmod a0 68719345665)))) ≥ a1 then (if bt359.2 = (wrap64 (131072 + (wrap64 (Int.tmod a0 68719345665)))) then (if t358 = true then (none) else (none)) else (if (wrap64 (131072 + (wrap64 (Int.tmod a0 68719345665)))) < a1 then (if (wrap64 (20 * bt359.2)) ≤ (wrap64 (17 * (wrap64 (131072 + (wrap64 (Int.tmod a0 68719345665)))))) then (if t358 = true then (none) else (none)) else (if t358 = true then (none) else (none))) else (if t358 = true then (none) else (none)))) else (if (wrap64 (131072 + (wrap64 (Int.tmod a0 68719345665)))) < a1 then (if (wrap64 (20 * bt359.2)) ≤ (wrap64 (17 * (wrap64 (131072 + (wrap64 (Int.tmod a0 68719345665)))))) then (if t358 = true then (none) else (none)) else (if t358 = true then (none) else (none))) else (if t358 = true then (none) else (none)))))))) = some r := h
 clear h
 replace H := Option.bind_eq_some_iff.mp H
 obtain ⟨t358, A30, H⟩ := H
 try dsimp only at H
 have A3 := Aside0.mk A30
 clear A30
 replace H := Option.bind_eq_some_iff.mp H
 obtain ⟨⟨t359, t360⟩, A40, H⟩ := H
 try dsimp only at H
 have A4 := Aside0.mk A40
 clear A40
 by_cases c5 : (wrap64 (10 * t359)) ≤ (wrap64 (7 * (wrap64 (131072 + (wrap64 (Int.tmod a0 68719345665))))))
 ·rw [if_pos c5] at H
  have c5b0 : decide ((wrap64 (10 * t359)) ≤ (wrap64 (7 * (wrap64 (131072 + (wrap64 (Int.tmod a0 68719345665))))))) = true := decide_eq_true c5
  clear c5
  by_cases c6 : (wrap64 ((wrap64 (7 * (wrap64 (131072 + (wrap64 (Int.tmod a0 68719345665)))))) - (wrap64 (10 * t359)))) < 10
  ·rw [if_pos c6] at H
   have c6b0 : decide ((wrap64 ((wrap64 (7 * (wrap64 (131072 + (wrap64 (Int.tmod a0 68719345665)))))) - (wrap64 (10 * t359)))) < 10) = true := decide_eq_true c6
   clear c6
   by_cases c7 : (wrap64 (131072 + (wrap64 (Int.tmod a0 68719345665)))) ≥ a1
   ·rw [if_pos c7] at H
    have c7b0 : decide (a1 ≤ (wrap64 (131072 + (wrap64 (Int.tmod a0 68719345665))))) = true := decide_eq_true c7
    clear c7
    by_cases c8 : t360 = (wrap64 (131072 + (wrap64 (Int.tmod a0 68719345665))))
    ·rw [if_pos c8] at H
     have c8b0 : (t360 == (wrap64 (131072 + (wrap64 (Int.tmod a0 68719345665))))) = true := beq_iff_eq.mpr c8
     have c8b1 : (t360 != (wrap64 (131072 + (wrap64 (Int.tmod a0 68719345665))))) = false := bne_eq_false_iff_eq.mpr c8
     clear c8
     by_cases c9 : t358 = true
     ·subst c9
      have H1 : ((cut_LeastS.f (wrap64 (131072 + (wrap64 (Int.tmod a0 68719345665))))).bind fun t361 => (some (t361 == t359))) = some r := by rw [if_pos rfl] at H; exact H
      clear H
      have H := H1
      clear H1
      replace H := Option.bind_eq_some_iff.mp H
      obtain ⟨t361, A100, H⟩ := H
      replace H : (some (t361 == t359)) = some r := H
      have A10 := Aside0.mk A100
      clear A100
      obtain rfl := Option.some.inj H
      go_enter Try.func4, Try.ntmps4
      go_wp2_with (first | ((with_reducible refine gate_callee (f := 13) rfl ?_); refine goesL_ (some 11) rfl rfl Try.func13 (by kernel_rfl) rfl #[] rfl (by (try simp only [List.map_toArray, List.map_cons, List.map_nil]); first | done | rfl | (simp only [List.length_drop, List.length_take]; rfl)) ?_; (with_reducible refine (sawtoothlaw15_awakeS.calls  true _ A3.out).mono ?_); rintro e w11 ⟨rfl, hb⟩; refine ⟨_, rfl, ?_⟩; replace HB := Aside0.mk (below_step (by repeat (first | (with_reducible first | exact HB.out | apply below_alloc | apply pw_below_drewN | apply below_drew1) | exact HB.out)) hb); (try clear hb); (try clear hb2); (try clear hk); (try clear hi)) | ((with_reducible refine gate_callee (f := 14) rfl ?_); refine goesL_ (some 19) rfl rfl Try.func14 (by kernel_rfl) rfl #[.int .i64 (wrap64 (131072 + (wrap64 (Int.tmod a0 68719345665)))), .int .i64 a1] rfl (by (try simp only [List.map_toArray, List.map_cons, List.map_nil]); first | done | rfl | (simp only [List.length_drop, List.length_take]; rfl)) ?_; (with_reducible refine (cut_LossS.calls (wrap64 (131072 + (wrap64 (Int.tmod a0 68719345665)))) a1 t359 t360 _ A4.out).mono ?_); rintro e w12 ⟨rfl, hb⟩; refine ⟨_, rfl, ?_⟩; replace HB := Aside0.mk (below_step (by repeat (first | (with_reducible first | exact HB.out | apply below_alloc | apply pw_below_drewN | apply below_drew1) | exact HB.out)) hb); (try clear hb); (try clear hb2); (try clear hk); (try clear hi)) | (go_at_call 17; (with_reducible refine (cut_LeastS.calls (wrap64 (131072 + (wrap64 (Int.tmod a0 68719345665)))) t361 _ A10.out).mono ?_); rintro e w13 ⟨rfl, hb⟩; replace HB := Aside0.mk (below_step (by repeat (first | (with_reducible first | exact HB.out | apply below_alloc | apply pw_below_drewN | apply below_drew1) | exact HB.out)) hb); (try clear hb); (try clear hb2); (try clear hk); (try clear hi)))
      go_ret
      exact ⟨by first | rfl | (simp [errW_none, errW_some] <;> rfl) | (simp [*, errW_none, errW_some] <;> rfl), by repeat (first | (with_reducible first | exact HB.out | apply below_alloc | apply pw_below_drewN | apply below_drew1) | exact HB.out)⟩
     ·replace c9 := Bool.eq_false_iff.mpr c9
      subst c9
      have H1 : (none) = some r := by rw [if_neg (show ¬ (false = true) by decide)] at H; exact H
      clear H
      have H := H1
      clear H1
      exact absurd H (by simp)
    ·rw [if_neg c8] at H
     have c8b0 : (t360 == (wrap64 (131072 + (wrap64 (Int.tmod a0 68719345665))))) = false := beq_eq_false_iff_ne.mpr c8
     have c8b1 : (t360 != (wrap64 (131072 + (wrap64 (Int.tmod a0 68719345665))))) = true := bne_iff_ne.mpr c8
     by_cases c14 : (wrap64 (131072 + (wrap64 (Int.tmod a0 68719345665)))) < a1
     ·rw [if_pos c14] at H
      have c14b0 : decide ((wrap64 (131072 + (wrap64 (Int.tmod a0 68719345665)))) < a1) = true := decide_eq_true c14
      clear c14
      by_cases c15 : (wrap64 (20 * t360)) ≤ (wrap64 (17 * (wrap64 (131072 + (wrap64 (Int.tmod a0 68719345665))))))
      ·rw [if_pos c15] at H
       have c15b0 : decide ((wrap64 (20 * t360)) ≤ (wrap64 (17 * (wrap64 (131072 + (wrap64 (Int.tmod a0 68719345665))))))) = true := decide_eq_true c15
       clear c15
       by_cases c16 : t358 = true
       ·subst c16
        have H1 : (if (wrap64 ((wrap64 (17 * (wrap64 (131072 + (wrap64 (Int.tmod a0 68719345665)))))) - (wrap64 (20 * t360)))) < 20 then ((cut_LeastS.f (wrap64 (131072 + (wrap64 (Int.tmod a0 68719345665))))).bind fun t362 => (some (t362 == t359))) else (none)) = some r := by rw [if_pos rfl] at H; exact H
        clear H
        have H := H1
        clear H1
        by_cases c17 : (wrap64 ((wrap64 (17 * (wrap64 (131072 + (wrap64 (Int.tmod a0 68719345665)))))) - (wrap64 (20 * t360)))) < 20
        ·rw [if_pos c17] at H
         have c17b0 : decide ((wrap64 ((wrap64 (17 * (wrap64 (131072 + (wrap64 (Int.tmod a0 68719345665)))))) - (wrap64 (20 * t360)))) < 20) = true := decide_eq_true c17
         clear c17
         replace H := Option.bind_eq_some_iff.mp H
         obtain ⟨t362, A180, H⟩ := H
         replace H : (some (t362 == t359)) = some r := H
         have A18 := Aside0.mk A180
         clear A180
         obtain rfl := Option.some.inj H
         go_enter Try.func4, Try.ntmps4
         go_wp2_with (first | ((with_reducible refine gate_callee (f := 13) rfl ?_); refine goesL_ (some 11) rfl rfl Try.func13 (by kernel_rfl) rfl #[] rfl (by (try simp only [List.map_toArray, List.map_cons, List.map_nil]); first | done | rfl | (simp only [List.length_drop, List.length_take]; rfl)) ?_; (with_reducible refine (sawtoothlaw15_awakeS.calls  true _ A3.out).mono ?_); rintro e w19 ⟨rfl, hb⟩; refine ⟨_, rfl, ?_⟩; replace HB := Aside0.mk (below_step (by repeat (first | (with_reducible first | exact HB.out | apply below_alloc | apply pw_below_drewN | apply below_drew1) | exact HB.out)) hb); (try clear hb); (try clear hb2); (try clear hk); (try clear hi)) | ((with_reducible refine gate_callee (f := 14) rfl ?_); refine goesL_ (some 19) rfl rfl Try.func14 (by kernel_rfl) rfl #[.int .i64 (wrap64 (131072 + (wrap64 (Int.tmod a0 68719345665)))), .int .i64 a1] rfl (by (try simp only [List.map_toArray, List.map_cons, List.map_nil]); first | done | rfl | (simp only [List.length_drop, List.length_take]; rfl)) ?_; (with_reducible refine (cut_LossS.calls (wrap64 (131072 + (wrap64 (Int.tmod a0 68719345665)))) a1 t359 t360 _ A4.out).mono ?_); rintro e w20 ⟨rfl, hb⟩; refine ⟨_, rfl, ?_⟩; replace HB := Aside0.mk (below_step (by repeat (first | (with_reducible first | exact HB.out | apply below_alloc | apply pw_below_drewN | apply below_drew1) | exact HB.out)) hb); (try clear hb); (try clear hb2); (try clear hk); (try clear hi)) | (go_at_call 17; (with_reducible refine (cut_LeastS.calls (wrap64 (131072 + (wrap64 (Int.tmod a0 68719345665)))) t362 _ A18.out).mono ?_); rintro e w21 ⟨rfl, hb⟩; replace HB := Aside0.mk (below_step (by repeat (first | (with_reducible first | exact HB.out | apply below_alloc | apply pw_below_drewN | apply below_drew1) | exact HB.out)) hb); (try clear hb); (try clear hb2); (try clear hk); (try clear hi)))
         go_ret
         exact ⟨by first | rfl | (simp [errW_none, errW_some] <;> rfl) | (simp [*, errW_none, errW_some] <;> rfl), by repeat (first | (with_reducible first | exact HB.out | apply below_alloc | apply pw_below_drewN | apply below_drew1) | exact HB.out)⟩
        ·rw [if_neg c17] at H
         exact absurd H (by simp)
       ·replace c16 := Bool.eq_false_iff.mpr c16
        subst c16
        have H1 : (none) = some r := by rw [if_neg (show ¬ (false = true) by decide)] at H; exact H
        clear H
        have H := H1
        clear H1
        exact absurd H (by simp)
      ·rw [if_neg c15] at H
       have c15b0 : decide ((wrap64 (20 * t360)) ≤ (wrap64 (17 * (wrap64 (131072 + (wrap64 (Int.tmod a0 68719345665))))))) = false := decide_eq_false c15
       clear c15
       by_cases c22 : t358 = true
       ·subst c22
        have H1 : (none) = some r := by rw [if_pos rfl] at H; exact H
        clear H
        have H := H1
        clear H1
        exact absurd H (by simp)
       ·replace c22 := Bool.eq_false_iff.mpr c22
        subst c22
        have H1 : (none) = some r := by rw [if_neg (show ¬ (false = true) by decide)] at H; exact H
        clear H
        have H := H1
        clear H1
        exact absurd H (by simp)
     ·rw [if_neg c14] at H
      have c14b0 : decide ((wrap64 (131072 + (wrap64 (Int.tmod a0 68719345665)))) < a1) = false := decide_eq_false c14
      clear c14
      by_cases c23 : t358 = true
      ·subst c23
       have H1 : (none) = some r := by rw [if_pos rfl] at H; exact H
       clear H
       have H := H1
       clear H1
       exact absurd H (by simp)
      ·replace c23 := Bool.eq_false_iff.mpr c23
       subst c23
       have H1 : (none) = some r := by rw [if_neg (show ¬ (false = true) by decide)] at H; exact H
       clear H
       have H := H1
       clear H1
       exact absurd H (by simp)
   ·rw [if_neg c7] at H
    have c7b0 : decide (a1 ≤ (wrap64 (131072 + (wrap64 (Int.tmod a0 68719345665))))) = false := decide_eq_false c7
    clear c7
    by_cases c24 : (wrap64 (131072 + (wrap64 (Int.tmod a0 68719345665)))) < a1
    ·rw [if_pos c24] at H
     have c24b0 : decide ((wrap64 (131072 + (wrap64 (Int.tmod a0 68719345665)))) < a1) = true := decide_eq_true c24
     clear c24
     by_cases c25 : (wrap64 (20 * t360)) ≤ (wrap64 (17 * (wrap64 (131072 + (wrap64 (Int.tmod a0 68719345665))))))
     ·rw [if_pos c25] at H
      have c25b0 : decide ((wrap64 (20 * t360)) ≤ (wrap64 (17 * (wrap64 (131072 + (wrap64 (Int.tmod a0 68719345665))))))) = true := decide_eq_true c25
      clear c25
      by_cases c26 : t358 = true
      ·subst c26
       have H1 : (if (wrap64 ((wrap64 (17 * (wrap64 (131072 + (wrap64 (Int.tmod a0 68719345665)))))) - (wrap64 (20 * t360)))) < 20 then ((cut_LeastS.f (wrap64 (131072 + (wrap64 (Int.tmod a0 68719345665))))).bind fun t363 => (some (t363 == t359))) else (none)) = some r := by rw [if_pos rfl] at H; exact H
       clear H
       have H := H1
       clear H1
       by_cases c27 : (wrap64 ((wrap64 (17 * (wrap64 (131072 + (wrap64 (Int.tmod a0 68719345665)))))) - (wrap64 (20 * t360)))) < 20
       ·rw [if_pos c27] at H
        have c27b0 : decide ((wrap64 ((wrap64 (17 * (wrap64 (131072 + (wrap64 (Int.tmod a0 68719345665)))))) - (wrap64 (20 * t360)))) < 20) = true := decide_eq_true c27
        clear c27
        replace H := Option.bind_eq_some_iff.mp H
        obtain ⟨t363, A280, H⟩ := H
        replace H : (some (t363 == t359)) = some r := H
        have A28 := Aside0.mk A280
        clear A280
        obtain rfl := Option.some.inj H
        go_enter Try.func4, Try.ntmps4
        go_wp2_with (first | ((with_reducible refine gate_callee (f := 13) rfl ?_); refine goesL_ (some 11) rfl rfl Try.func13 (by kernel_rfl) rfl #[] rfl (by (try simp only [List.map_toArray, List.map_cons, List.map_nil]); first | done | rfl | (simp only [List.length_drop, List.length_take]; rfl)) ?_; (with_reducible refine (sawtoothlaw15_awakeS.calls  true _ A3.out).mono ?_); rintro e w29 ⟨rfl, hb⟩; refine ⟨_, rfl, ?_⟩; replace HB := Aside0.mk (below_step (by repeat (first | (with_reducible first | exact HB.out | apply below_alloc | apply pw_below_drewN | apply below_drew1) | exact HB.out)) hb); (try clear hb); (try clear hb2); (try clear hk); (try clear hi)) | ((with_reducible refine gate_callee (f := 14) rfl ?_); refine goesL_ (some 19) rfl rfl Try.func14 (by kernel_rfl) rfl #[.int .i64 (wrap64 (131072 + (wrap64 (Int.tmod a0 68719345665)))), .int .i64 a1] rfl (by (try simp only [List.map_toArray, List.map_cons, List.map_nil]); first | done | rfl | (simp only [List.length_drop, List.length_take]; rfl)) ?_; (with_reducible refine (cut_LossS.calls (wrap64 (131072 + (wrap64 (Int.tmod a0 68719345665)))) a1 t359 t360 _ A4.out).mono ?_); rintro e w30 ⟨rfl, hb⟩; refine ⟨_, rfl, ?_⟩; replace HB := Aside0.mk (below_step (by repeat (first | (with_reducible first | exact HB.out | apply below_alloc | apply pw_below_drewN | apply below_drew1) | exact HB.out)) hb); (try clear hb); (try clear hb2); (try clear hk); (try clear hi)) | (go_at_call 17; (with_reducible refine (cut_LeastS.calls (wrap64 (131072 + (wrap64 (Int.tmod a0 68719345665)))) t363 _ A28.out).mono ?_); rintro e w31 ⟨rfl, hb⟩; replace HB := Aside0.mk (below_step (by repeat (first | (with_reducible first | exact HB.out | apply below_alloc | apply pw_below_drewN | apply below_drew1) | exact HB.out)) hb); (try clear hb); (try clear hb2); (try clear hk); (try clear hi)))
        go_ret
        exact ⟨by first | rfl | (simp [errW_none, errW_some] <;> rfl) | (simp [*, errW_none, errW_some] <;> rfl), by repeat (first | (with_reducible first | exact HB.out | apply below_alloc | apply pw_below_drewN | apply below_drew1) | exact HB.out)⟩
       ·rw [if_neg c27] at H
        exact absurd H (by simp)
      ·replace c26 := Bool.eq_false_iff.mpr c26
       subst c26
       have H1 : (none) = some r := by rw [if_neg (show ¬ (false = true) by decide)] at H; exact H
       clear H
       have H := H1
       clear H1
       exact absurd H (by simp)
     ·rw [if_neg c25] at H
      have c25b0 : decide ((wrap64 (20 * t360)) ≤ (wrap64 (17 * (wrap64 (131072 + (wrap64 (Int.tmod a0 68719345665))))))) = false := decide_eq_false c25
      clear c25
      by_cases c32 : t358 = true
      ·subst c32
       have H1 : (none) = some r := by rw [if_pos rfl] at H; exact H
       clear H
       have H := H1
       clear H1
       exact absurd H (by simp)
      ·replace c32 := Bool.eq_false_iff.mpr c32
       subst c32
       have H1 : (none) = some r := by rw [if_neg (show ¬ (false = true) by decide)] at H; exact H
       clear H
       have H := H1
       clear H1
       exact absurd H (by simp)
    ·rw [if_neg c24] at H
     have c24b0 : decide ((wrap64 (131072 + (wrap64 (Int.tmod a0 68719345665)))) < a1) = false := decide_eq_false c24
     clear c24
     by_cases c33 : t358 = true
     ·subst c33
      have H1 : (none) = some r := by rw [if_pos rfl] at H; exact H
      clear H
      have H := H1
      clear H1
      exact absurd H (by simp)
     ·replace c33 := Bool.eq_false_iff.mpr c33
      subst c33
      have H1 : (none) = some r := by rw [if_neg (show ¬ (false = true) by decide)] at H; exact H
      clear H
      have H := H1
      clear H1
      exact absurd H (by simp)
  ·rw [if_neg c6] at H
   have c6b0 : decide ((wrap64 ((wrap64 (7 * (wrap64 (131072 + (wrap64 (Int.tmod a0 68719345665)))))) - (wrap64 (10 * t359)))) < 10) = false := decide_eq_false c6
   clear c6
   by_cases c34 : t359 = 131072
   ·rw [if_pos c34] at H
    have c34b0 : (t359 == 131072) = true := beq_iff_eq.mpr c34
    have c34b1 : (t359 != 131072) = false := bne_eq_false_iff_eq.mpr c34
    clear c34
    by_cases c35 : (wrap64 (131072 + (wrap64 (Int.tmod a0 68719345665)))) ≥ a1
    ·rw [if_pos c35] at H
     have c35b0 : decide (a1 ≤ (wrap64 (131072 + (wrap64 (Int.tmod a0 68719345665))))) = true := decide_eq_true c35
     clear c35
     by_cases c36 : t360 = (wrap64 (131072 + (wrap64 (Int.tmod a0 68719345665))))
     ·rw [if_pos c36] at H
      have c36b0 : (t360 == (wrap64 (131072 + (wrap64 (Int.tmod a0 68719345665))))) = true := beq_iff_eq.mpr c36
      have c36b1 : (t360 != (wrap64 (131072 + (wrap64 (Int.tmod a0 68719345665))))) = false := bne_eq_false_iff_eq.mpr c36
      clear c36
      by_cases c37 : t358 = true
      ·subst c37
       have H1 : (if (wrap64 (7 * (wrap64 (131072 + (wrap64 (Int.tmod a0 68719345665)))))) < 1310720 then ((cut_LeastS.f (wrap64 (131072 + (wrap64 (Int.tmod a0 68719345665))))).bind fun t364 => (some (t364 == t359))) else (none)) = some r := by rw [if_pos rfl] at H; exact H
       clear H
       have H := H1
       clear H1
       by_cases c38 : (wrap64 (7 * (wrap64 (131072 + (wrap64 (Int.tmod a0 68719345665)))))) < 1310720
       ·rw [if_pos c38] at H
        have c38b0 : decide ((wrap64 (7 * (wrap64 (131072 + (wrap64 (Int.tmod a0 68719345665)))))) < 1310720) = true := decide_eq_true c38
        clear c38
        replace H := Option.bind_eq_some_iff.mp H
        obtain ⟨t364, A390, H⟩ := H
        replace H : (some (t364 == t359)) = some r := H
        have A39 := Aside0.mk A390
        clear A390
        obtain rfl := Option.some.inj H
        go_enter Try.func4, Try.ntmps4
        go_wp2_with (first | ((with_reducible refine gate_callee (f := 13) rfl ?_); refine goesL_ (some 11) rfl rfl Try.func13 (by kernel_rfl) rfl #[] rfl (by (try simp only [List.map_toArray, List.map_cons, List.map_nil]); first | done | rfl | (simp only [List.length_drop, List.length_take]; rfl)) ?_; (with_reducible refine (sawtoothlaw15_awakeS.calls  true _ A3.out).mono ?_); rintro e w40 ⟨rfl, hb⟩; refine ⟨_, rfl, ?_⟩; replace HB := Aside0.mk (below_step (by repeat (first | (with_reducible first | exact HB.out | apply below_alloc | apply pw_below_drewN | apply below_drew1) | exact HB.out)) hb); (try clear hb); (try clear hb2); (try clear hk); (try clear hi)) | ((with_reducible refine gate_callee (f := 14) rfl ?_); refine goesL_ (some 19) rfl rfl Try.func14 (by kernel_rfl) rfl #[.int .i64 (wrap64 (131072 + (wrap64 (Int.tmod a0 68719345665)))), .int .i64 a1] rfl (by (try simp only [List.map_toArray, List.map_cons, List.map_nil]); first | done | rfl | (simp only [List.length_drop, List.length_take]; rfl)) ?_; (with_reducible refine (cut_LossS.calls (wrap64 (131072 + (wrap64 (Int.tmod a0 68719345665)))) a1 t359 t360 _ A4.out).mono ?_); rintro e w41 ⟨rfl, hb⟩; refine ⟨_, rfl, ?_⟩; replace HB := Aside0.mk (below_step (by repeat (first | (with_reducible first | exact HB.out | apply below_alloc | apply pw_below_drewN | apply below_drew1) | exact HB.out)) hb); (try clear hb); (try clear hb2); (try clear hk); (try clear hi)) | (go_at_call 17; (with_reducible refine (cut_LeastS.calls (wrap64 (131072 + (wrap64 (Int.tmod a0 68719345665)))) t364 _ A39.out).mono ?_); rintro e w42 ⟨rfl, hb⟩; replace HB := Aside0.mk (below_step (by repeat (first | (with_reducible first | exact HB.out | apply below_alloc | apply pw_below_drewN | apply below_drew1) | exact HB.out)) hb); (try clear hb); (try clear hb2); (try clear hk); (try clear hi)))
        go_ret
        exact ⟨by first | rfl | (simp [errW_none, errW_some] <;> rfl) | (simp [*, errW_none, errW_some] <;> rfl), by repeat (first | (with_reducible first | exact HB.out | apply below_alloc | apply pw_below_drewN | apply below_drew1) | exact HB.out)⟩
       ·rw [if_neg c38] at H
        exact absurd H (by simp)
      ·replace c37 := Bool.eq_false_iff.mpr c37
       subst c37
       have H1 : (none) = some r := by rw [if_neg (show ¬ (false = true) by decide)] at H; exact H
       clear H
       have H := H1
       clear H1
       exact absurd H (by simp)
     ·rw [if_neg c36] at H
      have c36b0 : (t360 == (wrap64 (131072 + (wrap64 (Int.tmod a0 68719345665))))) = false := beq_eq_false_iff_ne.mpr c36
      have c36b1 : (t360 != (wrap64 (131072 + (wrap64 (Int.tmod a0 68719345665))))) = true := bne_iff_ne.mpr c36
      by_cases c43 : (wrap64 (131072 + (wrap64 (Int.tmod a0 68719345665)))) < a1
      ·rw [if_pos c43] at H
       have c43b0 : decide ((wrap64 (131072 + (wrap64 (Int.tmod a0 68719345665)))) < a1) = true := decide_eq_true c43
       clear c43
       by_cases c44 : (wrap64 (20 * t360)) ≤ (wrap64 (17 * (wrap64 (131072 + (wrap64 (Int.tmod a0 68719345665))))))
       ·rw [if_pos c44] at H
        have c44b0 : decide ((wrap64 (20 * t360)) ≤ (wrap64 (17 * (wrap64 (131072 + (wrap64 (Int.tmod a0 68719345665))))))) = true := decide_eq_true c44
        clear c44
        by_cases c45 : t358 = true
        ·subst c45
         have H1 : (if (wrap64 (7 * (wrap64 (131072 + (wrap64 (Int.tmod a0 68719345665)))))) < 1310720 then (if (wrap64 ((wrap64 (17 * (wrap64 (131072 + (wrap64 (Int.tmod a0 68719345665)))))) - (wrap64 (20 * t360)))) < 20 then ((cut_LeastS.f (wrap64 (131072 + (wrap64 (Int.tmod a0 68719345665))))).bind fun t365 => (some (t365 == t359))) else (none)) else (none)) = some r := by rw [if_pos rfl] at H; exact H
         clear H
         have H := H1
         clear H1
         by_cases c46 : (wrap64 (7 * (wrap64 (131072 + (wrap64 (Int.tmod a0 68719345665)))))) < 1310720
         ·rw [if_pos c46] at H
          have c46b0 : decide ((wrap64 (7 * (wrap64 (131072 + (wrap64 (Int.tmod a0 68719345665)))))) < 1310720) = true := decide_eq_true c46
          clear c46
          by_cases c47 : (wrap64 ((wrap64 (17 * (wrap64 (131072 + (wrap64 (Int.tmod a0 68719345665)))))) - (wrap64 (20 * t360)))) < 20
          ·rw [if_pos c47] at H
           have c47b0 : decide ((wrap64 ((wrap64 (17 * (wrap64 (131072 + (wrap64 (Int.tmod a0 68719345665)))))) - (wrap64 (20 * t360)))) < 20) = true := decide_eq_true c47
           clear c47
           replace H := Option.bind_eq_some_iff.mp H
           obtain ⟨t365, A480, H⟩ := H
           replace H : (some (t365 == t359)) = some r := H
           have A48 := Aside0.mk A480
           clear A480
           obtain rfl := Option.some.inj H
           go_enter Try.func4, Try.ntmps4
           go_wp2_with (first | ((with_reducible refine gate_callee (f := 13) rfl ?_); refine goesL_ (some 11) rfl rfl Try.func13 (by kernel_rfl) rfl #[] rfl (by (try simp only [List.map_toArray, List.map_cons, List.map_nil]); first | done | rfl | (simp only [List.length_drop, List.length_take]; rfl)) ?_; (with_reducible refine (sawtoothlaw15_awakeS.calls  true _ A3.out).mono ?_); rintro e w49 ⟨rfl, hb⟩; refine ⟨_, rfl, ?_⟩; replace HB := Aside0.mk (below_step (by repeat (first | (with_reducible first | exact HB.out | apply below_alloc | apply pw_below_drewN | apply below_drew1) | exact HB.out)) hb); (try clear hb); (try clear hb2); (try clear hk); (try clear hi)) | ((with_reducible refine gate_callee (f := 14) rfl ?_); refine goesL_ (some 19) rfl rfl Try.func14 (by kernel_rfl) rfl #[.int .i64 (wrap64 (131072 + (wrap64 (Int.tmod a0 68719345665)))), .int .i64 a1] rfl (by (try simp only [List.map_toArray, List.map_cons, List.map_nil]); first | done | rfl | (simp only [List.length_drop, List.length_take]; rfl)) ?_; (with_reducible refine (cut_LossS.calls (wrap64 (131072 + (wrap64 (Int.tmod a0 68719345665)))) a1 t359 t360 _ A4.out).mono ?_); rintro e w50 ⟨rfl, hb⟩; refine ⟨_, rfl, ?_⟩; replace HB := Aside0.mk (below_step (by repeat (first | (with_reducible first | exact HB.out | apply below_alloc | apply pw_below_drewN | apply below_drew1) | exact HB.out)) hb); (try clear hb); (try clear hb2); (try clear hk); (try clear hi)) | (go_at_call 17; (with_reducible refine (cut_LeastS.calls (wrap64 (131072 + (wrap64 (Int.tmod a0 68719345665)))) t365 _ A48.out).mono ?_); rintro e w51 ⟨rfl, hb⟩; replace HB := Aside0.mk (below_step (by repeat (first | (with_reducible first | exact HB.out | apply below_alloc | apply pw_below_drewN | apply below_drew1) | exact HB.out)) hb); (try clear hb); (try clear hb2); (try clear hk); (try clear hi)))
           go_ret
           exact ⟨by first | rfl | (simp [errW_none, errW_some] <;> rfl) | (simp [*, errW_none, errW_some] <;> rfl), by repeat (first | (with_reducible first | exact HB.out | apply below_alloc | apply pw_below_drewN | apply below_drew1) | exact HB.out)⟩
          ·rw [if_neg c47] at H
           exact absurd H (by simp)
         ·rw [if_neg c46] at H
          exact absurd H (by simp)
        ·replace c45 := Bool.eq_false_iff.mpr c45
         subst c45
         have H1 : (none) = some r := by rw [if_neg (show ¬ (false = true) by decide)] at H; exact H
         clear H
         have H := H1
         clear H1
         exact absurd H (by simp)
       ·rw [if_neg c44] at H
        have c44b0 : decide ((wrap64 (20 * t360)) ≤ (wrap64 (17 * (wrap64 (131072 + (wrap64 (Int.tmod a0 68719345665))))))) = false := decide_eq_false c44
        clear c44
        by_cases c52 : t358 = true
        ·subst c52
         have H1 : (if (wrap64 (7 * (wrap64 (131072 + (wrap64 (Int.tmod a0 68719345665)))))) < 1310720 then (none) else (none)) = some r := by rw [if_pos rfl] at H; exact H
         clear H
         have H := H1
         clear H1
         by_cases c53 : (wrap64 (7 * (wrap64 (131072 + (wrap64 (Int.tmod a0 68719345665)))))) < 1310720
         ·rw [if_pos c53] at H
          exact absurd H (by simp)
         ·rw [if_neg c53] at H
          exact absurd H (by simp)
        ·replace c52 := Bool.eq_false_iff.mpr c52
         subst c52
         have H1 : (none) = some r := by rw [if_neg (show ¬ (false = true) by decide)] at H; exact H
         clear H
         have H := H1
         clear H1
         exact absurd H (by simp)
      ·rw [if_neg c43] at H
       have c43b0 : decide ((wrap64 (131072 + (wrap64 (Int.tmod a0 68719345665)))) < a1) = false := decide_eq_false c43
       clear c43
       by_cases c54 : t358 = true
       ·subst c54
        have H1 : (if (wrap64 (7 * (wrap64 (131072 + (wrap64 (Int.tmod a0 68719345665)))))) < 1310720 then (none) else (none)) = some r := by rw [if_pos rfl] at H; exact H
        clear H
        have H := H1
        clear H1
        by_cases c55 : (wrap64 (7 * (wrap64 (131072 + (wrap64 (Int.tmod a0 68719345665)))))) < 1310720
        ·rw [if_pos c55] at H
         exact absurd H (by simp)
        ·rw [if_neg c55] at H
         exact absurd H (by simp)
       ·replace c54 := Bool.eq_false_iff.mpr c54
        subst c54
        have H1 : (none) = some r := by rw [if_neg (show ¬ (false = true) by decide)] at H; exact H
        clear H
        have H := H1
        clear H1
        exact absurd H (by simp)
    ·rw [if_neg c35] at H
     have c35b0 : decide (a1 ≤ (wrap64 (131072 + (wrap64 (Int.tmod a0 68719345665))))) = false := decide_eq_false c35
     clear c35
     by_cases c56 : (wrap64 (131072 + (wrap64 (Int.tmod a0 68719345665)))) < a1
     ·rw [if_pos c56] at H
      have c56b0 : decide ((wrap64 (131072 + (wrap64 (Int.tmod a0 68719345665)))) < a1) = true := decide_eq_true c56
      clear c56
      by_cases c57 : (wrap64 (20 * t360)) ≤ (wrap64 (17 * (wrap64 (131072 + (wrap64 (Int.tmod a0 68719345665))))))
      ·rw [if_pos c57] at H
       have c57b0 : decide ((wrap64 (20 * t360)) ≤ (wrap64 (17 * (wrap64 (131072 + (wrap64 (Int.tmod a0 68719345665))))))) = true := decide_eq_true c57
       clear c57
       by_cases c58 : t358 = true
       ·subst c58
        have H1 : (if (wrap64 (7 * (wrap64 (131072 + (wrap64 (Int.tmod a0 68719345665)))))) < 1310720 then (if (wrap64 ((wrap64 (17 * (wrap64 (131072 + (wrap64 (Int.tmod a0 68719345665)))))) - (wrap64 (20 * t360)))) < 20 then ((cut_LeastS.f (wrap64 (131072 + (wrap64 (Int.tmod a0 68719345665))))).bind fun t366 => (some (t366 == t359))) else (none)) else (none)) = some r := by rw [if_pos rfl] at H; exact H
        clear H
        have H := H1
        clear H1
        by_cases c59 : (wrap64 (7 * (wrap64 (131072 + (wrap64 (Int.tmod a0 68719345665)))))) < 1310720
        ·rw [if_pos c59] at H
         have c59b0 : decide ((wrap64 (7 * (wrap64 (131072 + (wrap64 (Int.tmod a0 68719345665)))))) < 1310720) = true := decide_eq_true c59
         clear c59
         by_cases c60 : (wrap64 ((wrap64 (17 * (wrap64 (131072 + (wrap64 (Int.tmod a0 68719345665)))))) - (wrap64 (20 * t360)))) < 20
         ·rw [if_pos c60] at H
          have c60b0 : decide ((wrap64 ((wrap64 (17 * (wrap64 (131072 + (wrap64 (Int.tmod a0 68719345665)))))) - (wrap64 (20 * t360)))) < 20) = true := decide_eq_true c60
          clear c60
          replace H := Option.bind_eq_some_iff.mp H
          obtain ⟨t366, A610, H⟩ := H
          replace H : (some (t366 == t359)) = some r := H
          have A61 := Aside0.mk A610
          clear A610
          obtain rfl := Option.some.inj H
          go_enter Try.func4, Try.ntmps4
          go_wp2_with (first | ((with_reducible refine gate_callee (f := 13) rfl ?_); refine goesL_ (some 11) rfl rfl Try.func13 (by kernel_rfl) rfl #[] rfl (by (try simp only [List.map_toArray, List.map_cons, List.map_nil]); first | done | rfl | (simp only [List.length_drop, List.length_take]; rfl)) ?_; (with_reducible refine (sawtoothlaw15_awakeS.calls  true _ A3.out).mono ?_); rintro e w62 ⟨rfl, hb⟩; refine ⟨_, rfl, ?_⟩; replace HB := Aside0.mk (below_step (by repeat (first | (with_reducible first | exact HB.out | apply below_alloc | apply pw_below_drewN | apply below_drew1) | exact HB.out)) hb); (try clear hb); (try clear hb2); (try clear hk); (try clear hi)) | ((with_reducible refine gate_callee (f := 14) rfl ?_); refine goesL_ (some 19) rfl rfl Try.func14 (by kernel_rfl) rfl #[.int .i64 (wrap64 (131072 + (wrap64 (Int.tmod a0 68719345665)))), .int .i64 a1] rfl (by (try simp only [List.map_toArray, List.map_cons, List.map_nil]); first | done | rfl | (simp only [List.length_drop, List.length_take]; rfl)) ?_; (with_reducible refine (cut_LossS.calls (wrap64 (131072 + (wrap64 (Int.tmod a0 68719345665)))) a1 t359 t360 _ A4.out).mono ?_); rintro e w63 ⟨rfl, hb⟩; refine ⟨_, rfl, ?_⟩; replace HB := Aside0.mk (below_step (by repeat (first | (with_reducible first | exact HB.out | apply below_alloc | apply pw_below_drewN | apply below_drew1) | exact HB.out)) hb); (try clear hb); (try clear hb2); (try clear hk); (try clear hi)) | (go_at_call 17; (with_reducible refine (cut_LeastS.calls (wrap64 (131072 + (wrap64 (Int.tmod a0 68719345665)))) t366 _ A61.out).mono ?_); rintro e w64 ⟨rfl, hb⟩; replace HB := Aside0.mk (below_step (by repeat (first | (with_reducible first | exact HB.out | apply below_alloc | apply pw_below_drewN | apply below_drew1) | exact HB.out)) hb); (try clear hb); (try clear hb2); (try clear hk); (try clear hi)))
          go_ret
          exact ⟨by first | rfl | (simp [errW_none, errW_some] <;> rfl) | (simp [*, errW_none, errW_some] <;> rfl), by repeat (first | (with_reducible first | exact HB.out | apply below_alloc | apply pw_below_drewN | apply below_drew1) | exact HB.out)⟩
         ·rw [if_neg c60] at H
          exact absurd H (by simp)
        ·rw [if_neg c59] at H
         exact absurd H (by simp)
       ·replace c58 := Bool.eq_false_iff.mpr c58
        subst c58
        have H1 : (none) = some r := by rw [if_neg (show ¬ (false = true) by decide)] at H; exact H
        clear H
        have H := H1
        clear H1
        exact absurd H (by simp)
      ·rw [if_neg c57] at H
       have c57b0 : decide ((wrap64 (20 * t360)) ≤ (wrap64 (17 * (wrap64 (131072 + (wrap64 (Int.tmod a0 68719345665))))))) = false := decide_eq_false c57
       clear c57
       by_cases c65 : t358 = true
       ·subst c65
        have H1 : (if (wrap64 (7 * (wrap64 (131072 + (wrap64 (Int.tmod a0 68719345665)))))) < 1310720 then (none) else (none)) = some r := by rw [if_pos rfl] at H; exact H
        clear H
        have H := H1
        clear H1
        by_cases c66 : (wrap64 (7 * (wrap64 (131072 + (wrap64 (Int.tmod a0 68719345665)))))) < 1310720
        ·rw [if_pos c66] at H
         exact absurd H (by simp)
        ·rw [if_neg c66] at H
         exact absurd H (by simp)
       ·replace c65 := Bool.eq_false_iff.mpr c65
        subst c65
        have H1 : (none) = some r := by rw [if_neg (show ¬ (false = true) by decide)] at H; exact H
        clear H
        have H := H1
        clear H1
        exact absurd H (by simp)
     ·rw [if_neg c56] at H
      have c56b0 : decide ((wrap64 (131072 + (wrap64 (Int.tmod a0 68719345665)))) < a1) = false := decide_eq_false c56
      clear c56
      by_cases c67 : t358 = true
      ·subst c67
       have H1 : (if (wrap64 (7 * (wrap64 (131072 + (wrap64 (Int.tmod a0 68719345665)))))) < 1310720 then (none) else (none)) = some r := by rw [if_pos rfl] at H; exact H
       clear H
       have H := H1
       clear H1
       by_cases c68 : (wrap64 (7 * (wrap64 (131072 + (wrap64 (Int.tmod a0 68719345665)))))) < 1310720
       ·rw [if_pos c68] at H
        exact absurd H (by simp)
       ·rw [if_neg c68] at H
        exact absurd H (by simp)
      ·replace c67 := Bool.eq_false_iff.mpr c67
       subst c67
       have H1 : (none) = some r := by rw [if_neg (show ¬ (false = true) by decide)] at H; exact H
       clear H
       have H := H1
       clear H1
       exact absurd H (by simp)
   ·rw [if_neg c34] at H
    have c34b0 : (t359 == 131072) = false := beq_eq_false_iff_ne.mpr c34
    have c34b1 : (t359 != 131072) = true := bne_iff_ne.mpr c34
    by_cases c69 : (wrap64 (131072 + (wrap64 (Int.tmod a0 68719345665)))) ≥ a1
    ·rw [if_pos c69] at H
     have c69b0 : decide (a1 ≤ (wrap64 (131072 + (wrap64 (Int.tmod a0 68719345665))))) = true := decide_eq_true c69
     clear c69
     by_cases c70 : t360 = (wrap64 (131072 + (wrap64 (Int.tmod a0 68719345665))))
     ·rw [if_pos c70] at H
      have c70b0 : (t360 == (wrap64 (131072 + (wrap64 (Int.tmod a0 68719345665))))) = true := beq_iff_eq.mpr c70
      have c70b1 : (t360 != (wrap64 (131072 + (wrap64 (Int.tmod a0 68719345665))))) = false := bne_eq_false_iff_eq.mpr c70
      clear c70
      by_cases c71 : t358 = true
      ·subst c71
       have H1 : (none) = some r := by rw [if_pos rfl] at H; exact H
       clear H
       have H := H1
       clear H1
       exact absurd H (by simp)
      ·replace c71 := Bool.eq_false_iff.mpr c71
       subst c71
       have H1 : (none) = some r := by rw [if_neg (show ¬ (false = true) by decide)] at H; exact H
       clear H
       have H := H1
       clear H1
       exact absurd H (by simp)
     ·rw [if_neg c70] at H
      have c70b0 : (t360 == (wrap64 (131072 + (wrap64 (Int.tmod a0 68719345665))))) = false := beq_eq_false_iff_ne.mpr c70
      have c70b1 : (t360 != (wrap64 (131072 + (wrap64 (Int.tmod a0 68719345665))))) = true := bne_iff_ne.mpr c70
      by_cases c72 : (wrap64 (131072 + (wrap64 (Int.tmod a0 68719345665)))) < a1
      ·rw [if_pos c72] at H
       have c72b0 : decide ((wrap64 (131072 + (wrap64 (Int.tmod a0 68719345665)))) < a1) = true := decide_eq_true c72
       clear c72
       by_cases c73 : (wrap64 (20 * t360)) ≤ (wrap64 (17 * (wrap64 (131072 + (wrap64 (Int.tmod a0 68719345665))))))
       ·rw [if_pos c73] at H
        have c73b0 : decide ((wrap64 (20 * t360)) ≤ (wrap64 (17 * (wrap64 (131072 + (wrap64 (Int.tmod a0 68719345665))))))) = true := decide_eq_true c73
        clear c73
        by_cases c74 : t358 = true
        ·subst c74
         have H1 : (none) = some r := by rw [if_pos rfl] at H; exact H
         clear H
         have H := H1
         clear H1
         exact absurd H (by simp)
        ·replace c74 := Bool.eq_false_iff.mpr c74
         subst c74
         have H1 : (none) = some r := by rw [if_neg (show ¬ (false = true) by decide)] at H; exact H
         clear H
         have H := H1
         clear H1
         exact absurd H (by simp)
       ·rw [if_neg c73] at H
        have c73b0 : decide ((wrap64 (20 * t360)) ≤ (wrap64 (17 * (wrap64 (131072 + (wrap64 (Int.tmod a0 68719345665))))))) = false := decide_eq_false c73
        clear c73
        by_cases c75 : t358 = true
        ·subst c75
         have H1 : (none) = some r := by rw [if_pos rfl] at H; exact H
         clear H
         have H := H1
         clear H1
         exact absurd H (by simp)
        ·replace c75 := Bool.eq_false_iff.mpr c75
         subst c75
         have H1 : (none) = some r := by rw [if_neg (show ¬ (false = true) by decide)] at H; exact H
         clear H
         have H := H1
         clear H1
         exact absurd H (by simp)
      ·rw [if_neg c72] at H
       have c72b0 : decide ((wrap64 (131072 + (wrap64 (Int.tmod a0 68719345665)))) < a1) = false := decide_eq_false c72
       clear c72
       by_cases c76 : t358 = true
       ·subst c76
        have H1 : (none) = some r := by rw [if_pos rfl] at H; exact H
        clear H
        have H := H1
        clear H1
        exact absurd H (by simp)
       ·replace c76 := Bool.eq_false_iff.mpr c76
        subst c76
        have H1 : (none) = some r := by rw [if_neg (show ¬ (false = true) by decide)] at H; exact H
        clear H
        have H := H1
        clear H1
        exact absurd H (by simp)
    ·rw [if_neg c69] at H
     have c69b0 : decide (a1 ≤ (wrap64 (131072 + (wrap64 (Int.tmod a0 68719345665))))) = false := decide_eq_false c69
     clear c69
     by_cases c77 : (wrap64 (131072 + (wrap64 (Int.tmod a0 68719345665)))) < a1
     ·rw [if_pos c77] at H
      have c77b0 : decide ((wrap64 (131072 + (wrap64 (Int.tmod a0 68719345665)))) < a1) = true := decide_eq_true c77
      clear c77
      by_cases c78 : (wrap64 (20 * t360)) ≤ (wrap64 (17 * (wrap64 (131072 + (wrap64 (Int.tmod a0 68719345665))))))
      ·rw [if_pos c78] at H
       have c78b0 : decide ((wrap64 (20 * t360)) ≤ (wrap64 (17 * (wrap64 (131072 + (wrap64 (Int.tmod a0 68719345665))))))) = true := decide_eq_true c78
       clear c78
       by_cases c79 : t358 = true
       ·subst c79
        have H1 : (none) = some r := by rw [if_pos rfl] at H; exact H
        clear H
        have H := H1
        clear H1
        exact absurd H (by simp)
       ·replace c79 := Bool.eq_false_iff.mpr c79
        subst c79
        have H1 : (none) = some r := by rw [if_neg (show ¬ (false = true) by decide)] at H; exact H
        clear H
        have H := H1
        clear H1
        exact absurd H (by simp)
      ·rw [if_neg c78] at H
       have c78b0 : decide ((wrap64 (20 * t360)) ≤ (wrap64 (17 * (wrap64 (131072 + (wrap64 (Int.tmod a0 68719345665))))))) = false := decide_eq_false c78
       clear c78
       by_cases c80 : t358 = true
       ·subst c80
        have H1 : (none) = some r := by rw [if_pos rfl] at H; exact H
        clear H
        have H := H1
        clear H1
        exact absurd H (by simp)
       ·replace c80 := Bool.eq_false_iff.mpr c80
        subst c80
        have H1 : (none) = some r := by rw [if_neg (show ¬ (false = true) by decide)] at H; exact H
        clear H
        have H := H1
        clear H1
        exact absurd H (by simp)
     ·rw [if_neg c77] at H
      have c77b0 : decide ((wrap64 (131072 + (wrap64 (Int.tmod a0 68719345665)))) < a1) = false := decide_eq_false c77
      clear c77
      by_cases c81 : t358 = true
      ·subst c81
       have H1 : (none) = some r := by rw [if_pos rfl] at H; exact H
       clear H
       have H := H1
       clear H1
       exact absurd H (by simp)
      ·replace c81 := Bool.eq_false_iff.mpr c81
       subst c81
       have H1 : (none) = some r := by rw [if_neg (show ¬ (false = true) by decide)] at H; exact H
       clear H
       have H := H1
       clear H1
       exact absurd H (by simp)
 ·rw [if_neg c5] at H
  have c5b0 : decide ((wrap64 (10 * t359)) ≤ (wrap64 (7 * (wrap64 (131072 + (wrap64 (Int.tmod a0 68719345665))))))) = false := decide_eq_false c5
  clear c5
  by_cases c82 : t359 = 131072
  ·rw [if_pos c82] at H
   have c82b0 : (t359 == 131072) = true := beq_iff_eq.mpr c82
   have c82b1 : (t359 != 131072) = false := bne_eq_false_iff_eq.mpr c82
   clear c82
   by_cases c83 : (wrap64 (131072 + (wrap64 (Int.tmod a0 68719345665)))) ≥ a1
   ·rw [if_pos c83] at H
    have c83b0 : decide (a1 ≤ (wrap64 (131072 + (wrap64 (Int.tmod a0 68719345665))))) = true := decide_eq_true c83
    clear c83
    by_cases c84 : t360 = (wrap64 (131072 + (wrap64 (Int.tmod a0 68719345665))))
    ·rw [if_pos c84] at H
     have c84b0 : (t360 == (wrap64 (131072 + (wrap64 (Int.tmod a0 68719345665))))) = true := beq_iff_eq.mpr c84
     have c84b1 : (t360 != (wrap64 (131072 + (wrap64 (Int.tmod a0 68719345665))))) = false := bne_eq_false_iff_eq.mpr c84
     clear c84
     by_cases c85 : t358 = true
     ·subst c85
      have H1 : (if (wrap64 (7 * (wrap64 (131072 + (wrap64 (Int.tmod a0 68719345665)))))) < 1310720 then ((cut_LeastS.f (wrap64 (131072 + (wrap64 (Int.tmod a0 68719345665))))).bind fun t367 => (some (t367 == t359))) else (none)) = some r := by rw [if_pos rfl] at H; exact H
      clear H
      have H := H1
      clear H1
      by_cases c86 : (wrap64 (7 * (wrap64 (131072 + (wrap64 (Int.tmod a0 68719345665)))))) < 1310720
      ·rw [if_pos c86] at H
       have c86b0 : decide ((wrap64 (7 * (wrap64 (131072 + (wrap64 (Int.tmod a0 68719345665)))))) < 1310720) = true := decide_eq_true c86
       clear c86
       replace H := Option.bind_eq_some_iff.mp H
       obtain ⟨t367, A870, H⟩ := H
       replace H : (some (t367 == t359)) = some r := H
       have A87 := Aside0.mk A870
       clear A870
       obtain rfl := Option.some.inj H
       go_enter Try.func4, Try.ntmps4
       go_wp2_with (first | ((with_reducible refine gate_callee (f := 13) rfl ?_); refine goesL_ (some 11) rfl rfl Try.func13 (by kernel_rfl) rfl #[] rfl (by (try simp only [List.map_toArray, List.map_cons, List.map_nil]); first | done | rfl | (simp only [List.length_drop, List.length_take]; rfl)) ?_; (with_reducible refine (sawtoothlaw15_awakeS.calls  true _ A3.out).mono ?_); rintro e w88 ⟨rfl, hb⟩; refine ⟨_, rfl, ?_⟩; replace HB := Aside0.mk (below_step (by repeat (first | (with_reducible first | exact HB.out | apply below_alloc | apply pw_below_drewN | apply below_drew1) | exact HB.out)) hb); (try clear hb); (try clear hb2); (try clear hk); (try clear hi)) | ((with_reducible refine gate_callee (f := 14) rfl ?_); refine goesL_ (some 19) rfl rfl Try.func14 (by kernel_rfl) rfl #[.int .i64 (wrap64 (131072 + (wrap64 (Int.tmod a0 68719345665)))), .int .i64 a1] rfl (by (try simp only [List.map_toArray, List.map_cons, List.map_nil]); first | done | rfl | (simp only [List.length_drop, List.length_take]; rfl)) ?_; (with_reducible refine (cut_LossS.calls (wrap64 (131072 + (wrap64 (Int.tmod a0 68719345665)))) a1 t359 t360 _ A4.out).mono ?_); rintro e w89 ⟨rfl, hb⟩; refine ⟨_, rfl, ?_⟩; replace HB := Aside0.mk (below_step (by repeat (first | (with_reducible first | exact HB.out | apply below_alloc | apply pw_below_drewN | apply below_drew1) | exact HB.out)) hb); (try clear hb); (try clear hb2); (try clear hk); (try clear hi)) | (go_at_call 17; (with_reducible refine (cut_LeastS.calls (wrap64 (131072 + (wrap64 (Int.tmod a0 68719345665)))) t367 _ A87.out).mono ?_); rintro e w90 ⟨rfl, hb⟩; replace HB := Aside0.mk (below_step (by repeat (first | (with_reducible first | exact HB.out | apply below_alloc | apply pw_below_drewN | apply below_drew1) | exact HB.out)) hb); (try clear hb); (try clear hb2); (try clear hk); (try clear hi)))
       go_ret
       exact ⟨by first | rfl | (simp [errW_none, errW_some] <;> rfl) | (simp [*, errW_none, errW_some] <;> rfl), by repeat (first | (with_reducible first | exact HB.out | apply below_alloc | apply pw_below_drewN | apply below_drew1) | exact HB.out)⟩
      ·rw [if_neg c86] at H
       exact absurd H (by simp)
     ·replace c85 := Bool.eq_false_iff.mpr c85
      subst c85
      have H1 : (none) = some r := by rw [if_neg (show ¬ (false = true) by decide)] at H; exact H
      clear H
      have H := H1
      clear H1
      exact absurd H (by simp)
    ·rw [if_neg c84] at H
     have c84b0 : (t360 == (wrap64 (131072 + (wrap64 (Int.tmod a0 68719345665))))) = false := beq_eq_false_iff_ne.mpr c84
     have c84b1 : (t360 != (wrap64 (131072 + (wrap64 (Int.tmod a0 68719345665))))) = true := bne_iff_ne.mpr c84
     by_cases c91 : (wrap64 (131072 + (wrap64 (Int.tmod a0 68719345665)))) < a1
     ·rw [if_pos c91] at H
      have c91b0 : decide ((wrap64 (131072 + (wrap64 (Int.tmod a0 68719345665)))) < a1) = true := decide_eq_true c91
      clear c91
      by_cases c92 : (wrap64 (20 * t360)) ≤ (wrap64 (17 * (wrap64 (131072 + (wrap64 (Int.tmod a0 68719345665))))))
      ·rw [if_pos c92] at H
       have c92b0 : decide ((wrap64 (20 * t360)) ≤ (wrap64 (17 * (wrap64 (131072 + (wrap64 (Int.tmod a0 68719345665))))))) = true := decide_eq_true c92
       clear c92
       by_cases c93 : t358 = true
       ·subst c93
        have H1 : (if (wrap64 (7 * (wrap64 (131072 + (wrap64 (Int.tmod a0 68719345665)))))) < 1310720 then (if (wrap64 ((wrap64 (17 * (wrap64 (131072 + (wrap64 (Int.tmod a0 68719345665)))))) - (wrap64 (20 * t360)))) < 20 then ((cut_LeastS.f (wrap64 (131072 + (wrap64 (Int.tmod a0 68719345665))))).bind fun t368 => (some (t368 == t359))) else (none)) else (none)) = some r := by rw [if_pos rfl] at H; exact H
        clear H
        have H := H1
        clear H1
        by_cases c94 : (wrap64 (7 * (wrap64 (131072 + (wrap64 (Int.tmod a0 68719345665)))))) < 1310720
        ·rw [if_pos c94] at H
         have c94b0 : decide ((wrap64 (7 * (wrap64 (131072 + (wrap64 (Int.tmod a0 68719345665)))))) < 1310720) = true := decide_eq_true c94
         clear c94
         by_cases c95 : (wrap64 ((wrap64 (17 * (wrap64 (131072 + (wrap64 (Int.tmod a0 68719345665)))))) - (wrap64 (20 * t360)))) < 20
         ·rw [if_pos c95] at H
          have c95b0 : decide ((wrap64 ((wrap64 (17 * (wrap64 (131072 + (wrap64 (Int.tmod a0 68719345665)))))) - (wrap64 (20 * t360)))) < 20) = true := decide_eq_true c95
          clear c95
          replace H := Option.bind_eq_some_iff.mp H
          obtain ⟨t368, A960, H⟩ := H
          replace H : (some (t368 == t359)) = some r := H
          have A96 := Aside0.mk A960
          clear A960
          obtain rfl := Option.some.inj H
          go_enter Try.func4, Try.ntmps4
          go_wp2_with (first | ((with_reducible refine gate_callee (f := 13) rfl ?_); refine goesL_ (some 11) rfl rfl Try.func13 (by kernel_rfl) rfl #[] rfl (by (try simp only [List.map_toArray, List.map_cons, List.map_nil]); first | done | rfl | (simp only [List.length_drop, List.length_take]; rfl)) ?_; (with_reducible refine (sawtoothlaw15_awakeS.calls  true _ A3.out).mono ?_); rintro e w97 ⟨rfl, hb⟩; refine ⟨_, rfl, ?_⟩; replace HB := Aside0.mk (below_step (by repeat (first | (with_reducible first | exact HB.out | apply below_alloc | apply pw_below_drewN | apply below_drew1) | exact HB.out)) hb); (try clear hb); (try clear hb2); (try clear hk); (try clear hi)) | ((with_reducible refine gate_callee (f := 14) rfl ?_); refine goesL_ (some 19) rfl rfl Try.func14 (by kernel_rfl) rfl #[.int .i64 (wrap64 (131072 + (wrap64 (Int.tmod a0 68719345665)))), .int .i64 a1] rfl (by (try simp only [List.map_toArray, List.map_cons, List.map_nil]); first | done | rfl | (simp only [List.length_drop, List.length_take]; rfl)) ?_; (with_reducible refine (cut_LossS.calls (wrap64 (131072 + (wrap64 (Int.tmod a0 68719345665)))) a1 t359 t360 _ A4.out).mono ?_); rintro e w98 ⟨rfl, hb⟩; refine ⟨_, rfl, ?_⟩; replace HB := Aside0.mk (below_step (by repeat (first | (with_reducible first | exact HB.out | apply below_alloc | apply pw_below_drewN | apply below_drew1) | exact HB.out)) hb); (try clear hb); (try clear hb2); (try clear hk); (try clear hi)) | (go_at_call 17; (with_reducible refine (cut_LeastS.calls (wrap64 (131072 + (wrap64 (Int.tmod a0 68719345665)))) t368 _ A96.out).mono ?_); rintro e w99 ⟨rfl, hb⟩; replace HB := Aside0.mk (below_step (by repeat (first | (with_reducible first | exact HB.out | apply below_alloc | apply pw_below_drewN | apply below_drew1) | exact HB.out)) hb); (try clear hb); (try clear hb2); (try clear hk); (try clear hi)))
          go_ret
          exact ⟨by first | rfl | (simp [errW_none, errW_some] <;> rfl) | (simp [*, errW_none, errW_some] <;> rfl), by repeat (first | (with_reducible first | exact HB.out | apply below_alloc | apply pw_below_drewN | apply below_drew1) | exact HB.out)⟩
         ·rw [if_neg c95] at H
          exact absurd H (by simp)
        ·rw [if_neg c94] at H
         exact absurd H (by simp)
       ·replace c93 := Bool.eq_false_iff.mpr c93
        subst c93
        have H1 : (none) = some r := by rw [if_neg (show ¬ (false = true) by decide)] at H; exact H
        clear H
        have H := H1
        clear H1
        exact absurd H (by simp)
      ·rw [if_neg c92] at H
       have c92b0 : decide ((wrap64 (20 * t360)) ≤ (wrap64 (17 * (wrap64 (131072 + (wrap64 (Int.tmod a0 68719345665))))))) = false := decide_eq_false c92
       clear c92
       by_cases c100 : t358 = true
       ·subst c100
        have H1 : (if (wrap64 (7 * (wrap64 (131072 + (wrap64 (Int.tmod a0 68719345665)))))) < 1310720 then (none) else (none)) = some r := by rw [if_pos rfl] at H; exact H
        clear H
        have H := H1
        clear H1
        by_cases c101 : (wrap64 (7 * (wrap64 (131072 + (wrap64 (Int.tmod a0 68719345665)))))) < 1310720
        ·rw [if_pos c101] at H
         exact absurd H (by simp)
        ·rw [if_neg c101] at H
         exact absurd H (by simp)
       ·replace c100 := Bool.eq_false_iff.mpr c100
        subst c100
        have H1 : (none) = some r := by rw [if_neg (show ¬ (false = true) by decide)] at H; exact H
        clear H
        have H := H1
        clear H1
        exact absurd H (by simp)
     ·rw [if_neg c91] at H
      have c91b0 : decide ((wrap64 (131072 + (wrap64 (Int.tmod a0 68719345665)))) < a1) = false := decide_eq_false c91
      clear c91
      by_cases c102 : t358 = true
      ·subst c102
       have H1 : (if (wrap64 (7 * (wrap64 (131072 + (wrap64 (Int.tmod a0 68719345665)))))) < 1310720 then (none) else (none)) = some r := by rw [if_pos rfl] at H; exact H
       clear H
       have H := H1
       clear H1
       by_cases c103 : (wrap64 (7 * (wrap64 (131072 + (wrap64 (Int.tmod a0 68719345665)))))) < 1310720
       ·rw [if_pos c103] at H
        exact absurd H (by simp)
       ·rw [if_neg c103] at H
        exact absurd H (by simp)
      ·replace c102 := Bool.eq_false_iff.mpr c102
       subst c102
       have H1 : (none) = some r := by rw [if_neg (show ¬ (false = true) by decide)] at H; exact H
       clear H
       have H := H1
       clear H1
       exact absurd H (by simp)
   ·rw [if_neg c83] at H
    have c83b0 : decide (a1 ≤ (wrap64 (131072 + (wrap64 (Int.tmod a0 68719345665))))) = false := decide_eq_false c83
    clear c83
    by_cases c104 : (wrap64 (131072 + (wrap64 (Int.tmod a0 68719345665)))) < a1
    ·rw [if_pos c104] at H
     have c104b0 : decide ((wrap64 (131072 + (wrap64 (Int.tmod a0 68719345665)))) < a1) = true := decide_eq_true c104
     clear c104
     by_cases c105 : (wrap64 (20 * t360)) ≤ (wrap64 (17 * (wrap64 (131072 + (wrap64 (Int.tmod a0 68719345665))))))
     ·rw [if_pos c105] at H
      have c105b0 : decide ((wrap64 (20 * t360)) ≤ (wrap64 (17 * (wrap64 (131072 + (wrap64 (Int.tmod a0 68719345665))))))) = true := decide_eq_true c105
      clear c105
      by_cases c106 : t358 = true
      ·subst c106
       have H1 : (if (wrap64 (7 * (wrap64 (131072 + (wrap64 (Int.tmod a0 68719345665)))))) < 1310720 then (if (wrap64 ((wrap64 (17 * (wrap64 (131072 + (wrap64 (Int.tmod a0 68719345665)))))) - (wrap64 (20 * t360)))) < 20 then ((cut_LeastS.f (wrap64 (131072 + (wrap64 (Int.tmod a0 68719345665))))).bind fun t369 => (some (t369 == t359))) else (none)) else (none)) = some r := by rw [if_pos rfl] at H; exact H
       clear H
       have H := H1
       clear H1
       by_cases c107 : (wrap64 (7 * (wrap64 (131072 + (wrap64 (Int.tmod a0 68719345665)))))) < 1310720
       ·rw [if_pos c107] at H
        have c107b0 : decide ((wrap64 (7 * (wrap64 (131072 + (wrap64 (Int.tmod a0 68719345665)))))) < 1310720) = true := decide_eq_true c107
        clear c107
        by_cases c108 : (wrap64 ((wrap64 (17 * (wrap64 (131072 + (wrap64 (Int.tmod a0 68719345665)))))) - (wrap64 (20 * t360)))) < 20
        ·rw [if_pos c108] at H
         have c108b0 : decide ((wrap64 ((wrap64 (17 * (wrap64 (131072 + (wrap64 (Int.tmod a0 68719345665)))))) - (wrap64 (20 * t360)))) < 20) = true := decide_eq_true c108
         clear c108
         replace H := Option.bind_eq_some_iff.mp H
         obtain ⟨t369, A1090, H⟩ := H
         replace H : (some (t369 == t359)) = some r := H
         have A109 := Aside0.mk A1090
         clear A1090
         obtain rfl := Option.some.inj H
         go_enter Try.func4, Try.ntmps4
         go_wp2_with (first | ((with_reducible refine gate_callee (f := 13) rfl ?_); refine goesL_ (some 11) rfl rfl Try.func13 (by kernel_rfl) rfl #[] rfl (by (try simp only [List.map_toArray, List.map_cons, List.map_nil]); first | done | rfl | (simp only [List.length_drop, List.length_take]; rfl)) ?_; (with_reducible refine (sawtoothlaw15_awakeS.calls  true _ A3.out).mono ?_); rintro e w110 ⟨rfl, hb⟩; refine ⟨_, rfl, ?_⟩; replace HB := Aside0.mk (below_step (by repeat (first | (with_reducible first | exact HB.out | apply below_alloc | apply pw_below_drewN | apply below_drew1) | exact HB.out)) hb); (try clear hb); (try clear hb2); (try clear hk); (try clear hi)) | ((with_reducible refine gate_callee (f := 14) rfl ?_); refine goesL_ (some 19) rfl rfl Try.func14 (by kernel_rfl) rfl #[.int .i64 (wrap64 (131072 + (wrap64 (Int.tmod a0 68719345665)))), .int .i64 a1] rfl (by (try simp only [List.map_toArray, List.map_cons, List.map_nil]); first | done | rfl | (simp only [List.length_drop, List.length_take]; rfl)) ?_; (with_reducible refine (cut_LossS.calls (wrap64 (131072 + (wrap64 (Int.tmod a0 68719345665)))) a1 t359 t360 _ A4.out).mono ?_); rintro e w111 ⟨rfl, hb⟩; refine ⟨_, rfl, ?_⟩; replace HB := Aside0.mk (below_step (by repeat (first | (with_reducible first | exact HB.out | apply below_alloc | apply pw_below_drewN | apply below_drew1) | exact HB.out)) hb); (try clear hb); (try clear hb2); (try clear hk); (try clear hi)) | (go_at_call 17; (with_reducible refine (cut_LeastS.calls (wrap64 (131072 + (wrap64 (Int.tmod a0 68719345665)))) t369 _ A109.out).mono ?_); rintro e w112 ⟨rfl, hb⟩; replace HB := Aside0.mk (below_step (by repeat (first | (with_reducible first | exact HB.out | apply below_alloc | apply pw_below_drewN | apply below_drew1) | exact HB.out)) hb); (try clear hb); (try clear hb2); (try clear hk); (try clear hi)))
         go_ret
         exact ⟨by first | rfl | (simp [errW_none, errW_some] <;> rfl) | (simp [*, errW_none, errW_some] <;> rfl), by repeat (first | (with_reducible first | exact HB.out | apply below_alloc | apply pw_below_drewN | apply below_drew1) | exact HB.out)⟩
        ·rw [if_neg c108] at H
         exact absurd H (by simp)
       ·rw [if_neg c107] at H
        exact absurd H (by simp)
      ·replace c106 := Bool.eq_false_iff.mpr c106
       subst c106
       have H1 : (none) = some r := by rw [if_neg (show ¬ (false = true) by decide)] at H; exact H
       clear H
       have H := H1
       clear H1
       exact absurd H (by simp)
     ·rw [if_neg c105] at H
      have c105b0 : decide ((wrap64 (20 * t360)) ≤ (wrap64 (17 * (wrap64 (131072 + (wrap64 (Int.tmod a0 68719345665))))))) = false := decide_eq_false c105
      clear c105
      by_cases c113 : t358 = true
      ·subst c113
       have H1 : (if (wrap64 (7 * (wrap64 (131072 + (wrap64 (Int.tmod a0 68719345665)))))) < 1310720 then (none) else (none)) = some r := by rw [if_pos rfl] at H; exact H
       clear H
       have H := H1
       clear H1
       by_cases c114 : (wrap64 (7 * (wrap64 (131072 + (wrap64 (Int.tmod a0 68719345665)))))) < 1310720
       ·rw [if_pos c114] at H
        exact absurd H (by simp)
       ·rw [if_neg c114] at H
        exact absurd H (by simp)
      ·replace c113 := Bool.eq_false_iff.mpr c113
       subst c113
       have H1 : (none) = some r := by rw [if_neg (show ¬ (false = true) by decide)] at H; exact H
       clear H
       have H := H1
       clear H1
       exact absurd H (by simp)
    ·rw [if_neg c104] at H
     have c104b0 : decide ((wrap64 (131072 + (wrap64 (Int.tmod a0 68719345665)))) < a1) = false := decide_eq_false c104
     clear c104
     by_cases c115 : t358 = true
     ·subst c115
      have H1 : (if (wrap64 (7 * (wrap64 (131072 + (wrap64 (Int.tmod a0 68719345665)))))) < 1310720 then (none) else (none)) = some r := by rw [if_pos rfl] at H; exact H
      clear H
      have H := H1
      clear H1
      by_cases c116 : (wrap64 (7 * (wrap64 (131072 + (wrap64 (Int.tmod a0 68719345665)))))) < 1310720
      ·rw [if_pos c116] at H
       exact absurd H (by simp)
      ·rw [if_neg c116] at H
       exact absurd H (by simp)
     ·replace c115 := Bool.eq_false_iff.mpr c115
      subst c115
      have H1 : (none) = some r := by rw [if_neg (show ¬ (false = true) by decide)] at H; exact H
      clear H
      have H := H1
      clear H1
      exact absurd H (by simp)
  ·rw [if_neg c82] at H
   have c82b0 : (t359 == 131072) = false := beq_eq_false_iff_ne.mpr c82
   have c82b1 : (t359 != 131072) = true := bne_iff_ne.mpr c82
   by_cases c117 : (wrap64 (131072 + (wrap64 (Int.tmod a0 68719345665)))) ≥ a1
   ·rw [if_pos c117] at H
    have c117b0 : decide (a1 ≤ (wrap64 (131072 + (wrap64 (Int.tmod a0 68719345665))))) = true := decide_eq_true c117
    clear c117
    by_cases c118 : t360 = (wrap64 (131072 + (wrap64 (Int.tmod a0 68719345665))))
    ·rw [if_pos c118] at H
     have c118b0 : (t360 == (wrap64 (131072 + (wrap64 (Int.tmod a0 68719345665))))) = true := beq_iff_eq.mpr c118
     have c118b1 : (t360 != (wrap64 (131072 + (wrap64 (Int.tmod a0 68719345665))))) = false := bne_eq_false_iff_eq.mpr c118
     clear c118
     by_cases c119 : t358 = true
     ·subst c119
      have H1 : (none) = some r := by rw [if_pos rfl] at H; exact H
      clear H
      have H := H1
      clear H1
      exact absurd H (by simp)
     ·replace c119 := Bool.eq_false_iff.mpr c119
      subst c119
      have H1 : (none) = some r := by rw [if_neg (show ¬ (false = true) by decide)] at H; exact H
      clear H
      have H := H1
      clear H1
      exact absurd H (by simp)
    ·rw [if_neg c118] at H
     have c118b0 : (t360 == (wrap64 (131072 + (wrap64 (Int.tmod a0 68719345665))))) = false := beq_eq_false_iff_ne.mpr c118
     have c118b1 : (t360 != (wrap64 (131072 + (wrap64 (Int.tmod a0 68719345665))))) = true := bne_iff_ne.mpr c118
     by_cases c120 : (wrap64 (131072 + (wrap64 (Int.tmod a0 68719345665)))) < a1
     ·rw [if_pos c120] at H
      have c120b0 : decide ((wrap64 (131072 + (wrap64 (Int.tmod a0 68719345665)))) < a1) = true := decide_eq_true c120
      clear c120
      by_cases c121 : (wrap64 (20 * t360)) ≤ (wrap64 (17 * (wrap64 (131072 + (wrap64 (Int.tmod a0 68719345665))))))
      ·rw [if_pos c121] at H
       have c121b0 : decide ((wrap64 (20 * t360)) ≤ (wrap64 (17 * (wrap64 (131072 + (wrap64 (Int.tmod a0 68719345665))))))) = true := decide_eq_true c121
       clear c121
       by_cases c122 : t358 = true
       ·subst c122
        have H1 : (none) = some r := by rw [if_pos rfl] at H; exact H
        clear H
        have H := H1
        clear H1
        exact absurd H (by simp)
       ·replace c122 := Bool.eq_false_iff.mpr c122
        subst c122
        have H1 : (none) = some r := by rw [if_neg (show ¬ (false = true) by decide)] at H; exact H
        clear H
        have H := H1
        clear H1
        exact absurd H (by simp)
      ·rw [if_neg c121] at H
       have c121b0 : decide ((wrap64 (20 * t360)) ≤ (wrap64 (17 * (wrap64 (131072 + (wrap64 (Int.tmod a0 68719345665))))))) = false := decide_eq_false c121
       clear c121
       by_cases c123 : t358 = true
       ·subst c123
        have H1 : (none) = some r := by rw [if_pos rfl] at H; exact H
        clear H
        have H := H1
        clear H1
        exact absurd H (by simp)
       ·replace c123 := Bool.eq_false_iff.mpr c123
        subst c123
        have H1 : (none) = some r := by rw [if_neg (show ¬ (false = true) by decide)] at H; exact H
        clear H
        have H := H1
        clear H1
        exact absurd H (by simp)
     ·rw [if_neg c120] at H
      have c120b0 : decide ((wrap64 (131072 + (wrap64 (Int.tmod a0 68719345665)))) < a1) = false := decide_eq_false c120
      clear c120
      by_cases c124 : t358 = true
      ·subst c124
       have H1 : (none) = some r := by rw [if_pos rfl] at H; exact H
       clear H
       have H := H1
       clear H1
       exact absurd H (by simp)
      ·replace c124 := Bool.eq_false_iff.mpr c124
       subst c124
       have H1 : (none) = some r := by rw [if_neg (show ¬ (false = true) by decide)] at H; exact H
       clear H
       have H := H1
       clear H1
       exact absurd H (by simp)
   ·rw [if_neg c117] at H
    have c117b0 : decide (a1 ≤ (wrap64 (131072 + (wrap64 (Int.tmod a0 68719345665))))) = false := decide_eq_false c117
    clear c117
    by_cases c125 : (wrap64 (131072 + (wrap64 (Int.tmod a0 68719345665)))) < a1
    ·rw [if_pos c125] at H
     have c125b0 : decide ((wrap64 (131072 + (wrap64 (Int.tmod a0 68719345665)))) < a1) = true := decide_eq_true c125
     clear c125
     by_cases c126 : (wrap64 (20 * t360)) ≤ (wrap64 (17 * (wrap64 (131072 + (wrap64 (Int.tmod a0 68719345665))))))
     ·rw [if_pos c126] at H
      have c126b0 : decide ((wrap64 (20 * t360)) ≤ (wrap64 (17 * (wrap64 (131072 + (wrap64 (Int.tmod a0 68719345665))))))) = true := decide_eq_true c126
      clear c126
      by_cases c127 : t358 = true
      ·subst c127
       have H1 : (none) = some r := by rw [if_pos rfl] at H; exact H
       clear H
       have H := H1
       clear H1
       exact absurd H (by simp)
      ·replace c127 := Bool.eq_false_iff.mpr c127
       subst c127
       have H1 : (none) = some r := by rw [if_neg (show ¬ (false = true) by decide)] at H; exact H
       clear H
       have H := H1
       clear H1
       exact absurd H (by simp)
     ·rw [if_neg c126] at H
      have c126b0 : decide ((wrap64 (20 * t360)) ≤ (wrap64 (17 * (wrap64 (131072 + (wrap64 (Int.tmod a0 68719345665))))))) = false := decide_eq_false c126
      clear c126
      by_cases c128 : t358 = true
      ·subst c128
       have H1 : (none) = some r := by rw [if_pos rfl] at H; exact H
       clear H
       have H := H1
       clear H1
       exact absurd H (by simp)
      ·replace c128 := Bool.eq_false_iff.mpr c128
       subst c128
       have H1 : (none) = some r := by rw [if_neg (show ¬ (false = true) by decide)] at H; exact H
       clear H
       have H := H1
       clear H1
       exact absurd H (by simp)
    ·rw [if_neg c125] at H
     have c125b0 : decide ((wrap64 (131072 + (wrap64 (Int.tmod a0 68719345665)))) < a1) = false := decide_eq_false c125
     clear c125
     by_cases c129 : t358 = true
     ·subst c129
      have H1 : (none) = some r := by rw [if_pos rfl] at H; exact H
      clear H
      have H := H1
      clear H1
      exact absurd H (by simp)
     ·replace c129 := Bool.eq_false_iff.mpr c129
      subst c129
      have H1 : (none) = some r := by rw [if_neg (show ¬ (false = true) by decide)] at H; exact H
      clear H
      have H := H1
      clear H1
      exact absurd H (by simp)

/-- THE ONE PURE STATEMENT of sawtoothlaw15_CutExact: yours. -/
def sawtoothlaw15_CutExact.Pure : Prop := ∀ (a0 : Int) (a1 : Int), (Lit.int .u64 a0).wf = true → (Lit.int .i64 a1).wf = true → sawtoothlaw15_CutExact.f a0 a1 = some true
theorem sawtoothlaw15_CutExact.walk (P : sawtoothlaw15_CutExact.Pure) (a0 : Int) (a1 : Int) (w : World) (w0 : (Lit.int .u64 a0).wf = true) (w1 : (Lit.int .i64 a1).wf = true) :
  Calls Try.prog 4 #[.int .u64 a0, .int .i64 a1] w fun e w' => e = .returned (.bool true) ∧ Below w.heap.size w w' := by
 have h := P a0 a1 w0 w1
 refine (sawtoothlaw15_CutExact.calls a0 a1 true w h).mono ?_
 rintro e w' ⟨rfl, hd⟩
 exact ⟨rfl, hd⟩

end Go.Proofs.Ytepmnfjcmppghaa.Px
