/- By hand. Conditions: none beside the theorems' own. -/
import Derived.Test.YtfahbgkoldoflaaGreatDoorSpec
import Derived.LoopN
import Derived.Test.YtfahbgkoldoflaaGreatDoorPx0
import Derived.Test.YtfahbgkoldoflaaGreatDoorPx7
namespace Go.Proofs.YtfahbgkoldoflaaGreatDoor.Px
open Go.RowKit Go.Proofs.YtfahbgkoldoflaaGreatDoorW.PrintWords Go.Proofs.YtfahbgkoldoflaaGreatDoorW.PrintLast Go.Proofs.YtfahbgkoldoflaaGreatDoorW.PrintMore
attribute [local go_sem] max2_int min2_int max_two min_two max_three min_three max_four min_four   -- for this text's walks alone
set_option linter.unusedVariables false
set_option linter.unusedSimpArgs false

/-! ### least_Check: function 67 -/
/-! top: by hand -/
/-- No marks at all: of others nothing is said. -/
noncomputable def least_Check.f (l : List S119) : Option Bool := Sp.need (l = []) (some true)
set_option maxRecDepth 100000 in
set_option maxHeartbeats 1000000 in
theorem least_Check.none (c : Nat) (A : Option Addr) (w : World) : Calls Tryz.prog 67 #[.slice A 0 c] w fun e w' => e = .returned (.bool true) ∧ Below w.heap.size w w' := by
  go_enter Tryz.func67, Tryz.ntmps67
  go_wp2
  go_loopg [7] 0 (fun kq v7 wr => v7 = .int .i64 0 ∧ Aside0 (kq = 0) ∧ wr = w)
  case atStart => exact ⟨rfl, ⟨rfl⟩, rfl⟩
  case round =>
    obtain ⟨rfl, HI, rfl⟩ := hrel
    have h0 : gk = 0 := HI.out
    subst h0
    go_wp2
    go_ret
    exact ⟨rfl, Below.refl _ _⟩
theorem least_Check.calls (A0 : Option Addr) (c0 : Nat) (l0 : List S119) (r : Bool) (w : World) (hr0 : Kd.C k119 w A0 l0.length l0) (hc0 : l0.length ≤ c0) (h : least_Check.f l0 = some r) :
    Calls Tryz.prog 67 #[.slice A0 l0.length c0] w fun e w' => e = .returned (.bool r) ∧ Below w.heap.size w w' := by
  replace h := Sp.need_some h
  obtain ⟨rfl, h⟩ := h
  obtain rfl := Option.some.inj h
  exact least_Check.none c0 A0 w

end Go.Proofs.YtfahbgkoldoflaaGreatDoor.Px
