/-
  NARROWER THAN 'FOR EVERY INPUT', by the rows' own cells (each row's printed sentence says how): TopReal: laid · TopWindow: laid · TopPaced: laid.
  DERIVED. THE GIVEN ROWS OF THIS SEAT. 3 by the template 'for every input the law returns true; each argument reads behind the call as it read before'; 0 by the template 'total and deterministic' (their statements: YtfahbgkoldoflaaGreatDoorTotals.lean).
  GIVEN WITH THE SEED: the statements are not yours to turn. If you find one false, say at which input.
  Laid BY PROGRAM, IN A SANDBOX (cutbox-rows.mjs): the forced cells as the released guide's own fill.sh prints them over the translation a541c48820209c34… (all of the seat's roots in one cut). By AI agents, Wed Nov 11 2026. No macro, syntax, notation, axiom, sorry.
-/
import Derived.Test.YtfahbgkoldoflaaGreatDoorChecked
import GoSem.Claim
import GoSem.ClaimJoined
import GoSem.ClaimMapViews
import Derived.JoinedTies
import Derived.KernelRfl
namespace Go.Proofs.YtfahbgkoldoflaaGreatDoor
/- THE CELL 'sum', in the pinned program and in every row, IS THE sha256 OF THE DUMP (.gsa) THAT YtfahbgkoldoflaaGreatDoorProg.lean LOADS. Nothing in Lean hashes anything: it is a label: what it is worth is what the hold of that sum in a sandbox is worth. -/
noncomputable def Tryz.pinned : Pinned := { name := "ytfahbgkoldoflaagreatdoor", sum := "a541c48820209c34b27d17c28099d21da32adeb5f6afe40f30b2c20a5b44b3ff", checked := Tryz.checked }
namespace Rows
def none {H : Type} : Left H := { results := [], args := [] }

/- WHAT THE LISTED PACKAGE-LEVEL VARIABLES READ AS WHEN THE CALL BEGINS. Each datum BY PROGRAM (the guide's laid-datum.mjs) off the statement by which the dump's own 'gosem.cut.vars' lays the variable. In a bare row this is a premise. The card (YtfahbgkoldoflaaGreatDoorCards.lean) ties it to the program's text. -/
def laid_sawtooth_epoch_tens {H : Type} : DataW H := .agg [.lit (.int .u64 1000000000), .lit (.int .u64 10000000000)]

/-- 'sawtoothtop.TopReal': WHATEVER THE INPUT: true; the input reads as it did. -/
def topRealSpec : ChangeSpec := { name := "topReal", fn := fun _ => fun
  | [d1, d2, d3, d4, d5, d6, d7] => { results := [.lit (.bool true)], args := [d1, d2, d3, d4, d5, d6, d7] }
  | _ => none }
def topRealRow : OpenClaim := { program := "ytfahbgkoldoflaagreatdoor", sum := "a541c48820209c34b27d17c28099d21da32adeb5f6afe40f30b2c20a5b44b3ff", func := "sawtooth/sawtoothtop.TopReal", spec := "topReal", inPlace := ["math/bits.Sub64", "math/bits.Add64"], unfollowed := true, recurses := true, named := ["math/bits.divideError", "math/bits.overflowError", "sawtooth/epoch.tens"], apart := false, laid := [("sawtooth/epoch.tens", laid_sawtooth_epoch_tens)] }
def TopRealSaid : Prop := topRealRow.holds Tryz.pinned (OpenSpec.ofChange topRealSpec)

/-- ITS FALSE NEIGHBOUR: 'it returns false'. Refute it at one input. -/
def topRealWrong : ChangeSpec := { name := "topReal", fn := fun _ => fun
  | [d1, d2, d3, d4, d5, d6, d7] => { results := [.lit (.bool false)], args := [d1, d2, d3, d4, d5, d6, d7] }
  | _ => none }
def TopRealWrongFalsely : Prop := topRealRow.holds Tryz.pinned (OpenSpec.ofChange topRealWrong)

/-- 'sawtoothtop.TopWindow': WHATEVER THE INPUT: true; the input reads as it did. -/
def topWindowSpec : ChangeSpec := { name := "topWindow", fn := fun _ => fun
  | [d1, d2] => { results := [.lit (.bool true)], args := [d1, d2] }
  | _ => none }
def topWindowRow : OpenClaim := { program := "ytfahbgkoldoflaagreatdoor", sum := "a541c48820209c34b27d17c28099d21da32adeb5f6afe40f30b2c20a5b44b3ff", func := "sawtooth/sawtoothtop.TopWindow", spec := "topWindow", inPlace := ["math/bits.Sub64", "math/bits.Add64"], unfollowed := true, recurses := true, named := ["math/bits.divideError", "math/bits.overflowError", "sawtooth/epoch.tens"], apart := false, laid := [("sawtooth/epoch.tens", laid_sawtooth_epoch_tens)] }
def TopWindowSaid : Prop := topWindowRow.holds Tryz.pinned (OpenSpec.ofChange topWindowSpec)

/-- ITS FALSE NEIGHBOUR: 'it returns false'. Refute it at one input. -/
def topWindowWrong : ChangeSpec := { name := "topWindow", fn := fun _ => fun
  | [d1, d2] => { results := [.lit (.bool false)], args := [d1, d2] }
  | _ => none }
def TopWindowWrongFalsely : Prop := topWindowRow.holds Tryz.pinned (OpenSpec.ofChange topWindowWrong)

/-- 'sawtoothtop.TopPaced': WHATEVER THE INPUT: true; the input reads as it did. -/
def topPacedSpec : ChangeSpec := { name := "topPaced", fn := fun _ => fun
  | [d1, d2] => { results := [.lit (.bool true)], args := [d1, d2] }
  | _ => none }
def topPacedRow : OpenClaim := { program := "ytfahbgkoldoflaagreatdoor", sum := "a541c48820209c34b27d17c28099d21da32adeb5f6afe40f30b2c20a5b44b3ff", func := "sawtooth/sawtoothtop.TopPaced", spec := "topPaced", inPlace := ["math/bits.Sub64", "math/bits.Add64"], unfollowed := true, recurses := true, named := ["math/bits.divideError", "math/bits.overflowError", "sawtooth/epoch.tens"], apart := false, laid := [("sawtooth/epoch.tens", laid_sawtooth_epoch_tens)] }
def TopPacedSaid : Prop := topPacedRow.holds Tryz.pinned (OpenSpec.ofChange topPacedSpec)

/-- ITS FALSE NEIGHBOUR: 'it returns false'. Refute it at one input. -/
def topPacedWrong : ChangeSpec := { name := "topPaced", fn := fun _ => fun
  | [d1, d2] => { results := [.lit (.bool false)], args := [d1, d2] }
  | _ => none }
def TopPacedWrongFalsely : Prop := topPacedRow.holds Tryz.pinned (OpenSpec.ofChange topPacedWrong)

/- THE SECOND FORM. 'bulk': how many values and letters a reading holds, each counted each time it is reached (what is shared counts as often as it is met; a slice's spare places count too). A statement '..UptoSaid' is the law's where the arguments, and the package variables that the reading takes, are together of bulk at most 1048576: NARROWER than '..Said'. Prove '..Said' where nothing that the law and all that it calls make is longer than what came in: it says more and counts as full. Else prove '..UptoSaid'. A law counts once. -/
mutual
def uptoBulk {H : Type} : DataW H → Nat
  | .lit (.string bytes) => bytes.length + 1
  | .lit _ => 1
  | .nil => 1
  | .ptr d => uptoBulk d + 1
  | .slice elems spare => uptoBulkAll elems + uptoBulkAll spare + 1
  | .agg parts => uptoBulkAll parts + 1
  | .iface _ d => uptoBulk d + 1
  | .map entries => uptoBulkEntries entries + 1
  | .held _ => 1
def uptoBulkAll {H : Type} : List (DataW H) → Nat
  | [] => 0
  | d :: r => uptoBulk d + uptoBulkAll r
def uptoBulkEntries {H : Type} : List (Lit × DataW H) → Nat
  | [] => 0
  | x :: r => uptoBulkEntry x + uptoBulkEntries r
def uptoBulkEntry {H : Type} : Lit × DataW H → Nat
  | (.string bytes, d) => bytes.length + uptoBulk d + 1
  | (_, d) => uptoBulk d + 1
 end
def uptoSmall : (H : Type) → List (DataW H) → Bool := fun _ ds => decide (uptoBulkAll ds ≤ 1048576)
def OpenSpec.upto (s : _root_.Go.ChangeSpec) : _root_.Go.OpenSpec := { _root_.Go.OpenSpec.ofChange s with cond := some uptoSmall }

/-- 'sawtoothtop.TopReal', WHERE WHAT IT READS IS OF BULK AT MOST 1048576: true; the input reads as it did. -/
def topRealUptoRow : OpenClaim := { program := "ytfahbgkoldoflaagreatdoor", sum := "a541c48820209c34b27d17c28099d21da32adeb5f6afe40f30b2c20a5b44b3ff", func := "sawtooth/sawtoothtop.TopReal", spec := "topReal", inPlace := ["math/bits.Sub64", "math/bits.Add64"], unfollowed := true, recurses := true, named := ["math/bits.divideError", "math/bits.overflowError", "sawtooth/epoch.tens"], apart := false, laid := [("sawtooth/epoch.tens", laid_sawtooth_epoch_tens)], narrowed := true }
def TopRealUptoSaid : Prop := topRealUptoRow.holds Tryz.pinned (OpenSpec.upto topRealSpec)

/-- 'sawtoothtop.TopWindow', WHERE WHAT IT READS IS OF BULK AT MOST 1048576: true; the input reads as it did. -/
def topWindowUptoRow : OpenClaim := { program := "ytfahbgkoldoflaagreatdoor", sum := "a541c48820209c34b27d17c28099d21da32adeb5f6afe40f30b2c20a5b44b3ff", func := "sawtooth/sawtoothtop.TopWindow", spec := "topWindow", inPlace := ["math/bits.Sub64", "math/bits.Add64"], unfollowed := true, recurses := true, named := ["math/bits.divideError", "math/bits.overflowError", "sawtooth/epoch.tens"], apart := false, laid := [("sawtooth/epoch.tens", laid_sawtooth_epoch_tens)], narrowed := true }
def TopWindowUptoSaid : Prop := topWindowUptoRow.holds Tryz.pinned (OpenSpec.upto topWindowSpec)

/-- 'sawtoothtop.TopPaced', WHERE WHAT IT READS IS OF BULK AT MOST 1048576: true; the input reads as it did. -/
def topPacedUptoRow : OpenClaim := { program := "ytfahbgkoldoflaagreatdoor", sum := "a541c48820209c34b27d17c28099d21da32adeb5f6afe40f30b2c20a5b44b3ff", func := "sawtooth/sawtoothtop.TopPaced", spec := "topPaced", inPlace := ["math/bits.Sub64", "math/bits.Add64"], unfollowed := true, recurses := true, named := ["math/bits.divideError", "math/bits.overflowError", "sawtooth/epoch.tens"], apart := false, laid := [("sawtooth/epoch.tens", laid_sawtooth_epoch_tens)], narrowed := true }
def TopPacedUptoSaid : Prop := topPacedUptoRow.holds Tryz.pinned (OpenSpec.upto topPacedSpec)

end Rows
end Go.Proofs.YtfahbgkoldoflaaGreatDoor
