/-
  No cell of these rows narrows 'for every input' (looked for: loops, veiled, ifaces, maps, wideKeys, modest, calm, conditions, laid).
  DERIVED. THE GIVEN ROWS OF THIS SEAT. 12 by the template 'for every input the law returns true; each argument reads behind the call as it read before'; 0 by the template 'total and deterministic' (their statements: YtkoeehacildioaaTotals.lean).
  GIVEN WITH THE SEED: the statements are not yours to turn. If you find one false, say at which input.
  Laid BY PROGRAM, IN A SANDBOX (cutbox-rows.mjs): the forced cells as the released guide's own fill.sh prints them over the translation be2ad4e4612a68d4… (all of the seat's roots in one cut). By AI agents, Wed Nov 11 2026. No macro, syntax, notation, axiom, sorry.
-/
import Derived.Test.YtkoeehacildioaaChecked
import GoSem.Claim
import GoSem.ClaimJoined
import GoSem.ClaimMapViews
import Derived.JoinedTies
import Derived.KernelRfl
namespace Go.Proofs.Ytkoeehacildioaa
/- THE CELL 'sum', in the pinned program and in every row, IS THE sha256 OF THE DUMP (.gsa) THAT YtkoeehacildioaaProg.lean LOADS. Nothing in Lean hashes anything: it is a label: what it is worth is what the hold of that sum in a sandbox is worth. -/
noncomputable def Try.pinned : Pinned := { name := "ytkoeehacildioaa", sum := "be2ad4e4612a68d467c92371f1a8baa60772db1cf9871b93a2bfedb3b3126e7d", checked := Try.checked }
namespace Rows
def none {H : Type} : Left H := { results := [], args := [] }

/-- 'sawtoothlaw02.BigTells': WHATEVER THE INPUT: true; the input reads as it did. -/
def bigTellsSpec : ChangeSpec := { name := "bigTells", fn := fun _ => fun
  | [d1, d2, d3, d4, d5] => { results := [.lit (.bool true)], args := [d1, d2, d3, d4, d5] }
  | _ => none }
def bigTellsRow : OpenClaim := { program := "ytkoeehacildioaa", sum := "be2ad4e4612a68d467c92371f1a8baa60772db1cf9871b93a2bfedb3b3126e7d", func := "sawtooth/sawtoothlaw02.BigTells", spec := "bigTells", inPlace := ["math/bits.Sub64", "math/bits.Add64"], unfollowed := true, recurses := true, named := ["math/bits.divideError", "math/bits.overflowError"], apart := false }
def BigTellsSaid : Prop := bigTellsRow.holds Try.pinned (OpenSpec.ofChange bigTellsSpec)

/-- ITS FALSE NEIGHBOUR: 'it returns false'. Refute it at one input. -/
def bigTellsWrong : ChangeSpec := { name := "bigTells", fn := fun _ => fun
  | [d1, d2, d3, d4, d5] => { results := [.lit (.bool false)], args := [d1, d2, d3, d4, d5] }
  | _ => none }
def BigTellsWrongFalsely : Prop := bigTellsRow.holds Try.pinned (OpenSpec.ofChange bigTellsWrong)

/-- 'sawtoothlaw02.BigBack': WHATEVER THE INPUT: true; the input reads as it did. -/
def bigBackSpec : ChangeSpec := { name := "bigBack", fn := fun _ => fun
  | [d1, d2] => { results := [.lit (.bool true)], args := [d1, d2] }
  | _ => none }
def bigBackRow : OpenClaim := { program := "ytkoeehacildioaa", sum := "be2ad4e4612a68d467c92371f1a8baa60772db1cf9871b93a2bfedb3b3126e7d", func := "sawtooth/sawtoothlaw02.BigBack", spec := "bigBack", inPlace := ["math/bits.Sub64", "math/bits.Add64"], unfollowed := true, recurses := true, named := ["math/bits.divideError", "math/bits.overflowError"], apart := false }
def BigBackSaid : Prop := bigBackRow.holds Try.pinned (OpenSpec.ofChange bigBackSpec)

/-- ITS FALSE NEIGHBOUR: 'it returns false'. Refute it at one input. -/
def bigBackWrong : ChangeSpec := { name := "bigBack", fn := fun _ => fun
  | [d1, d2] => { results := [.lit (.bool false)], args := [d1, d2] }
  | _ => none }
def BigBackWrongFalsely : Prop := bigBackRow.holds Try.pinned (OpenSpec.ofChange bigBackWrong)

/-- 'sawtoothlaw02.BigDivides': WHATEVER THE INPUT: true; the input reads as it did. -/
def bigDividesSpec : ChangeSpec := { name := "bigDivides", fn := fun _ => fun
  | [d1, d2] => { results := [.lit (.bool true)], args := [d1, d2] }
  | _ => none }
def bigDividesRow : OpenClaim := { program := "ytkoeehacildioaa", sum := "be2ad4e4612a68d467c92371f1a8baa60772db1cf9871b93a2bfedb3b3126e7d", func := "sawtooth/sawtoothlaw02.BigDivides", spec := "bigDivides", inPlace := ["math/bits.Sub64", "math/bits.Add64"], unfollowed := true, recurses := true, named := ["math/bits.divideError", "math/bits.overflowError"], apart := false }
def BigDividesSaid : Prop := bigDividesRow.holds Try.pinned (OpenSpec.ofChange bigDividesSpec)

/-- ITS FALSE NEIGHBOUR: 'it returns false'. Refute it at one input. -/
def bigDividesWrong : ChangeSpec := { name := "bigDivides", fn := fun _ => fun
  | [d1, d2] => { results := [.lit (.bool false)], args := [d1, d2] }
  | _ => none }
def BigDividesWrongFalsely : Prop := bigDividesRow.holds Try.pinned (OpenSpec.ofChange bigDividesWrong)

/-- 'sawtoothlaw02.BigProducts': WHATEVER THE INPUT: true; the input reads as it did. -/
def bigProductsSpec : ChangeSpec := { name := "bigProducts", fn := fun _ => fun
  | [d1, d2, d3, d4] => { results := [.lit (.bool true)], args := [d1, d2, d3, d4] }
  | _ => none }
def bigProductsRow : OpenClaim := { program := "ytkoeehacildioaa", sum := "be2ad4e4612a68d467c92371f1a8baa60772db1cf9871b93a2bfedb3b3126e7d", func := "sawtooth/sawtoothlaw02.BigProducts", spec := "bigProducts", inPlace := ["math/bits.Sub64", "math/bits.Add64"], unfollowed := true, recurses := true, named := ["math/bits.divideError", "math/bits.overflowError"], apart := false }
def BigProductsSaid : Prop := bigProductsRow.holds Try.pinned (OpenSpec.ofChange bigProductsSpec)

/-- ITS FALSE NEIGHBOUR: 'it returns false'. Refute it at one input. -/
def bigProductsWrong : ChangeSpec := { name := "bigProducts", fn := fun _ => fun
  | [d1, d2, d3, d4] => { results := [.lit (.bool false)], args := [d1, d2, d3, d4] }
  | _ => none }
def BigProductsWrongFalsely : Prop := bigProductsRow.holds Try.pinned (OpenSpec.ofChange bigProductsWrong)

/-- 'sawtoothlaw02.BigOrder': WHATEVER THE INPUT: true; the input reads as it did. -/
def bigOrderSpec : ChangeSpec := { name := "bigOrder", fn := fun _ => fun
  | [d1, d2, d3, d4, d5] => { results := [.lit (.bool true)], args := [d1, d2, d3, d4, d5] }
  | _ => none }
def bigOrderRow : OpenClaim := { program := "ytkoeehacildioaa", sum := "be2ad4e4612a68d467c92371f1a8baa60772db1cf9871b93a2bfedb3b3126e7d", func := "sawtooth/sawtoothlaw02.BigOrder", spec := "bigOrder", inPlace := ["math/bits.Sub64", "math/bits.Add64"], unfollowed := true, recurses := true, named := ["math/bits.divideError", "math/bits.overflowError"], apart := false }
def BigOrderSaid : Prop := bigOrderRow.holds Try.pinned (OpenSpec.ofChange bigOrderSpec)

/-- ITS FALSE NEIGHBOUR: 'it returns false'. Refute it at one input. -/
def bigOrderWrong : ChangeSpec := { name := "bigOrder", fn := fun _ => fun
  | [d1, d2, d3, d4, d5] => { results := [.lit (.bool false)], args := [d1, d2, d3, d4, d5] }
  | _ => none }
def BigOrderWrongFalsely : Prop := bigOrderRow.holds Try.pinned (OpenSpec.ofChange bigOrderWrong)

/-- 'sawtoothlaw02.BigInts': WHATEVER THE INPUT: true; the input reads as it did. -/
def bigIntsSpec : ChangeSpec := { name := "bigInts", fn := fun _ => fun
  | [d1, d2] => { results := [.lit (.bool true)], args := [d1, d2] }
  | _ => none }
def bigIntsRow : OpenClaim := { program := "ytkoeehacildioaa", sum := "be2ad4e4612a68d467c92371f1a8baa60772db1cf9871b93a2bfedb3b3126e7d", func := "sawtooth/sawtoothlaw02.BigInts", spec := "bigInts", inPlace := ["math/bits.Sub64", "math/bits.Add64"], unfollowed := true, recurses := true, named := ["math/bits.divideError", "math/bits.overflowError"], apart := false }
def BigIntsSaid : Prop := bigIntsRow.holds Try.pinned (OpenSpec.ofChange bigIntsSpec)

/-- ITS FALSE NEIGHBOUR: 'it returns false'. Refute it at one input. -/
def bigIntsWrong : ChangeSpec := { name := "bigInts", fn := fun _ => fun
  | [d1, d2] => { results := [.lit (.bool false)], args := [d1, d2] }
  | _ => none }
def BigIntsWrongFalsely : Prop := bigIntsRow.holds Try.pinned (OpenSpec.ofChange bigIntsWrong)

/-- 'sawtoothlaw04.FracTells': WHATEVER THE INPUT: true; the input reads as it did. -/
def fracTellsSpec : ChangeSpec := { name := "fracTells", fn := fun _ => fun
  | [d1, d2, d3] => { results := [.lit (.bool true)], args := [d1, d2, d3] }
  | _ => none }
def fracTellsRow : OpenClaim := { program := "ytkoeehacildioaa", sum := "be2ad4e4612a68d467c92371f1a8baa60772db1cf9871b93a2bfedb3b3126e7d", func := "sawtooth/sawtoothlaw04.FracTells", spec := "fracTells", inPlace := ["math/bits.Sub64", "math/bits.Add64"], unfollowed := true, recurses := true, named := ["math/bits.divideError", "math/bits.overflowError"], apart := false }
def FracTellsSaid : Prop := fracTellsRow.holds Try.pinned (OpenSpec.ofChange fracTellsSpec)

/-- ITS FALSE NEIGHBOUR: 'it returns false'. Refute it at one input. -/
def fracTellsWrong : ChangeSpec := { name := "fracTells", fn := fun _ => fun
  | [d1, d2, d3] => { results := [.lit (.bool false)], args := [d1, d2, d3] }
  | _ => none }
def FracTellsWrongFalsely : Prop := fracTellsRow.holds Try.pinned (OpenSpec.ofChange fracTellsWrong)

/-- 'sawtoothlaw04.FracParts': WHATEVER THE INPUT: true; the input reads as it did. -/
def fracPartsSpec : ChangeSpec := { name := "fracParts", fn := fun _ => fun
  | [d1, d2, d3] => { results := [.lit (.bool true)], args := [d1, d2, d3] }
  | _ => none }
def fracPartsRow : OpenClaim := { program := "ytkoeehacildioaa", sum := "be2ad4e4612a68d467c92371f1a8baa60772db1cf9871b93a2bfedb3b3126e7d", func := "sawtooth/sawtoothlaw04.FracParts", spec := "fracParts", inPlace := ["math/bits.Sub64", "math/bits.Add64"], unfollowed := true, recurses := true, named := ["math/bits.divideError", "math/bits.overflowError"], apart := false }
def FracPartsSaid : Prop := fracPartsRow.holds Try.pinned (OpenSpec.ofChange fracPartsSpec)

/-- ITS FALSE NEIGHBOUR: 'it returns false'. Refute it at one input. -/
def fracPartsWrong : ChangeSpec := { name := "fracParts", fn := fun _ => fun
  | [d1, d2, d3] => { results := [.lit (.bool false)], args := [d1, d2, d3] }
  | _ => none }
def FracPartsWrongFalsely : Prop := fracPartsRow.holds Try.pinned (OpenSpec.ofChange fracPartsWrong)

/-- 'sawtoothlaw04.FracTurns': WHATEVER THE INPUT: true; the input reads as it did. -/
def fracTurnsSpec : ChangeSpec := { name := "fracTurns", fn := fun _ => fun
  | [d1, d2, d3] => { results := [.lit (.bool true)], args := [d1, d2, d3] }
  | _ => none }
def fracTurnsRow : OpenClaim := { program := "ytkoeehacildioaa", sum := "be2ad4e4612a68d467c92371f1a8baa60772db1cf9871b93a2bfedb3b3126e7d", func := "sawtooth/sawtoothlaw04.FracTurns", spec := "fracTurns", inPlace := ["math/bits.Sub64", "math/bits.Add64"], unfollowed := true, recurses := true, named := ["math/bits.divideError", "math/bits.overflowError"], apart := false }
def FracTurnsSaid : Prop := fracTurnsRow.holds Try.pinned (OpenSpec.ofChange fracTurnsSpec)

/-- ITS FALSE NEIGHBOUR: 'it returns false'. Refute it at one input. -/
def fracTurnsWrong : ChangeSpec := { name := "fracTurns", fn := fun _ => fun
  | [d1, d2, d3] => { results := [.lit (.bool false)], args := [d1, d2, d3] }
  | _ => none }
def FracTurnsWrongFalsely : Prop := fracTurnsRow.holds Try.pinned (OpenSpec.ofChange fracTurnsWrong)

/-- 'sawtoothlaw04.FracBytes': WHATEVER THE INPUT: true; the input reads as it did. -/
def fracBytesSpec : ChangeSpec := { name := "fracBytes", fn := fun _ => fun
  | [d1, d2] => { results := [.lit (.bool true)], args := [d1, d2] }
  | _ => none }
def fracBytesRow : OpenClaim := { program := "ytkoeehacildioaa", sum := "be2ad4e4612a68d467c92371f1a8baa60772db1cf9871b93a2bfedb3b3126e7d", func := "sawtooth/sawtoothlaw04.FracBytes", spec := "fracBytes", inPlace := ["math/bits.Sub64", "math/bits.Add64"], unfollowed := true, recurses := true, named := ["math/bits.divideError", "math/bits.overflowError"], apart := false }
def FracBytesSaid : Prop := fracBytesRow.holds Try.pinned (OpenSpec.ofChange fracBytesSpec)

/-- ITS FALSE NEIGHBOUR: 'it returns false'. Refute it at one input. -/
def fracBytesWrong : ChangeSpec := { name := "fracBytes", fn := fun _ => fun
  | [d1, d2] => { results := [.lit (.bool false)], args := [d1, d2] }
  | _ => none }
def FracBytesWrongFalsely : Prop := fracBytesRow.holds Try.pinned (OpenSpec.ofChange fracBytesWrong)

/-- 'sawtoothlaw04.FracRises': WHATEVER THE INPUT: true; the input reads as it did. -/
def fracRisesSpec : ChangeSpec := { name := "fracRises", fn := fun _ => fun
  | [d1, d2, d3, d4, d5] => { results := [.lit (.bool true)], args := [d1, d2, d3, d4, d5] }
  | _ => none }
def fracRisesRow : OpenClaim := { program := "ytkoeehacildioaa", sum := "be2ad4e4612a68d467c92371f1a8baa60772db1cf9871b93a2bfedb3b3126e7d", func := "sawtooth/sawtoothlaw04.FracRises", spec := "fracRises", inPlace := ["math/bits.Sub64", "math/bits.Add64"], unfollowed := true, recurses := true, named := ["math/bits.divideError", "math/bits.overflowError"], apart := false }
def FracRisesSaid : Prop := fracRisesRow.holds Try.pinned (OpenSpec.ofChange fracRisesSpec)

/-- ITS FALSE NEIGHBOUR: 'it returns false'. Refute it at one input. -/
def fracRisesWrong : ChangeSpec := { name := "fracRises", fn := fun _ => fun
  | [d1, d2, d3, d4, d5] => { results := [.lit (.bool false)], args := [d1, d2, d3, d4, d5] }
  | _ => none }
def FracRisesWrongFalsely : Prop := fracRisesRow.holds Try.pinned (OpenSpec.ofChange fracRisesWrong)

/-- 'sawtoothlaw04.FracWholes': WHATEVER THE INPUT: true; the input reads as it did. -/
def fracWholesSpec : ChangeSpec := { name := "fracWholes", fn := fun _ => fun
  | [d1, d2] => { results := [.lit (.bool true)], args := [d1, d2] }
  | _ => none }
def fracWholesRow : OpenClaim := { program := "ytkoeehacildioaa", sum := "be2ad4e4612a68d467c92371f1a8baa60772db1cf9871b93a2bfedb3b3126e7d", func := "sawtooth/sawtoothlaw04.FracWholes", spec := "fracWholes", inPlace := ["math/bits.Sub64", "math/bits.Add64"], unfollowed := true, recurses := true, named := ["math/bits.divideError", "math/bits.overflowError"], apart := false }
def FracWholesSaid : Prop := fracWholesRow.holds Try.pinned (OpenSpec.ofChange fracWholesSpec)

/-- ITS FALSE NEIGHBOUR: 'it returns false'. Refute it at one input. -/
def fracWholesWrong : ChangeSpec := { name := "fracWholes", fn := fun _ => fun
  | [d1, d2] => { results := [.lit (.bool false)], args := [d1, d2] }
  | _ => none }
def FracWholesWrongFalsely : Prop := fracWholesRow.holds Try.pinned (OpenSpec.ofChange fracWholesWrong)

/- THE SECOND FORM. 'bulk': how many values and letters a reading holds, each counted each time it is reached (what is shared counts as often as it is met; a slice's spare places count too). A statement '..UptoSaid' is the law's where the arguments, and the package variables that the reading takes, are together of bulk at most 1048576: NARROWER than '..Said'. Prove '..Said' where nothing that the law and all that it calls make is longer than what came in: it says more and counts as full. Else prove '..UptoSaid'. A law counts once. -/
mutual
def uptoBulk {H : Type} : DataW H → Nat
  | .lit (.string bytes) => bytes.length + 1
  | .lit _ => 1
  | .nil => 1
  | .ptr d => uptoBulk d + 1
  | .slice elems spare => uptoBulkAll elems + uptoBulkAll spare + 1
  | .agg parts => uptoBulkAll parts + 1
  | .iface _ d => uptoBulk d + 1
  | .map entries => uptoBulkEntries entries + 1
  | .held _ => 1
def uptoBulkAll {H : Type} : List (DataW H) → Nat
  | [] => 0
  | d :: r => uptoBulk d + uptoBulkAll r
def uptoBulkEntries {H : Type} : List (Lit × DataW H) → Nat
  | [] => 0
  | x :: r => uptoBulkEntry x + uptoBulkEntries r
def uptoBulkEntry {H : Type} : Lit × DataW H → Nat
  | (.string bytes, d) => bytes.length + uptoBulk d + 1
  | (_, d) => uptoBulk d + 1
 end
def uptoSmall : (H : Type) → List (DataW H) → Bool := fun _ ds => decide (uptoBulkAll ds ≤ 1048576)
def OpenSpec.upto (s : _root_.Go.ChangeSpec) : _root_.Go.OpenSpec := { _root_.Go.OpenSpec.ofChange s with cond := some uptoSmall }

/-- 'sawtoothlaw02.BigTells', WHERE WHAT IT READS IS OF BULK AT MOST 1048576: true; the input reads as it did. -/
def bigTellsUptoRow : OpenClaim := { program := "ytkoeehacildioaa", sum := "be2ad4e4612a68d467c92371f1a8baa60772db1cf9871b93a2bfedb3b3126e7d", func := "sawtooth/sawtoothlaw02.BigTells", spec := "bigTells", inPlace := ["math/bits.Sub64", "math/bits.Add64"], unfollowed := true, recurses := true, named := ["math/bits.divideError", "math/bits.overflowError"], apart := false, narrowed := true }
def BigTellsUptoSaid : Prop := bigTellsUptoRow.holds Try.pinned (OpenSpec.upto bigTellsSpec)

/-- 'sawtoothlaw02.BigBack', WHERE WHAT IT READS IS OF BULK AT MOST 1048576: true; the input reads as it did. -/
def bigBackUptoRow : OpenClaim := { program := "ytkoeehacildioaa", sum := "be2ad4e4612a68d467c92371f1a8baa60772db1cf9871b93a2bfedb3b3126e7d", func := "sawtooth/sawtoothlaw02.BigBack", spec := "bigBack", inPlace := ["math/bits.Sub64", "math/bits.Add64"], unfollowed := true, recurses := true, named := ["math/bits.divideError", "math/bits.overflowError"], apart := false, narrowed := true }
def BigBackUptoSaid : Prop := bigBackUptoRow.holds Try.pinned (OpenSpec.upto bigBackSpec)

/-- 'sawtoothlaw02.BigDivides', WHERE WHAT IT READS IS OF BULK AT MOST 1048576: true; the input reads as it did. -/
def bigDividesUptoRow : OpenClaim := { program := "ytkoeehacildioaa", sum := "be2ad4e4612a68d467c92371f1a8baa60772db1cf9871b93a2bfedb3b3126e7d", func := "sawtooth/sawtoothlaw02.BigDivides", spec := "bigDivides", inPlace := ["math/bits.Sub64", "math/bits.Add64"], unfollowed := true, recurses := true, named := ["math/bits.divideError", "math/bits.overflowError"], apart := false, narrowed := true }
def BigDividesUptoSaid : Prop := bigDividesUptoRow.holds Try.pinned (OpenSpec.upto bigDividesSpec)

/-- 'sawtoothlaw02.BigProducts', WHERE WHAT IT READS IS OF BULK AT MOST 1048576: true; the input reads as it did. -/
def bigProductsUptoRow : OpenClaim := { program := "ytkoeehacildioaa", sum := "be2ad4e4612a68d467c92371f1a8baa60772db1cf9871b93a2bfedb3b3126e7d", func := "sawtooth/sawtoothlaw02.BigProducts", spec := "bigProducts", inPlace := ["math/bits.Sub64", "math/bits.Add64"], unfollowed := true, recurses := true, named := ["math/bits.divideError", "math/bits.overflowError"], apart := false, narrowed := true }
def BigProductsUptoSaid : Prop := bigProductsUptoRow.holds Try.pinned (OpenSpec.upto bigProductsSpec)

/-- 'sawtoothlaw02.BigOrder', WHERE WHAT IT READS IS OF BULK AT MOST 1048576: true; the input reads as it did. -/
def bigOrderUptoRow : OpenClaim := { program := "ytkoeehacildioaa", sum := "be2ad4e4612a68d467c92371f1a8baa60772db1cf9871b93a2bfedb3b3126e7d", func := "sawtooth/sawtoothlaw02.BigOrder", spec := "bigOrder", inPlace := ["math/bits.Sub64", "math/bits.Add64"], unfollowed := true, recurses := true, named := ["math/bits.divideError", "math/bits.overflowError"], apart := false, narrowed := true }
def BigOrderUptoSaid : Prop := bigOrderUptoRow.holds Try.pinned (OpenSpec.upto bigOrderSpec)

/-- 'sawtoothlaw02.BigInts', WHERE WHAT IT READS IS OF BULK AT MOST 1048576: true; the input reads as it did. -/
def bigIntsUptoRow : OpenClaim := { program := "ytkoeehacildioaa", sum := "be2ad4e4612a68d467c92371f1a8baa60772db1cf9871b93a2bfedb3b3126e7d", func := "sawtooth/sawtoothlaw02.BigInts", spec := "bigInts", inPlace := ["math/bits.Sub64", "math/bits.Add64"], unfollowed := true, recurses := true, named := ["math/bits.divideError", "math/bits.overflowError"], apart := false, narrowed := true }
def BigIntsUptoSaid : Prop := bigIntsUptoRow.holds Try.pinned (OpenSpec.upto bigIntsSpec)

/-- 'sawtoothlaw04.FracTells', WHERE WHAT IT READS IS OF BULK AT MOST 1048576: true; the input reads as it did. -/
def fracTellsUptoRow : OpenClaim := { program := "ytkoeehacildioaa", sum := "be2ad4e4612a68d467c92371f1a8baa60772db1cf9871b93a2bfedb3b3126e7d", func := "sawtooth/sawtoothlaw04.FracTells", spec := "fracTells", inPlace := ["math/bits.Sub64", "math/bits.Add64"], unfollowed := true, recurses := true, named := ["math/bits.divideError", "math/bits.overflowError"], apart := false, narrowed := true }
def FracTellsUptoSaid : Prop := fracTellsUptoRow.holds Try.pinned (OpenSpec.upto fracTellsSpec)

/-- 'sawtoothlaw04.FracParts', WHERE WHAT IT READS IS OF BULK AT MOST 1048576: true; the input reads as it did. -/
def fracPartsUptoRow : OpenClaim := { program := "ytkoeehacildioaa", sum := "be2ad4e4612a68d467c92371f1a8baa60772db1cf9871b93a2bfedb3b3126e7d", func := "sawtooth/sawtoothlaw04.FracParts", spec := "fracParts", inPlace := ["math/bits.Sub64", "math/bits.Add64"], unfollowed := true, recurses := true, named := ["math/bits.divideError", "math/bits.overflowError"], apart := false, narrowed := true }
def FracPartsUptoSaid : Prop := fracPartsUptoRow.holds Try.pinned (OpenSpec.upto fracPartsSpec)

/-- 'sawtoothlaw04.FracTurns', WHERE WHAT IT READS IS OF BULK AT MOST 1048576: true; the input reads as it did. -/
def fracTurnsUptoRow : OpenClaim := { program := "ytkoeehacildioaa", sum := "be2ad4e4612a68d467c92371f1a8baa60772db1cf9871b93a2bfedb3b3126e7d", func := "sawtooth/sawtoothlaw04.FracTurns", spec := "fracTurns", inPlace := ["math/bits.Sub64", "math/bits.Add64"], unfollowed := true, recurses := true, named := ["math/bits.divideError", "math/bits.overflowError"], apart := false, narrowed := true }
def FracTurnsUptoSaid : Prop := fracTurnsUptoRow.holds Try.pinned (OpenSpec.upto fracTurnsSpec)

/-- 'sawtoothlaw04.FracBytes', WHERE WHAT IT READS IS OF BULK AT MOST 1048576: true; the input reads as it did. -/
def fracBytesUptoRow : OpenClaim := { program := "ytkoeehacildioaa", sum := "be2ad4e4612a68d467c92371f1a8baa60772db1cf9871b93a2bfedb3b3126e7d", func := "sawtooth/sawtoothlaw04.FracBytes", spec := "fracBytes", inPlace := ["math/bits.Sub64", "math/bits.Add64"], unfollowed := true, recurses := true, named := ["math/bits.divideError", "math/bits.overflowError"], apart := false, narrowed := true }
def FracBytesUptoSaid : Prop := fracBytesUptoRow.holds Try.pinned (OpenSpec.upto fracBytesSpec)

/-- 'sawtoothlaw04.FracRises', WHERE WHAT IT READS IS OF BULK AT MOST 1048576: true; the input reads as it did. -/
def fracRisesUptoRow : OpenClaim := { program := "ytkoeehacildioaa", sum := "be2ad4e4612a68d467c92371f1a8baa60772db1cf9871b93a2bfedb3b3126e7d", func := "sawtooth/sawtoothlaw04.FracRises", spec := "fracRises", inPlace := ["math/bits.Sub64", "math/bits.Add64"], unfollowed := true, recurses := true, named := ["math/bits.divideError", "math/bits.overflowError"], apart := false, narrowed := true }
def FracRisesUptoSaid : Prop := fracRisesUptoRow.holds Try.pinned (OpenSpec.upto fracRisesSpec)

/-- 'sawtoothlaw04.FracWholes', WHERE WHAT IT READS IS OF BULK AT MOST 1048576: true; the input reads as it did. -/
def fracWholesUptoRow : OpenClaim := { program := "ytkoeehacildioaa", sum := "be2ad4e4612a68d467c92371f1a8baa60772db1cf9871b93a2bfedb3b3126e7d", func := "sawtooth/sawtoothlaw04.FracWholes", spec := "fracWholes", inPlace := ["math/bits.Sub64", "math/bits.Add64"], unfollowed := true, recurses := true, named := ["math/bits.divideError", "math/bits.overflowError"], apart := false, narrowed := true }
def FracWholesUptoSaid : Prop := fracWholesUptoRow.holds Try.pinned (OpenSpec.upto fracWholesSpec)

end Rows
end Go.Proofs.Ytkoeehacildioaa
