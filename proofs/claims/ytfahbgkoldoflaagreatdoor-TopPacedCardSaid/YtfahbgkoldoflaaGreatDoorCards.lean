/-
  DERIVED. GIVEN WITH THE SEED: THE CARDS: each row of YtfahbgkoldoflaaGreatDoorRows.lean that lists a variable, with what it lists TIED to the program's text (the seventh form; the later family's looks); each row that meets fmt, with fmt's text TOLD by the authors' own Lean function (tested against real Go, not proved from fmt's source: count such statements apart). THE CARD IS WHAT COUNTS. Prove the row's statement (the work); the ties are given (YtfahbgkoldoflaaGreatDoorTie.lean); close each card by the builder's one call (the guide's Derived/Test/ToyasCard.lean, 'card_holds'). Laid BY PROGRAM, IN A SANDBOX (cutbox-door.mjs). By AI agents, Wed Nov 11 2026. No macro, syntax, notation, axiom, sorry.
-/
import Derived.Test.YtfahbgkoldoflaaGreatDoorRows
import GoSem.ClaimSeven
namespace Go.Proofs.YtfahbgkoldoflaaGreatDoor
namespace Rows

/-- THE TIED CARD OF 'sawtoothtop.TopReal'. -/
def topRealCard : Claim7 := { stood := { row := topRealRow, standIns := [], harness := (true, "9303b2d717dca2b1cdbd913a62d33ece28c63e64bf7fba940925454d22391742"), looks := true }, kinds := [], alts := [], laidByText := true, laidKinds := [.data], laidTests := true, laidLooks := .later }
def TopRealCardSaid : Prop := Claim7.holds Tryz.pinned (.plain (OpenSpec.ofChange topRealSpec)) topRealCard

/-- THE TIED CARD OF 'sawtoothtop.TopWindow'. -/
def topWindowCard : Claim7 := { stood := { row := topWindowRow, standIns := [], harness := (true, "9303b2d717dca2b1cdbd913a62d33ece28c63e64bf7fba940925454d22391742"), looks := true }, kinds := [], alts := [], laidByText := true, laidKinds := [.data], laidTests := true, laidLooks := .later }
def TopWindowCardSaid : Prop := Claim7.holds Tryz.pinned (.plain (OpenSpec.ofChange topWindowSpec)) topWindowCard

/-- THE TIED CARD OF 'sawtoothtop.TopPaced'. -/
def topPacedCard : Claim7 := { stood := { row := topPacedRow, standIns := [], harness := (true, "9303b2d717dca2b1cdbd913a62d33ece28c63e64bf7fba940925454d22391742"), looks := true }, kinds := [], alts := [], laidByText := true, laidKinds := [.data], laidTests := true, laidLooks := .later }
def TopPacedCardSaid : Prop := Claim7.holds Tryz.pinned (.plain (OpenSpec.ofChange topPacedSpec)) topPacedCard

/-- THE SECOND FORM's CARD OF 'sawtoothtop.TopReal'. -/
def topRealUptoCard : Claim7 := { stood := { row := topRealUptoRow, standIns := [], harness := (true, "9303b2d717dca2b1cdbd913a62d33ece28c63e64bf7fba940925454d22391742"), looks := true }, kinds := [], alts := [], laidByText := true, laidKinds := [.data], laidTests := true, laidLooks := .later }
def TopRealUptoCardSaid : Prop := Claim7.holds Tryz.pinned (.plain (OpenSpec.upto topRealSpec)) topRealUptoCard

/-- THE SECOND FORM's CARD OF 'sawtoothtop.TopWindow'. -/
def topWindowUptoCard : Claim7 := { stood := { row := topWindowUptoRow, standIns := [], harness := (true, "9303b2d717dca2b1cdbd913a62d33ece28c63e64bf7fba940925454d22391742"), looks := true }, kinds := [], alts := [], laidByText := true, laidKinds := [.data], laidTests := true, laidLooks := .later }
def TopWindowUptoCardSaid : Prop := Claim7.holds Tryz.pinned (.plain (OpenSpec.upto topWindowSpec)) topWindowUptoCard

/-- THE SECOND FORM's CARD OF 'sawtoothtop.TopPaced'. -/
def topPacedUptoCard : Claim7 := { stood := { row := topPacedUptoRow, standIns := [], harness := (true, "9303b2d717dca2b1cdbd913a62d33ece28c63e64bf7fba940925454d22391742"), looks := true }, kinds := [], alts := [], laidByText := true, laidKinds := [.data], laidTests := true, laidLooks := .later }
def TopPacedUptoCardSaid : Prop := Claim7.holds Tryz.pinned (.plain (OpenSpec.upto topPacedSpec)) topPacedUptoCard
end Rows
end Go.Proofs.YtfahbgkoldoflaaGreatDoor
