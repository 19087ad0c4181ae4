/-
  DERIVED. GIVEN WITH THE SEED: THE CARDS: each row of YtoddjlclpnoomaaGreatDoorRows.lean that lists a variable, with what it lists TIED to the program's text (the seventh form; the later family's looks); each row that meets fmt, with fmt's text TOLD by the authors' own Lean function (tested against real Go, not proved from fmt's source: count such statements apart). THE CARD IS WHAT COUNTS. Prove the row's statement (the work); the ties are given (YtoddjlclpnoomaaGreatDoorTie.lean); close each card by the builder's one call (the guide's Derived/Test/ToyasCard.lean, 'card_holds'). Laid BY PROGRAM, IN A SANDBOX (cutbox-door.mjs). By AI agents, Wed Nov 11 2026. No macro, syntax, notation, axiom, sorry.
-/
import Derived.Test.YtoddjlclpnoomaaGreatDoorRows
import GoSem.ClaimSeven
namespace Go.Proofs.YtoddjlclpnoomaaGreatDoor
namespace Rows

/-- THE TIED CARD OF 'tallowlaw06.PrintWrites'. -/
def printWritesCard : Claim7 := { stood := { row := printWritesRow, standIns := [], harness := (true, "069f827847f5d06f74c88ef4072bea09f2cf19a41c1836ac65fb1bb81358d246"), looks := true }, kinds := [], alts := [], laidByText := true, laidKinds := [.data, .data, .data, .data, .handle, .sentinel, .sentinel, .listed, .data, .pinned], laidTests := true, laidLooks := .later }
def PrintWritesCardSaid : Prop := Claim7.holds Tryz.pinned (.plain (OpenSpec.ofChange printWritesSpec)) printWritesCard

/-- THE TIED CARD OF 'tallowlaw06.PrintReads'. -/
def printReadsCard : Claim7 := { stood := { row := printReadsRow, standIns := [], harness := (true, "069f827847f5d06f74c88ef4072bea09f2cf19a41c1836ac65fb1bb81358d246"), looks := true }, kinds := [], alts := [], laidByText := true, laidKinds := [.data, .data, .data, .data, .handle, .sentinel, .sentinel, .listed, .data, .pinned], laidTests := true, laidLooks := .later }
def PrintReadsCardSaid : Prop := Claim7.holds Tryz.pinned (.plain (OpenSpec.ofChange printReadsSpec)) printReadsCard

/-- THE TIED CARD OF 'tallowlaw06.PrintSame'. -/
def printSameCard : Claim7 := { stood := { row := printSameRow, standIns := [], harness := (true, "069f827847f5d06f74c88ef4072bea09f2cf19a41c1836ac65fb1bb81358d246"), looks := true }, kinds := [], alts := [], laidByText := true, laidKinds := [.data, .data, .data, .data, .handle, .sentinel, .sentinel, .listed, .data, .pinned], laidTests := true, laidLooks := .later }
def PrintSameCardSaid : Prop := Claim7.holds Tryz.pinned (.plain (OpenSpec.ofChange printSameSpec)) printSameCard

/-- THE TIED CARD OF 'tallowlaw06.PrintTrees'. -/
def printTreesCard : Claim7 := { stood := { row := printTreesRow, standIns := [], harness := (true, "069f827847f5d06f74c88ef4072bea09f2cf19a41c1836ac65fb1bb81358d246"), looks := true }, kinds := [], alts := [], laidByText := true, laidKinds := [.data, .data, .data, .data, .handle, .sentinel, .sentinel, .listed, .data, .pinned], laidTests := true, laidLooks := .later }
def PrintTreesCardSaid : Prop := Claim7.holds Tryz.pinned (.plain (OpenSpec.ofChange printTreesSpec)) printTreesCard

/-- THE TIED CARD OF 'tallowlaw06.PrintRound'. -/
def printRoundCard : Claim7 := { stood := { row := printRoundRow, standIns := [], harness := (true, "069f827847f5d06f74c88ef4072bea09f2cf19a41c1836ac65fb1bb81358d246"), looks := true }, kinds := [], alts := [], laidByText := true, laidKinds := [.data, .data, .data, .data, .handle, .sentinel, .sentinel, .listed, .data, .pinned], laidTests := true, laidLooks := .later }
def PrintRoundCardSaid : Prop := Claim7.holds Tryz.pinned (.plain (OpenSpec.ofChange printRoundSpec)) printRoundCard

/-- THE TIED CARD OF 'tallowlaw06.PrintKnown'. -/
def printKnownCard : Claim7 := { stood := { row := printKnownRow, standIns := [], harness := (true, "069f827847f5d06f74c88ef4072bea09f2cf19a41c1836ac65fb1bb81358d246"), looks := true }, kinds := [], alts := [], laidByText := true, laidKinds := [.data, .data, .data, .data, .handle, .sentinel, .sentinel, .listed, .data, .pinned], laidTests := true, laidLooks := .later }
def PrintKnownCardSaid : Prop := Claim7.holds Tryz.pinned (.plain (OpenSpec.ofChange printKnownSpec)) printKnownCard

/-- THE SECOND FORM's CARD OF 'tallowlaw06.PrintWrites'. -/
def printWritesUptoCard : Claim7 := { stood := { row := printWritesUptoRow, standIns := [], harness := (true, "069f827847f5d06f74c88ef4072bea09f2cf19a41c1836ac65fb1bb81358d246"), looks := true }, kinds := [], alts := [], laidByText := true, laidKinds := [.data, .data, .data, .data, .handle, .sentinel, .sentinel, .listed, .data, .pinned], laidTests := true, laidLooks := .later }
def PrintWritesUptoCardSaid : Prop := Claim7.holds Tryz.pinned (.plain (OpenSpec.upto printWritesSpec)) printWritesUptoCard

/-- THE SECOND FORM's CARD OF 'tallowlaw06.PrintReads'. -/
def printReadsUptoCard : Claim7 := { stood := { row := printReadsUptoRow, standIns := [], harness := (true, "069f827847f5d06f74c88ef4072bea09f2cf19a41c1836ac65fb1bb81358d246"), looks := true }, kinds := [], alts := [], laidByText := true, laidKinds := [.data, .data, .data, .data, .handle, .sentinel, .sentinel, .listed, .data, .pinned], laidTests := true, laidLooks := .later }
def PrintReadsUptoCardSaid : Prop := Claim7.holds Tryz.pinned (.plain (OpenSpec.upto printReadsSpec)) printReadsUptoCard

/-- THE SECOND FORM's CARD OF 'tallowlaw06.PrintSame'. -/
def printSameUptoCard : Claim7 := { stood := { row := printSameUptoRow, standIns := [], harness := (true, "069f827847f5d06f74c88ef4072bea09f2cf19a41c1836ac65fb1bb81358d246"), looks := true }, kinds := [], alts := [], laidByText := true, laidKinds := [.data, .data, .data, .data, .handle, .sentinel, .sentinel, .listed, .data, .pinned], laidTests := true, laidLooks := .later }
def PrintSameUptoCardSaid : Prop := Claim7.holds Tryz.pinned (.plain (OpenSpec.upto printSameSpec)) printSameUptoCard

/-- THE SECOND FORM's CARD OF 'tallowlaw06.PrintTrees'. -/
def printTreesUptoCard : Claim7 := { stood := { row := printTreesUptoRow, standIns := [], harness := (true, "069f827847f5d06f74c88ef4072bea09f2cf19a41c1836ac65fb1bb81358d246"), looks := true }, kinds := [], alts := [], laidByText := true, laidKinds := [.data, .data, .data, .data, .handle, .sentinel, .sentinel, .listed, .data, .pinned], laidTests := true, laidLooks := .later }
def PrintTreesUptoCardSaid : Prop := Claim7.holds Tryz.pinned (.plain (OpenSpec.upto printTreesSpec)) printTreesUptoCard

/-- THE SECOND FORM's CARD OF 'tallowlaw06.PrintRound'. -/
def printRoundUptoCard : Claim7 := { stood := { row := printRoundUptoRow, standIns := [], harness := (true, "069f827847f5d06f74c88ef4072bea09f2cf19a41c1836ac65fb1bb81358d246"), looks := true }, kinds := [], alts := [], laidByText := true, laidKinds := [.data, .data, .data, .data, .handle, .sentinel, .sentinel, .listed, .data, .pinned], laidTests := true, laidLooks := .later }
def PrintRoundUptoCardSaid : Prop := Claim7.holds Tryz.pinned (.plain (OpenSpec.upto printRoundSpec)) printRoundUptoCard

/-- THE SECOND FORM's CARD OF 'tallowlaw06.PrintKnown'. -/
def printKnownUptoCard : Claim7 := { stood := { row := printKnownUptoRow, standIns := [], harness := (true, "069f827847f5d06f74c88ef4072bea09f2cf19a41c1836ac65fb1bb81358d246"), looks := true }, kinds := [], alts := [], laidByText := true, laidKinds := [.data, .data, .data, .data, .handle, .sentinel, .sentinel, .listed, .data, .pinned], laidTests := true, laidLooks := .later }
def PrintKnownUptoCardSaid : Prop := Claim7.holds Tryz.pinned (.plain (OpenSpec.upto printKnownSpec)) printKnownUptoCard
end Rows
end Go.Proofs.YtoddjlclpnoomaaGreatDoor
