/-
  DERIVED. GIVEN WITH THE SEED: THE CARDS: each row of YtlgamjgdkljfiabGreatDoorRows.lean that lists a variable, with what it lists TIED to the program's text (the seventh form; the later family's looks); each row that meets fmt, with fmt's text TOLD by the authors' own Lean function (tested against real Go, not proved from fmt's source: count such statements apart). THE CARD IS WHAT COUNTS. Prove the row's statement (the work); the ties are given (YtlgamjgdkljfiabGreatDoorTie.lean); close each card by the builder's one call (the guide's Derived/Test/ToyasCard.lean, 'card_holds'). Laid BY PROGRAM, IN A SANDBOX (cutbox-door.mjs). By AI agents, Wed Nov 11 2026. No macro, syntax, notation, axiom, sorry.
-/
import Derived.Test.YtlgamjgdkljfiabGreatDoorRows
import GoSem.ClaimSeven
namespace Go.Proofs.YtlgamjgdkljfiabGreatDoor
namespace Rows

/-- THE TIED CARD OF 'quarrylaw18.WriteCompacts'. -/
def writeCompactsCard : Claim7 := { stood := { row := writeCompactsRow, standIns := [], harness := (true, "f5dfdc713cf357af9293e2166227274d4c1332458d592783d6b5ff0647cc74f3"), looks := true }, kinds := [], alts := [], laidByText := true, laidKinds := [.data, .data, .data, .data, .pinned], laidTests := true, laidLooks := .later }
def WriteCompactsCardSaid : Prop := Claim7.holds Tryz.pinned (.plain (OpenSpec.ofChange writeCompactsSpec)) writeCompactsCard

/-- THE TIED CARD OF 'quarrylaw18.WriteNormals'. -/
def writeNormalsCard : Claim7 := { stood := { row := writeNormalsRow, standIns := [], harness := (true, "f5dfdc713cf357af9293e2166227274d4c1332458d592783d6b5ff0647cc74f3"), looks := true }, kinds := [], alts := [], laidByText := true, laidKinds := [.data, .data, .data, .data, .pinned], laidTests := true, laidLooks := .later }
def WriteNormalsCardSaid : Prop := Claim7.holds Tryz.pinned (.plain (OpenSpec.ofChange writeNormalsSpec)) writeNormalsCard

/-- THE SECOND FORM's CARD OF 'quarrylaw18.WriteCompacts'. -/
def writeCompactsUptoCard : Claim7 := { stood := { row := writeCompactsUptoRow, standIns := [], harness := (true, "f5dfdc713cf357af9293e2166227274d4c1332458d592783d6b5ff0647cc74f3"), looks := true }, kinds := [], alts := [], laidByText := true, laidKinds := [.data, .data, .data, .data, .pinned], laidTests := true, laidLooks := .later }
def WriteCompactsUptoCardSaid : Prop := Claim7.holds Tryz.pinned (.plain (OpenSpec.upto writeCompactsSpec)) writeCompactsUptoCard

/-- THE SECOND FORM's CARD OF 'quarrylaw18.WriteNormals'. -/
def writeNormalsUptoCard : Claim7 := { stood := { row := writeNormalsUptoRow, standIns := [], harness := (true, "f5dfdc713cf357af9293e2166227274d4c1332458d592783d6b5ff0647cc74f3"), looks := true }, kinds := [], alts := [], laidByText := true, laidKinds := [.data, .data, .data, .data, .pinned], laidTests := true, laidLooks := .later }
def WriteNormalsUptoCardSaid : Prop := Claim7.holds Tryz.pinned (.plain (OpenSpec.upto writeNormalsSpec)) writeNormalsUptoCard
end Rows
end Go.Proofs.YtlgamjgdkljfiabGreatDoor
