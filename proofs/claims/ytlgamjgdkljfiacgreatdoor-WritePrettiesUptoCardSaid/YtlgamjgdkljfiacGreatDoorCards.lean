/-
  DERIVED. GIVEN WITH THE SEED: THE CARDS: each row of YtlgamjgdkljfiacGreatDoorRows.lean that lists a variable, with what it lists TIED to the program's text (the seventh form; the later family's looks); each row that meets fmt, with fmt's text TOLD by the authors' own Lean function (tested against real Go, not proved from fmt's source: count such statements apart). THE CARD IS WHAT COUNTS. Prove the row's statement (the work); the ties are given (YtlgamjgdkljfiacGreatDoorTie.lean); close each card by the builder's one call (the guide's Derived/Test/ToyasCard.lean, 'card_holds'). Laid BY PROGRAM, IN A SANDBOX (cutbox-door.mjs). By AI agents, Wed Nov 11 2026. No macro, syntax, notation, axiom, sorry.
-/
import Derived.Test.YtlgamjgdkljfiacGreatDoorRows
import GoSem.ClaimSeven
namespace Go.Proofs.YtlgamjgdkljfiacGreatDoor
namespace Rows

/-- THE TIED CARD OF 'quarrylaw18.WriteTurns'. -/
def writeTurnsCard : Claim7 := { stood := { row := writeTurnsRow, standIns := [], harness := (true, "a5707558861189ab3a30c7b306381b87b69e5ada53feb93e9c629effb95e88d2"), looks := true }, kinds := [], alts := [], laidByText := true, laidKinds := [.data, .data, .data, .data, .pinned], laidTests := true, laidLooks := .later }
def WriteTurnsCardSaid : Prop := Claim7.holds Tryz.pinned (.plain (OpenSpec.ofChange writeTurnsSpec)) writeTurnsCard

/-- THE TIED CARD OF 'quarrylaw18.WritePretties'. -/
def writePrettiesCard : Claim7 := { stood := { row := writePrettiesRow, standIns := [], harness := (true, "a5707558861189ab3a30c7b306381b87b69e5ada53feb93e9c629effb95e88d2"), looks := true }, kinds := [], alts := [], laidByText := true, laidKinds := [.data, .data, .data, .data, .pinned], laidTests := true, laidLooks := .later }
def WritePrettiesCardSaid : Prop := Claim7.holds Tryz.pinned (.plain (OpenSpec.ofChange writePrettiesSpec)) writePrettiesCard

/-- THE SECOND FORM's CARD OF 'quarrylaw18.WriteTurns'. -/
def writeTurnsUptoCard : Claim7 := { stood := { row := writeTurnsUptoRow, standIns := [], harness := (true, "a5707558861189ab3a30c7b306381b87b69e5ada53feb93e9c629effb95e88d2"), looks := true }, kinds := [], alts := [], laidByText := true, laidKinds := [.data, .data, .data, .data, .pinned], laidTests := true, laidLooks := .later }
def WriteTurnsUptoCardSaid : Prop := Claim7.holds Tryz.pinned (.plain (OpenSpec.upto writeTurnsSpec)) writeTurnsUptoCard

/-- THE SECOND FORM's CARD OF 'quarrylaw18.WritePretties'. -/
def writePrettiesUptoCard : Claim7 := { stood := { row := writePrettiesUptoRow, standIns := [], harness := (true, "a5707558861189ab3a30c7b306381b87b69e5ada53feb93e9c629effb95e88d2"), looks := true }, kinds := [], alts := [], laidByText := true, laidKinds := [.data, .data, .data, .data, .pinned], laidTests := true, laidLooks := .later }
def WritePrettiesUptoCardSaid : Prop := Claim7.holds Tryz.pinned (.plain (OpenSpec.upto writePrettiesSpec)) writePrettiesUptoCard
end Rows
end Go.Proofs.YtlgamjgdkljfiacGreatDoor
