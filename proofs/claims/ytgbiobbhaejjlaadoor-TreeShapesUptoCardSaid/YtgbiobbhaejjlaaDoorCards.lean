/-
  DERIVED. GIVEN WITH THE SEED: THE CARDS: each row of YtgbiobbhaejjlaaDoorRows.lean that lists a variable, with what it lists TIED to the program's text (the seventh form; the later family's looks); each row that meets fmt, with fmt's text TOLD by the authors' own Lean function (tested against real Go, not proved from fmt's source: count such statements apart). THE CARD IS WHAT COUNTS. Prove the row's statement (the work); the ties are given (YtgbiobbhaejjlaaDoorTie.lean); close each card by the builder's one call (the guide's Derived/Test/ToyasCard.lean, 'card_holds'). Laid BY PROGRAM, IN A SANDBOX (cutbox-door.mjs). By AI agents, Wed Nov 11 2026. No macro, syntax, notation, axiom, sorry.
-/
import Derived.Test.YtgbiobbhaejjlaaDoorRows
import GoSem.ClaimSeven
namespace Go.Proofs.YtgbiobbhaejjlaaDoor
namespace Rows

/-- THE TIED CARD OF 'quarrylaw17.TreeShapes'. -/
def treeShapesCard : Claim7 := { stood := { row := treeShapesRow, standIns := [], harness := (true, "95d15550bb56362ec06d9ebc430ceb80f801b6c71f81519f0cf5c46b5ae0515f"), looks := false }, kinds := [], alts := [], laidByText := true, laidKinds := [.data, .pinned], laidTests := true, laidLooks := .later }
def TreeShapesCardSaid : Prop := Claim7.holds Tryd.pinned (.plain (OpenSpec.ofChange treeShapesSpec)) treeShapesCard

/-- THE TIED CARD OF 'quarrylaw17.TreeLikes'. -/
def treeLikesCard : Claim7 := { stood := { row := treeLikesRow, standIns := [], harness := (true, "95d15550bb56362ec06d9ebc430ceb80f801b6c71f81519f0cf5c46b5ae0515f"), looks := false }, kinds := [], alts := [], laidByText := true, laidKinds := [.data, .pinned], laidTests := true, laidLooks := .later }
def TreeLikesCardSaid : Prop := Claim7.holds Tryd.pinned (.plain (OpenSpec.ofChange treeLikesSpec)) treeLikesCard

/-- THE SECOND FORM's CARD OF 'quarrylaw17.TreeShapes'. -/
def treeShapesUptoCard : Claim7 := { stood := { row := treeShapesUptoRow, standIns := [], harness := (true, "95d15550bb56362ec06d9ebc430ceb80f801b6c71f81519f0cf5c46b5ae0515f"), looks := false }, kinds := [], alts := [], laidByText := true, laidKinds := [.data, .pinned], laidTests := true, laidLooks := .later }
def TreeShapesUptoCardSaid : Prop := Claim7.holds Tryd.pinned (.plain (OpenSpec.upto treeShapesSpec)) treeShapesUptoCard

/-- THE SECOND FORM's CARD OF 'quarrylaw17.TreeLikes'. -/
def treeLikesUptoCard : Claim7 := { stood := { row := treeLikesUptoRow, standIns := [], harness := (true, "95d15550bb56362ec06d9ebc430ceb80f801b6c71f81519f0cf5c46b5ae0515f"), looks := false }, kinds := [], alts := [], laidByText := true, laidKinds := [.data, .pinned], laidTests := true, laidLooks := .later }
def TreeLikesUptoCardSaid : Prop := Claim7.holds Tryd.pinned (.plain (OpenSpec.upto treeLikesSpec)) treeLikesUptoCard
end Rows
end Go.Proofs.YtgbiobbhaejjlaaDoor
