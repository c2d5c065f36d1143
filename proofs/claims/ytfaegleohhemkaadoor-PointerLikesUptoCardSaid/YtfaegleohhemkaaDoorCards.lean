/-
  DERIVED. GIVEN WITH THE SEED: THE CARDS: each row of YtfaegleohhemkaaDoorRows.lean that lists a variable, with what it lists TIED to the program's text (the seventh form; the later family's looks); each row that meets fmt, with fmt's text TOLD by the authors' own Lean function (tested against real Go, not proved from fmt's source: count such statements apart). THE CARD IS WHAT COUNTS. Prove the row's statement (the work); the ties are given (YtfaegleohhemkaaDoorTie.lean); close each card by the builder's one call (the guide's Derived/Test/ToyasCard.lean, 'card_holds'). Laid BY PROGRAM, IN A SANDBOX (cutbox-door.mjs). By AI agents, Wed Nov 11 2026. No macro, syntax, notation, axiom, sorry.
-/
import Derived.Test.YtfaegleohhemkaaDoorRows
import GoSem.ClaimSeven
namespace Go.Proofs.YtfaegleohhemkaaDoor
namespace Rows

/-- THE TIED CARD OF 'quarrylaw17.TreeLikes'. -/
def treeLikesCard : Claim7 := { stood := { row := treeLikesRow, standIns := [], harness := (true, "4b186a9d576d78bd02247011fce6aa0403d2881d71193109f0bce15b919a07d3"), looks := false }, kinds := [], alts := [], laidByText := true, laidKinds := [.data, .pinned], laidTests := true, laidLooks := .later }
def TreeLikesCardSaid : Prop := Claim7.holds Tryd.pinned (.plain (OpenSpec.ofChange treeLikesSpec)) treeLikesCard

/-- THE TIED CARD OF 'quarrylaw20.PointerLikes'. -/
def pointerLikesCard : Claim7 := { stood := { row := pointerLikesRow, standIns := [], harness := (true, "4b186a9d576d78bd02247011fce6aa0403d2881d71193109f0bce15b919a07d3"), looks := false }, kinds := [], alts := [], laidByText := true, laidKinds := [.data, .pinned], laidTests := true, laidLooks := .later }
def PointerLikesCardSaid : Prop := Claim7.holds Tryd.pinned (.plain (OpenSpec.ofChange pointerLikesSpec)) pointerLikesCard

/-- THE SECOND FORM's CARD OF 'quarrylaw17.TreeLikes'. -/
def treeLikesUptoCard : Claim7 := { stood := { row := treeLikesUptoRow, standIns := [], harness := (true, "4b186a9d576d78bd02247011fce6aa0403d2881d71193109f0bce15b919a07d3"), looks := false }, kinds := [], alts := [], laidByText := true, laidKinds := [.data, .pinned], laidTests := true, laidLooks := .later }
def TreeLikesUptoCardSaid : Prop := Claim7.holds Tryd.pinned (.plain (OpenSpec.upto treeLikesSpec)) treeLikesUptoCard

/-- THE SECOND FORM's CARD OF 'quarrylaw20.PointerLikes'. -/
def pointerLikesUptoCard : Claim7 := { stood := { row := pointerLikesUptoRow, standIns := [], harness := (true, "4b186a9d576d78bd02247011fce6aa0403d2881d71193109f0bce15b919a07d3"), looks := false }, kinds := [], alts := [], laidByText := true, laidKinds := [.data, .pinned], laidTests := true, laidLooks := .later }
def PointerLikesUptoCardSaid : Prop := Claim7.holds Tryd.pinned (.plain (OpenSpec.upto pointerLikesSpec)) pointerLikesUptoCard
end Rows
end Go.Proofs.YtfaegleohhemkaaDoor
