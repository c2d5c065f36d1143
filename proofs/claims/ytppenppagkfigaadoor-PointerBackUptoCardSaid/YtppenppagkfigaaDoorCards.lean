/-
  DERIVED. GIVEN WITH THE SEED: THE CARDS: each row of YtppenppagkfigaaDoorRows.lean that lists a variable, with what it lists TIED to the program's text (the seventh form; the later family's looks); each row that meets fmt, with fmt's text TOLD by the authors' own Lean function (tested against real Go, not proved from fmt's source: count such statements apart). THE CARD IS WHAT COUNTS. Prove the row's statement (the work); the ties are given (YtppenppagkfigaaDoorTie.lean); close each card by the builder's one call (the guide's Derived/Test/ToyasCard.lean, 'card_holds'). Laid BY PROGRAM, IN A SANDBOX (cutbox-door.mjs). By AI agents, Wed Nov 11 2026. No macro, syntax, notation, axiom, sorry.
-/
import Derived.Test.YtppenppagkfigaaDoorRows
import GoSem.ClaimSeven
namespace Go.Proofs.YtppenppagkfigaaDoor
namespace Rows

/-- THE TIED CARD OF 'quarrylaw20.PointerFinds'. -/
def pointerFindsCard : Claim7 := { stood := { row := pointerFindsRow, standIns := [], harness := (true, "df1369f0bfc6921a301b655a43ccccfbaad0aeaed46a4d3b362c5adf89ed113e"), looks := false }, kinds := [], alts := [], laidByText := true, laidKinds := [.data, .pinned], laidTests := true, laidLooks := .later }
def PointerFindsCardSaid : Prop := Claim7.holds Tryd.pinned (.plain (OpenSpec.ofChange pointerFindsSpec)) pointerFindsCard

/-- THE TIED CARD OF 'quarrylaw20.PointerChains'. -/
def pointerChainsCard : Claim7 := { stood := { row := pointerChainsRow, standIns := [], harness := (true, "df1369f0bfc6921a301b655a43ccccfbaad0aeaed46a4d3b362c5adf89ed113e"), looks := false }, kinds := [], alts := [], laidByText := true, laidKinds := [.data, .pinned], laidTests := true, laidLooks := .later }
def PointerChainsCardSaid : Prop := Claim7.holds Tryd.pinned (.plain (OpenSpec.ofChange pointerChainsSpec)) pointerChainsCard

/-- THE TIED CARD OF 'quarrylaw20.PointerBack'. -/
def pointerBackCard : Claim7 := { stood := { row := pointerBackRow, standIns := [], harness := (true, "df1369f0bfc6921a301b655a43ccccfbaad0aeaed46a4d3b362c5adf89ed113e"), looks := false }, kinds := [], alts := [], laidByText := true, laidKinds := [.data, .pinned], laidTests := true, laidLooks := .later }
def PointerBackCardSaid : Prop := Claim7.holds Tryd.pinned (.plain (OpenSpec.ofChange pointerBackSpec)) pointerBackCard

/-- THE TIED CARD OF 'quarrylaw20.PointerKeeps'. -/
def pointerKeepsCard : Claim7 := { stood := { row := pointerKeepsRow, standIns := [], harness := (true, "df1369f0bfc6921a301b655a43ccccfbaad0aeaed46a4d3b362c5adf89ed113e"), looks := false }, kinds := [], alts := [], laidByText := true, laidKinds := [.data, .pinned], laidTests := true, laidLooks := .later }
def PointerKeepsCardSaid : Prop := Claim7.holds Tryd.pinned (.plain (OpenSpec.ofChange pointerKeepsSpec)) pointerKeepsCard

/-- THE TIED CARD OF 'quarrylaw20.PointerLikes'. -/
def pointerLikesCard : Claim7 := { stood := { row := pointerLikesRow, standIns := [], harness := (true, "df1369f0bfc6921a301b655a43ccccfbaad0aeaed46a4d3b362c5adf89ed113e"), looks := false }, kinds := [], alts := [], laidByText := true, laidKinds := [.data, .pinned], laidTests := true, laidLooks := .later }
def PointerLikesCardSaid : Prop := Claim7.holds Tryd.pinned (.plain (OpenSpec.ofChange pointerLikesSpec)) pointerLikesCard

/-- THE SECOND FORM's CARD OF 'quarrylaw20.PointerFinds'. -/
def pointerFindsUptoCard : Claim7 := { stood := { row := pointerFindsUptoRow, standIns := [], harness := (true, "df1369f0bfc6921a301b655a43ccccfbaad0aeaed46a4d3b362c5adf89ed113e"), looks := false }, kinds := [], alts := [], laidByText := true, laidKinds := [.data, .pinned], laidTests := true, laidLooks := .later }
def PointerFindsUptoCardSaid : Prop := Claim7.holds Tryd.pinned (.plain (OpenSpec.upto pointerFindsSpec)) pointerFindsUptoCard

/-- THE SECOND FORM's CARD OF 'quarrylaw20.PointerChains'. -/
def pointerChainsUptoCard : Claim7 := { stood := { row := pointerChainsUptoRow, standIns := [], harness := (true, "df1369f0bfc6921a301b655a43ccccfbaad0aeaed46a4d3b362c5adf89ed113e"), looks := false }, kinds := [], alts := [], laidByText := true, laidKinds := [.data, .pinned], laidTests := true, laidLooks := .later }
def PointerChainsUptoCardSaid : Prop := Claim7.holds Tryd.pinned (.plain (OpenSpec.upto pointerChainsSpec)) pointerChainsUptoCard

/-- THE SECOND FORM's CARD OF 'quarrylaw20.PointerBack'. -/
def pointerBackUptoCard : Claim7 := { stood := { row := pointerBackUptoRow, standIns := [], harness := (true, "df1369f0bfc6921a301b655a43ccccfbaad0aeaed46a4d3b362c5adf89ed113e"), looks := false }, kinds := [], alts := [], laidByText := true, laidKinds := [.data, .pinned], laidTests := true, laidLooks := .later }
def PointerBackUptoCardSaid : Prop := Claim7.holds Tryd.pinned (.plain (OpenSpec.upto pointerBackSpec)) pointerBackUptoCard

/-- THE SECOND FORM's CARD OF 'quarrylaw20.PointerKeeps'. -/
def pointerKeepsUptoCard : Claim7 := { stood := { row := pointerKeepsUptoRow, standIns := [], harness := (true, "df1369f0bfc6921a301b655a43ccccfbaad0aeaed46a4d3b362c5adf89ed113e"), looks := false }, kinds := [], alts := [], laidByText := true, laidKinds := [.data, .pinned], laidTests := true, laidLooks := .later }
def PointerKeepsUptoCardSaid : Prop := Claim7.holds Tryd.pinned (.plain (OpenSpec.upto pointerKeepsSpec)) pointerKeepsUptoCard

/-- THE SECOND FORM's CARD OF 'quarrylaw20.PointerLikes'. -/
def pointerLikesUptoCard : Claim7 := { stood := { row := pointerLikesUptoRow, standIns := [], harness := (true, "df1369f0bfc6921a301b655a43ccccfbaad0aeaed46a4d3b362c5adf89ed113e"), looks := false }, kinds := [], alts := [], laidByText := true, laidKinds := [.data, .pinned], laidTests := true, laidLooks := .later }
def PointerLikesUptoCardSaid : Prop := Claim7.holds Tryd.pinned (.plain (OpenSpec.upto pointerLikesSpec)) pointerLikesUptoCard
end Rows
end Go.Proofs.YtppenppagkfigaaDoor
