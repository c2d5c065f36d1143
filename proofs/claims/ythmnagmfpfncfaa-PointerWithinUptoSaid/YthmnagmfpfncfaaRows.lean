/-
  NARROWER THAN 'FOR EVERY INPUT', by the rows' own cells (each row's printed sentence says how): TreeMembers: loops.
  DERIVED. THE GIVEN ROWS OF THIS SEAT. 4 by the template 'for every input the law returns true; each argument reads behind the call as it read before'; 0 by the template 'total and deterministic' (their statements: YthmnagmfpfncfaaTotals.lean).
  GIVEN WITH THE SEED: the statements are not yours to turn. If you find one false, say at which input.
  Laid BY PROGRAM, IN A SANDBOX (cutbox-rows.mjs): the forced cells as the released guide's own fill.sh prints them over the translation 2114dd7a0b6d5e20… (all of the seat's roots in one cut). By AI agents, Wed Nov 11 2026. No macro, syntax, notation, axiom, sorry.
-/
import Derived.Test.YthmnagmfpfncfaaChecked
import GoSem.Claim
import GoSem.ClaimJoined
import GoSem.ClaimMapViews
import Derived.JoinedTies
import Derived.KernelRfl
namespace Go.Proofs.Ythmnagmfpfncfaa
/- THE CELL 'sum', in the pinned program and in every row, IS THE sha256 OF THE DUMP (.gsa) THAT YthmnagmfpfncfaaProg.lean LOADS. Nothing in Lean hashes anything: it is a label: what it is worth is what the hold of that sum in a sandbox is worth. -/
noncomputable def Try.pinned : Pinned := { name := "ythmnagmfpfncfaa", sum := "2114dd7a0b6d5e201ca8c1d9b0b5249ecfb39236b0229d31c976fa4bf420649b", checked := Try.checked }
namespace Rows
def none {H : Type} : Left H := { results := [], args := [] }

/-- 'quarrylaw20.PointerPlaces': WHATEVER THE INPUT: true; the input reads as it did. -/
def pointerPlacesSpec : ChangeSpec := { name := "pointerPlaces", fn := fun _ => fun
  | [d] => { results := [.lit (.bool true)], args := [d] }
  | _ => none }
def pointerPlacesRow : OpenClaim := { program := "ythmnagmfpfncfaa", sum := "2114dd7a0b6d5e201ca8c1d9b0b5249ecfb39236b0229d31c976fa4bf420649b", func := "quarry/quarrylaw20.PointerPlaces", spec := "pointerPlaces", apart := false }
def PointerPlacesSaid : Prop := pointerPlacesRow.holds Try.pinned (OpenSpec.ofChange pointerPlacesSpec)

/-- ITS FALSE NEIGHBOUR: 'it returns false'. Refute it at one input. -/
def pointerPlacesWrong : ChangeSpec := { name := "pointerPlaces", fn := fun _ => fun
  | [d] => { results := [.lit (.bool false)], args := [d] }
  | _ => none }
def PointerPlacesWrongFalsely : Prop := pointerPlacesRow.holds Try.pinned (OpenSpec.ofChange pointerPlacesWrong)

/-- 'quarrylaw17.TreeMembers': WHATEVER THE INPUT: true; the input reads as it did. -/
def treeMembersSpec : ChangeSpec := { name := "treeMembers", fn := fun _ => fun
  | [d1, d2] => { results := [.lit (.bool true)], args := [d1, d2] }
  | _ => none }
def treeMembersRow : OpenClaim := { program := "ythmnagmfpfncfaa", sum := "2114dd7a0b6d5e201ca8c1d9b0b5249ecfb39236b0229d31c976fa4bf420649b", func := "quarry/quarrylaw17.TreeMembers", spec := "treeMembers", recurses := true, loops := true, apart := false }
def TreeMembersSaid : Prop := treeMembersRow.holds Try.pinned (OpenSpec.ofChange treeMembersSpec)

/-- ITS FALSE NEIGHBOUR: 'it returns false'. Refute it at one input. -/
def treeMembersWrong : ChangeSpec := { name := "treeMembers", fn := fun _ => fun
  | [d1, d2] => { results := [.lit (.bool false)], args := [d1, d2] }
  | _ => none }
def TreeMembersWrongFalsely : Prop := treeMembersRow.holds Try.pinned (OpenSpec.ofChange treeMembersWrong)

/-- 'quarrylaw20.PointerPrints': WHATEVER THE INPUT: true; the input reads as it did. -/
def pointerPrintsSpec : ChangeSpec := { name := "pointerPrints", fn := fun _ => fun
  | [d] => { results := [.lit (.bool true)], args := [d] }
  | _ => none }
def pointerPrintsRow : OpenClaim := { program := "ythmnagmfpfncfaa", sum := "2114dd7a0b6d5e201ca8c1d9b0b5249ecfb39236b0229d31c976fa4bf420649b", func := "quarry/quarrylaw20.PointerPrints", spec := "pointerPrints", inPlace := ["internal/abi.NoEscape"], apart := false }
def PointerPrintsSaid : Prop := pointerPrintsRow.holds Try.pinned (OpenSpec.ofChange pointerPrintsSpec)

/-- ITS FALSE NEIGHBOUR: 'it returns false'. Refute it at one input. -/
def pointerPrintsWrong : ChangeSpec := { name := "pointerPrints", fn := fun _ => fun
  | [d] => { results := [.lit (.bool false)], args := [d] }
  | _ => none }
def PointerPrintsWrongFalsely : Prop := pointerPrintsRow.holds Try.pinned (OpenSpec.ofChange pointerPrintsWrong)

/-- 'quarrylaw20.PointerWithin': WHATEVER THE INPUT: true; the input reads as it did. -/
def pointerWithinSpec : ChangeSpec := { name := "pointerWithin", fn := fun _ => fun
  | [d1, d2] => { results := [.lit (.bool true)], args := [d1, d2] }
  | _ => none }
def pointerWithinRow : OpenClaim := { program := "ythmnagmfpfncfaa", sum := "2114dd7a0b6d5e201ca8c1d9b0b5249ecfb39236b0229d31c976fa4bf420649b", func := "quarry/quarrylaw20.PointerWithin", spec := "pointerWithin", apart := false }
def PointerWithinSaid : Prop := pointerWithinRow.holds Try.pinned (OpenSpec.ofChange pointerWithinSpec)

/-- ITS FALSE NEIGHBOUR: 'it returns false'. Refute it at one input. -/
def pointerWithinWrong : ChangeSpec := { name := "pointerWithin", fn := fun _ => fun
  | [d1, d2] => { results := [.lit (.bool false)], args := [d1, d2] }
  | _ => none }
def PointerWithinWrongFalsely : Prop := pointerWithinRow.holds Try.pinned (OpenSpec.ofChange pointerWithinWrong)

/- THE SECOND FORM. 'bulk': how many values and letters a reading holds, each counted each time it is reached (what is shared counts as often as it is met; a slice's spare places count too). A statement '..UptoSaid' is the law's where the arguments, and the package variables that the reading takes, are together of bulk at most 1048576: NARROWER than '..Said'. Prove '..Said' where nothing that the law and all that it calls make is longer than what came in: it says more and counts as full. Else prove '..UptoSaid'. A law counts once. -/
mutual
def uptoBulk {H : Type} : DataW H → Nat
  | .lit (.string bytes) => bytes.length + 1
  | .lit _ => 1
  | .nil => 1
  | .ptr d => uptoBulk d + 1
  | .slice elems spare => uptoBulkAll elems + uptoBulkAll spare + 1
  | .agg parts => uptoBulkAll parts + 1
  | .iface _ d => uptoBulk d + 1
  | .map entries => uptoBulkEntries entries + 1
  | .held _ => 1
def uptoBulkAll {H : Type} : List (DataW H) → Nat
  | [] => 0
  | d :: r => uptoBulk d + uptoBulkAll r
def uptoBulkEntries {H : Type} : List (Lit × DataW H) → Nat
  | [] => 0
  | x :: r => uptoBulkEntry x + uptoBulkEntries r
def uptoBulkEntry {H : Type} : Lit × DataW H → Nat
  | (.string bytes, d) => bytes.length + uptoBulk d + 1
  | (_, d) => uptoBulk d + 1
 end
def uptoSmall : (H : Type) → List (DataW H) → Bool := fun _ ds => decide (uptoBulkAll ds ≤ 1048576)
def OpenSpec.upto (s : _root_.Go.ChangeSpec) : _root_.Go.OpenSpec := { _root_.Go.OpenSpec.ofChange s with cond := some uptoSmall }

/-- 'quarrylaw20.PointerPlaces', WHERE WHAT IT READS IS OF BULK AT MOST 1048576: true; the input reads as it did. -/
def pointerPlacesUptoRow : OpenClaim := { program := "ythmnagmfpfncfaa", sum := "2114dd7a0b6d5e201ca8c1d9b0b5249ecfb39236b0229d31c976fa4bf420649b", func := "quarry/quarrylaw20.PointerPlaces", spec := "pointerPlaces", apart := false, narrowed := true }
def PointerPlacesUptoSaid : Prop := pointerPlacesUptoRow.holds Try.pinned (OpenSpec.upto pointerPlacesSpec)

/-- 'quarrylaw17.TreeMembers', WHERE WHAT IT READS IS OF BULK AT MOST 1048576: true; the input reads as it did. -/
def treeMembersUptoRow : OpenClaim := { program := "ythmnagmfpfncfaa", sum := "2114dd7a0b6d5e201ca8c1d9b0b5249ecfb39236b0229d31c976fa4bf420649b", func := "quarry/quarrylaw17.TreeMembers", spec := "treeMembers", recurses := true, loops := true, apart := false, narrowed := true }
def TreeMembersUptoSaid : Prop := treeMembersUptoRow.holds Try.pinned (OpenSpec.upto treeMembersSpec)

/-- 'quarrylaw20.PointerPrints', WHERE WHAT IT READS IS OF BULK AT MOST 1048576: true; the input reads as it did. -/
def pointerPrintsUptoRow : OpenClaim := { program := "ythmnagmfpfncfaa", sum := "2114dd7a0b6d5e201ca8c1d9b0b5249ecfb39236b0229d31c976fa4bf420649b", func := "quarry/quarrylaw20.PointerPrints", spec := "pointerPrints", inPlace := ["internal/abi.NoEscape"], apart := false, narrowed := true }
def PointerPrintsUptoSaid : Prop := pointerPrintsUptoRow.holds Try.pinned (OpenSpec.upto pointerPrintsSpec)

/-- 'quarrylaw20.PointerWithin', WHERE WHAT IT READS IS OF BULK AT MOST 1048576: true; the input reads as it did. -/
def pointerWithinUptoRow : OpenClaim := { program := "ythmnagmfpfncfaa", sum := "2114dd7a0b6d5e201ca8c1d9b0b5249ecfb39236b0229d31c976fa4bf420649b", func := "quarry/quarrylaw20.PointerWithin", spec := "pointerWithin", apart := false, narrowed := true }
def PointerWithinUptoSaid : Prop := pointerWithinUptoRow.holds Try.pinned (OpenSpec.upto pointerWithinSpec)

end Rows
end Go.Proofs.Ythmnagmfpfncfaa
