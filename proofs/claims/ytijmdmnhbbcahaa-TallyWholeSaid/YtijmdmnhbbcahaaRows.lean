/-
  No cell of these rows narrows 'for every input' (looked for: loops, veiled, ifaces, maps, wideKeys, modest, calm, conditions, laid).
  DERIVED. THE GIVEN ROWS OF THIS SEAT. 9 by the template 'for every input the law returns true; each argument reads behind the call as it read before'; 0 by the template 'total and deterministic' (their statements: YtijmdmnhbbcahaaTotals.lean).
  GIVEN WITH THE SEED: the statements are not yours to turn. If you find one false, say at which input.
  Laid BY PROGRAM, IN A SANDBOX (cutbox-rows.mjs): the forced cells as the released guide's own fill.sh prints them over the translation efef29cb57741615… (all of the seat's roots in one cut). By AI agents, Wed Nov 11 2026. No macro, syntax, notation, axiom, sorry.
-/
import Derived.Test.YtijmdmnhbbcahaaChecked
import GoSem.Claim
import GoSem.ClaimJoined
import GoSem.ClaimMapViews
import Derived.JoinedTies
import Derived.KernelRfl
namespace Go.Proofs.Ytijmdmnhbbcahaa
/- THE CELL 'sum', in the pinned program and in every row, IS THE sha256 OF THE DUMP (.gsa) THAT YtijmdmnhbbcahaaProg.lean LOADS. Nothing in Lean hashes anything: it is a label: what it is worth is what the hold of that sum in a sandbox is worth. -/
noncomputable def Try.pinned : Pinned := { name := "ytijmdmnhbbcahaa", sum := "efef29cb577416158e186c38c43106c7aa117d7a10ddf92c86bfe33504ad654c", checked := Try.checked }
namespace Rows
def none {H : Type} : Left H := { results := [], args := [] }

/-- 'quarrylaw31.TallyOf': WHATEVER THE INPUT: true; the input reads as it did. -/
def tallyOfSpec : ChangeSpec := { name := "tallyOf", fn := fun _ => fun
  | [d] => { results := [.lit (.bool true)], args := [d] }
  | _ => none }
def tallyOfRow : OpenClaim := { program := "ytijmdmnhbbcahaa", sum := "efef29cb577416158e186c38c43106c7aa117d7a10ddf92c86bfe33504ad654c", func := "quarry/quarrylaw31.TallyOf", spec := "tallyOf", inPlace := ["math.Float64bits", "math.Float64frombits", "math.sqrt"], apart := false }
def TallyOfSaid : Prop := tallyOfRow.holds Try.pinned (OpenSpec.ofChange tallyOfSpec)

/-- ITS FALSE NEIGHBOUR: 'it returns false'. Refute it at one input. -/
def tallyOfWrong : ChangeSpec := { name := "tallyOf", fn := fun _ => fun
  | [d] => { results := [.lit (.bool false)], args := [d] }
  | _ => none }
def TallyOfWrongFalsely : Prop := tallyOfRow.holds Try.pinned (OpenSpec.ofChange tallyOfWrong)

/-- 'quarrylaw31.TallyPuts': WHATEVER THE INPUT: true; the input reads as it did. -/
def tallyPutsSpec : ChangeSpec := { name := "tallyPuts", fn := fun _ => fun
  | [d1, d2] => { results := [.lit (.bool true)], args := [d1, d2] }
  | _ => none }
def tallyPutsRow : OpenClaim := { program := "ytijmdmnhbbcahaa", sum := "efef29cb577416158e186c38c43106c7aa117d7a10ddf92c86bfe33504ad654c", func := "quarry/quarrylaw31.TallyPuts", spec := "tallyPuts", inPlace := ["math.Float64bits", "math.Float64frombits", "math.sqrt"], apart := false }
def TallyPutsSaid : Prop := tallyPutsRow.holds Try.pinned (OpenSpec.ofChange tallyPutsSpec)

/-- ITS FALSE NEIGHBOUR: 'it returns false'. Refute it at one input. -/
def tallyPutsWrong : ChangeSpec := { name := "tallyPuts", fn := fun _ => fun
  | [d1, d2] => { results := [.lit (.bool false)], args := [d1, d2] }
  | _ => none }
def TallyPutsWrongFalsely : Prop := tallyPutsRow.holds Try.pinned (OpenSpec.ofChange tallyPutsWrong)

/-- 'quarrylaw31.TallySpreads': WHATEVER THE INPUT: true; the input reads as it did. -/
def tallySpreadsSpec : ChangeSpec := { name := "tallySpreads", fn := fun _ => fun
  | [d] => { results := [.lit (.bool true)], args := [d] }
  | _ => none }
def tallySpreadsRow : OpenClaim := { program := "ytijmdmnhbbcahaa", sum := "efef29cb577416158e186c38c43106c7aa117d7a10ddf92c86bfe33504ad654c", func := "quarry/quarrylaw31.TallySpreads", spec := "tallySpreads", inPlace := ["math.Float64bits", "math.Float64frombits", "math.sqrt"], apart := false }
def TallySpreadsSaid : Prop := tallySpreadsRow.holds Try.pinned (OpenSpec.ofChange tallySpreadsSpec)

/-- ITS FALSE NEIGHBOUR: 'it returns false'. Refute it at one input. -/
def tallySpreadsWrong : ChangeSpec := { name := "tallySpreads", fn := fun _ => fun
  | [d] => { results := [.lit (.bool false)], args := [d] }
  | _ => none }
def TallySpreadsWrongFalsely : Prop := tallySpreadsRow.holds Try.pinned (OpenSpec.ofChange tallySpreadsWrong)

/-- 'quarrylaw31.TallyTones': WHATEVER THE INPUT: true; the input reads as it did. -/
def tallyTonesSpec : ChangeSpec := { name := "tallyTones", fn := fun _ => fun
  | [d] => { results := [.lit (.bool true)], args := [d] }
  | _ => none }
def tallyTonesRow : OpenClaim := { program := "ytijmdmnhbbcahaa", sum := "efef29cb577416158e186c38c43106c7aa117d7a10ddf92c86bfe33504ad654c", func := "quarry/quarrylaw31.TallyTones", spec := "tallyTones", inPlace := ["math.Float64bits", "math.Float64frombits", "math.sqrt"], apart := false }
def TallyTonesSaid : Prop := tallyTonesRow.holds Try.pinned (OpenSpec.ofChange tallyTonesSpec)

/-- ITS FALSE NEIGHBOUR: 'it returns false'. Refute it at one input. -/
def tallyTonesWrong : ChangeSpec := { name := "tallyTones", fn := fun _ => fun
  | [d] => { results := [.lit (.bool false)], args := [d] }
  | _ => none }
def TallyTonesWrongFalsely : Prop := tallyTonesRow.holds Try.pinned (OpenSpec.ofChange tallyTonesWrong)

/-- 'quarrylaw31.TallyJoins': WHATEVER THE INPUT: true; the input reads as it did. -/
def tallyJoinsSpec : ChangeSpec := { name := "tallyJoins", fn := fun _ => fun
  | [d1, d2] => { results := [.lit (.bool true)], args := [d1, d2] }
  | _ => none }
def tallyJoinsRow : OpenClaim := { program := "ytijmdmnhbbcahaa", sum := "efef29cb577416158e186c38c43106c7aa117d7a10ddf92c86bfe33504ad654c", func := "quarry/quarrylaw31.TallyJoins", spec := "tallyJoins", inPlace := ["math.Float64bits", "math.Float64frombits", "math.sqrt"], apart := false }
def TallyJoinsSaid : Prop := tallyJoinsRow.holds Try.pinned (OpenSpec.ofChange tallyJoinsSpec)

/-- ITS FALSE NEIGHBOUR: 'it returns false'. Refute it at one input. -/
def tallyJoinsWrong : ChangeSpec := { name := "tallyJoins", fn := fun _ => fun
  | [d1, d2] => { results := [.lit (.bool false)], args := [d1, d2] }
  | _ => none }
def TallyJoinsWrongFalsely : Prop := tallyJoinsRow.holds Try.pinned (OpenSpec.ofChange tallyJoinsWrong)

/-- 'quarrylaw31.TallyWhole': WHATEVER THE INPUT: true; the input reads as it did. -/
def tallyWholeSpec : ChangeSpec := { name := "tallyWhole", fn := fun _ => fun
  | [d1, d2] => { results := [.lit (.bool true)], args := [d1, d2] }
  | _ => none }
def tallyWholeRow : OpenClaim := { program := "ytijmdmnhbbcahaa", sum := "efef29cb577416158e186c38c43106c7aa117d7a10ddf92c86bfe33504ad654c", func := "quarry/quarrylaw31.TallyWhole", spec := "tallyWhole", inPlace := ["math.Float64bits", "math.Float64frombits", "math.sqrt"], apart := false }
def TallyWholeSaid : Prop := tallyWholeRow.holds Try.pinned (OpenSpec.ofChange tallyWholeSpec)

/-- ITS FALSE NEIGHBOUR: 'it returns false'. Refute it at one input. -/
def tallyWholeWrong : ChangeSpec := { name := "tallyWhole", fn := fun _ => fun
  | [d1, d2] => { results := [.lit (.bool false)], args := [d1, d2] }
  | _ => none }
def TallyWholeWrongFalsely : Prop := tallyWholeRow.holds Try.pinned (OpenSpec.ofChange tallyWholeWrong)

/-- 'quarrylaw31.TallySteps': WHATEVER THE INPUT: true; the input reads as it did. -/
def tallyStepsSpec : ChangeSpec := { name := "tallySteps", fn := fun _ => fun
  | [d1, d2] => { results := [.lit (.bool true)], args := [d1, d2] }
  | _ => none }
def tallyStepsRow : OpenClaim := { program := "ytijmdmnhbbcahaa", sum := "efef29cb577416158e186c38c43106c7aa117d7a10ddf92c86bfe33504ad654c", func := "quarry/quarrylaw31.TallySteps", spec := "tallySteps", inPlace := ["math.Float64bits", "math.Float64frombits", "math.sqrt"], apart := false }
def TallyStepsSaid : Prop := tallyStepsRow.holds Try.pinned (OpenSpec.ofChange tallyStepsSpec)

/-- ITS FALSE NEIGHBOUR: 'it returns false'. Refute it at one input. -/
def tallyStepsWrong : ChangeSpec := { name := "tallySteps", fn := fun _ => fun
  | [d1, d2] => { results := [.lit (.bool false)], args := [d1, d2] }
  | _ => none }
def TallyStepsWrongFalsely : Prop := tallyStepsRow.holds Try.pinned (OpenSpec.ofChange tallyStepsWrong)

/-- 'quarrylaw31.TallyTop': WHATEVER THE INPUT: true; the input reads as it did. -/
def tallyTopSpec : ChangeSpec := { name := "tallyTop", fn := fun _ => fun
  | [d1, d2, d3] => { results := [.lit (.bool true)], args := [d1, d2, d3] }
  | _ => none }
def tallyTopRow : OpenClaim := { program := "ytijmdmnhbbcahaa", sum := "efef29cb577416158e186c38c43106c7aa117d7a10ddf92c86bfe33504ad654c", func := "quarry/quarrylaw31.TallyTop", spec := "tallyTop", inPlace := ["math.Float64bits", "math.Float64frombits", "math.sqrt"], unfollowed := true, recurses := true, apart := false }
def TallyTopSaid : Prop := tallyTopRow.holds Try.pinned (OpenSpec.ofChange tallyTopSpec)

/-- ITS FALSE NEIGHBOUR: 'it returns false'. Refute it at one input. -/
def tallyTopWrong : ChangeSpec := { name := "tallyTop", fn := fun _ => fun
  | [d1, d2, d3] => { results := [.lit (.bool false)], args := [d1, d2, d3] }
  | _ => none }
def TallyTopWrongFalsely : Prop := tallyTopRow.holds Try.pinned (OpenSpec.ofChange tallyTopWrong)

/-- 'quarrylaw31.TallyBegins': WHATEVER THE INPUT: true; the input reads as it did. -/
def tallyBeginsSpec : ChangeSpec := { name := "tallyBegins", fn := fun _ => fun
  | [d1, d2] => { results := [.lit (.bool true)], args := [d1, d2] }
  | _ => none }
def tallyBeginsRow : OpenClaim := { program := "ytijmdmnhbbcahaa", sum := "efef29cb577416158e186c38c43106c7aa117d7a10ddf92c86bfe33504ad654c", func := "quarry/quarrylaw31.TallyBegins", spec := "tallyBegins", inPlace := ["math.Float64bits", "math.Float64frombits", "math.sqrt"], unfollowed := true, recurses := true, apart := false }
def TallyBeginsSaid : Prop := tallyBeginsRow.holds Try.pinned (OpenSpec.ofChange tallyBeginsSpec)

/-- ITS FALSE NEIGHBOUR: 'it returns false'. Refute it at one input. -/
def tallyBeginsWrong : ChangeSpec := { name := "tallyBegins", fn := fun _ => fun
  | [d1, d2] => { results := [.lit (.bool false)], args := [d1, d2] }
  | _ => none }
def TallyBeginsWrongFalsely : Prop := tallyBeginsRow.holds Try.pinned (OpenSpec.ofChange tallyBeginsWrong)

/- THE SECOND FORM. 'bulk': how many values and letters a reading holds, each counted each time it is reached (what is shared counts as often as it is met; a slice's spare places count too). A statement '..UptoSaid' is the law's where the arguments, and the package variables that the reading takes, are together of bulk at most 1048576: NARROWER than '..Said'. Prove '..Said' where nothing that the law and all that it calls make is longer than what came in: it says more and counts as full. Else prove '..UptoSaid'. A law counts once. -/
mutual
def uptoBulk {H : Type} : DataW H → Nat
  | .lit (.string bytes) => bytes.length + 1
  | .lit _ => 1
  | .nil => 1
  | .ptr d => uptoBulk d + 1
  | .slice elems spare => uptoBulkAll elems + uptoBulkAll spare + 1
  | .agg parts => uptoBulkAll parts + 1
  | .iface _ d => uptoBulk d + 1
  | .map entries => uptoBulkEntries entries + 1
  | .held _ => 1
def uptoBulkAll {H : Type} : List (DataW H) → Nat
  | [] => 0
  | d :: r => uptoBulk d + uptoBulkAll r
def uptoBulkEntries {H : Type} : List (Lit × DataW H) → Nat
  | [] => 0
  | x :: r => uptoBulkEntry x + uptoBulkEntries r
def uptoBulkEntry {H : Type} : Lit × DataW H → Nat
  | (.string bytes, d) => bytes.length + uptoBulk d + 1
  | (_, d) => uptoBulk d + 1
 end
def uptoSmall : (H : Type) → List (DataW H) → Bool := fun _ ds => decide (uptoBulkAll ds ≤ 1048576)
def OpenSpec.upto (s : _root_.Go.ChangeSpec) : _root_.Go.OpenSpec := { _root_.Go.OpenSpec.ofChange s with cond := some uptoSmall }

/-- 'quarrylaw31.TallyOf', WHERE WHAT IT READS IS OF BULK AT MOST 1048576: true; the input reads as it did. -/
def tallyOfUptoRow : OpenClaim := { program := "ytijmdmnhbbcahaa", sum := "efef29cb577416158e186c38c43106c7aa117d7a10ddf92c86bfe33504ad654c", func := "quarry/quarrylaw31.TallyOf", spec := "tallyOf", inPlace := ["math.Float64bits", "math.Float64frombits", "math.sqrt"], apart := false, narrowed := true }
def TallyOfUptoSaid : Prop := tallyOfUptoRow.holds Try.pinned (OpenSpec.upto tallyOfSpec)

/-- 'quarrylaw31.TallyPuts', WHERE WHAT IT READS IS OF BULK AT MOST 1048576: true; the input reads as it did. -/
def tallyPutsUptoRow : OpenClaim := { program := "ytijmdmnhbbcahaa", sum := "efef29cb577416158e186c38c43106c7aa117d7a10ddf92c86bfe33504ad654c", func := "quarry/quarrylaw31.TallyPuts", spec := "tallyPuts", inPlace := ["math.Float64bits", "math.Float64frombits", "math.sqrt"], apart := false, narrowed := true }
def TallyPutsUptoSaid : Prop := tallyPutsUptoRow.holds Try.pinned (OpenSpec.upto tallyPutsSpec)

/-- 'quarrylaw31.TallySpreads', WHERE WHAT IT READS IS OF BULK AT MOST 1048576: true; the input reads as it did. -/
def tallySpreadsUptoRow : OpenClaim := { program := "ytijmdmnhbbcahaa", sum := "efef29cb577416158e186c38c43106c7aa117d7a10ddf92c86bfe33504ad654c", func := "quarry/quarrylaw31.TallySpreads", spec := "tallySpreads", inPlace := ["math.Float64bits", "math.Float64frombits", "math.sqrt"], apart := false, narrowed := true }
def TallySpreadsUptoSaid : Prop := tallySpreadsUptoRow.holds Try.pinned (OpenSpec.upto tallySpreadsSpec)

/-- 'quarrylaw31.TallyTones', WHERE WHAT IT READS IS OF BULK AT MOST 1048576: true; the input reads as it did. -/
def tallyTonesUptoRow : OpenClaim := { program := "ytijmdmnhbbcahaa", sum := "efef29cb577416158e186c38c43106c7aa117d7a10ddf92c86bfe33504ad654c", func := "quarry/quarrylaw31.TallyTones", spec := "tallyTones", inPlace := ["math.Float64bits", "math.Float64frombits", "math.sqrt"], apart := false, narrowed := true }
def TallyTonesUptoSaid : Prop := tallyTonesUptoRow.holds Try.pinned (OpenSpec.upto tallyTonesSpec)

/-- 'quarrylaw31.TallyJoins', WHERE WHAT IT READS IS OF BULK AT MOST 1048576: true; the input reads as it did. -/
def tallyJoinsUptoRow : OpenClaim := { program := "ytijmdmnhbbcahaa", sum := "efef29cb577416158e186c38c43106c7aa117d7a10ddf92c86bfe33504ad654c", func := "quarry/quarrylaw31.TallyJoins", spec := "tallyJoins", inPlace := ["math.Float64bits", "math.Float64frombits", "math.sqrt"], apart := false, narrowed := true }
def TallyJoinsUptoSaid : Prop := tallyJoinsUptoRow.holds Try.pinned (OpenSpec.upto tallyJoinsSpec)

/-- 'quarrylaw31.TallyWhole', WHERE WHAT IT READS IS OF BULK AT MOST 1048576: true; the input reads as it did. -/
def tallyWholeUptoRow : OpenClaim := { program := "ytijmdmnhbbcahaa", sum := "efef29cb577416158e186c38c43106c7aa117d7a10ddf92c86bfe33504ad654c", func := "quarry/quarrylaw31.TallyWhole", spec := "tallyWhole", inPlace := ["math.Float64bits", "math.Float64frombits", "math.sqrt"], apart := false, narrowed := true }
def TallyWholeUptoSaid : Prop := tallyWholeUptoRow.holds Try.pinned (OpenSpec.upto tallyWholeSpec)

/-- 'quarrylaw31.TallySteps', WHERE WHAT IT READS IS OF BULK AT MOST 1048576: true; the input reads as it did. -/
def tallyStepsUptoRow : OpenClaim := { program := "ytijmdmnhbbcahaa", sum := "efef29cb577416158e186c38c43106c7aa117d7a10ddf92c86bfe33504ad654c", func := "quarry/quarrylaw31.TallySteps", spec := "tallySteps", inPlace := ["math.Float64bits", "math.Float64frombits", "math.sqrt"], apart := false, narrowed := true }
def TallyStepsUptoSaid : Prop := tallyStepsUptoRow.holds Try.pinned (OpenSpec.upto tallyStepsSpec)

/-- 'quarrylaw31.TallyTop', WHERE WHAT IT READS IS OF BULK AT MOST 1048576: true; the input reads as it did. -/
def tallyTopUptoRow : OpenClaim := { program := "ytijmdmnhbbcahaa", sum := "efef29cb577416158e186c38c43106c7aa117d7a10ddf92c86bfe33504ad654c", func := "quarry/quarrylaw31.TallyTop", spec := "tallyTop", inPlace := ["math.Float64bits", "math.Float64frombits", "math.sqrt"], unfollowed := true, recurses := true, apart := false, narrowed := true }
def TallyTopUptoSaid : Prop := tallyTopUptoRow.holds Try.pinned (OpenSpec.upto tallyTopSpec)

/-- 'quarrylaw31.TallyBegins', WHERE WHAT IT READS IS OF BULK AT MOST 1048576: true; the input reads as it did. -/
def tallyBeginsUptoRow : OpenClaim := { program := "ytijmdmnhbbcahaa", sum := "efef29cb577416158e186c38c43106c7aa117d7a10ddf92c86bfe33504ad654c", func := "quarry/quarrylaw31.TallyBegins", spec := "tallyBegins", inPlace := ["math.Float64bits", "math.Float64frombits", "math.sqrt"], unfollowed := true, recurses := true, apart := false, narrowed := true }
def TallyBeginsUptoSaid : Prop := tallyBeginsUptoRow.holds Try.pinned (OpenSpec.upto tallyBeginsSpec)

end Rows
end Go.Proofs.Ytijmdmnhbbcahaa
