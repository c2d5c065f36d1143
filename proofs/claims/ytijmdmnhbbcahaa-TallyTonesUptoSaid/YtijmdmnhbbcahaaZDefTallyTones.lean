-- Written by shrink.py, a program of this session: what the law needs of the print and its words. Lean checks it.
import Derived.Test.YtijmdmnhbbcahaaZPTallyTonesx
import Derived.Test.YtijmdmnhbbcahaaZTallyTonesW1
namespace Go.Proofs.Ytijmdmnhbbcahaa.PTallyTones
open Go.RowKit Go.Proofs.YtijmdmnhbbcahaaW.PrintWords
set_option linter.unusedVariables false
def quarrylaw31_TallyTones.Pure : Prop:=∀ (x0 : List Nat),(x0.length * 8 ≤ 140737488351232 ∧ ∀ y ∈ x0,(Lit.float .f64 y).wf = true) → ((x0.map (fun x=>1)).sum + 1) ≤ 1048576 → ∃ k,quarrylaw31_TallyTones.f k x0 = some true
end Go.Proofs.Ytijmdmnhbbcahaa.PTallyTones
