-- Written by shrink.py, a program of this session: what the law needs of the print and its words. Lean checks it.
import Derived.Test.YtijmdmnhbbcahaaZPTallyStepsx
import Derived.Test.YtijmdmnhbbcahaaZTallyStepsW1
namespace Go.Proofs.Ytijmdmnhbbcahaa.PTallySteps
open Go.RowKit Go.Proofs.YtijmdmnhbbcahaaW.PrintWords
set_option linter.unusedVariables false
def quarrylaw31_TallySteps.Pure : Prop:=∀ (x0 : List Nat) (x1 : Nat),(x0.length * 8 ≤ 140737488351232 ∧ ∀ y ∈ x0,(Lit.float .f64 y).wf = true) → (Lit.float .f64 x1).wf = true → ∃ k,quarrylaw31_TallySteps.f k x0 x1 = some true
end Go.Proofs.Ytijmdmnhbbcahaa.PTallySteps
