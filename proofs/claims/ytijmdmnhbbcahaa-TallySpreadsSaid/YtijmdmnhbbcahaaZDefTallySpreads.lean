-- Written by shrink.py, a program of this session: what the law needs of the print and its words. Lean checks it.
import Derived.Test.YtijmdmnhbbcahaaZPTallySpreadsx
import Derived.Test.YtijmdmnhbbcahaaZTallySpreadsW1
namespace Go.Proofs.Ytijmdmnhbbcahaa.PTallySpreads
open Go.RowKit Go.Proofs.YtijmdmnhbbcahaaW.PrintWords
set_option linter.unusedVariables false
inductive SZ26 : S26 → Prop
 | mk (x : S26) (h0 : (Lit.int .i64 x.f0).wf = true) (h1 : (Lit.float .f64 x.f1).wf = true) (h2 : (Lit.float .f64 x.f2).wf = true) (h3 : (Lit.float .f64 x.f3).wf = true) (h4 : (Lit.float .f64 x.f4).wf = true) (h5 : (Lit.float .f64 x.f5).wf = true) (h6 : (Lit.float .f64 x.f6).wf = true) : SZ26 x
def bulk26 : S26 → Nat
 | ⟨f0,f1,f2,f3,f4,f5,f6⟩=>1 + 1 + 1 + 1 + 1 + 1 + 1 + 1
def quarrylaw31_TallySpreads.Pure : Prop:=∀ (x0 : S26),SZ26 x0 → ∃ k,quarrylaw31_TallySpreads.f k x0.f0 x0.f1 x0.f2 x0.f3 x0.f4 x0.f5 x0.f6 = some true
end Go.Proofs.Ytijmdmnhbbcahaa.PTallySpreads
