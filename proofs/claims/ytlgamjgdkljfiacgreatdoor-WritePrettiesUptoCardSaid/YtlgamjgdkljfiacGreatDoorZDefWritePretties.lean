-- Written by shrink.py, a program of this session: what the law needs of the print and its words. Lean checks it.
import Derived.Test.YtlgamjgdkljfiacGreatDoorZPWritePrettiesx
import Derived.Test.YtlgamjgdkljfiacGreatDoorZWritePrettiesW1
namespace Go.Proofs.YtlgamjgdkljfiacGreatDoor.PWritePretties
open Go.RowKit Go.Proofs.YtlgamjgdkljfiacGreatDoorW.PrintWords
set_option linter.unusedVariables false
inductive SZ25 : S25 → Prop
 | mk (x : S25) (h0 : (Lit.int .i64 x.f0).wf = true) (h1 : True) (h2 : x.f2.size ≤ 140737488351232) (h3 : x.f3.size ≤ 140737488351232) (h4 : x.f4.length * 16 ≤ 140737488351232) (h4' : ∀ y ∈ x.f4,y.size ≤ 140737488351232) (h5 : x.f5.length * 96 ≤ 140737488351232) (h5' : ∀ y ∈ x.f5,SZ25 y) : SZ25 x
mutual
def bulk25 : S25 → Nat
 | ⟨f0,f1,f2,f3,f4,f5⟩=>1 + 1 + (f2.size + 1) + (f3.size + 1) + ((f4.map (fun x=>(x.size + 1))).sum + 1) + bulks25 f5 + 1 + 1
def bulks25 : List S25 → Nat
 | []=>0
 | x :: r=>bulk25 x + bulks25 r
end
theorem bulks25_eq (l : List S25) : bulks25 l = (l.map bulk25).sum:=by
 induction l with
 | nil=>simp [bulks25]
 | cons x r ih=>simp [bulks25,ih]
def quarrylaw18_WritePretties.Pure : Prop:=∀ (x0 : S25) (x1 : Int),SZ25 x0 → (Lit.int .i64 x1).wf = true → (bulk25 x0) + 1 ≤ 1048576 → ∃ k,quarrylaw18_WritePretties.f k x0.f0 x0.f1 x0.f2 x0.f3 x0.f4 x0.f5 x1 = some true
end Go.Proofs.YtlgamjgdkljfiacGreatDoor.PWritePretties
