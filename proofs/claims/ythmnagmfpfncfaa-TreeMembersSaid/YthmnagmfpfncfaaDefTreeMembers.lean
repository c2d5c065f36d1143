-- Written by px.py, a program of this session, over the kit's print. Lean checks it.
import Derived.Test.YthmnagmfpfncfaaPTreeMembersx
import Derived.Test.YthmnagmfpfncfaaXOpen
namespace Go.Proofs.Ythmnagmfpfncfaa.PTreeMembers
open Go.RowKit Go.Proofs.YthmnagmfpfncfaaW.PrintWords
inductive SZ28 : S28 → Prop
  | mk (x : S28) (h0 : (Lit.int .i64 x.f0).wf = true) (h1 : True) (h2 : x.f2.size ≤ 140737488351232) (h3 : x.f3.size ≤ 140737488351232) (h4 : x.f4.length * 16 ≤ 140737488351232) (h4' : ∀ y ∈ x.f4, y.size ≤ 140737488351232) (h5 : x.f5.length * 96 ≤ 140737488351232) (h5' : ∀ y ∈ x.f5, SZ28 y) : SZ28 x
def quarrylaw17_TreeMembers.Pure : Prop := ∀ (x0 : S28) (x1 : ByteArray), SZ28 x0 → x1.size ≤ 140737488351232 → ∃ k, quarrylaw17_TreeMembers.f k x0.f0 x0.f1 x0.f2 x0.f3 x0.f4 x0.f5 x1 = some true
end Go.Proofs.Ythmnagmfpfncfaa.PTreeMembers
