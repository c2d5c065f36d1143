-- Written by px.py, a program of this session, over the kit's print. Lean checks it.
import Derived.Test.YthmnagmfpfncfaaPPointerWithinx
import Derived.Test.YthmnagmfpfncfaaXOpen
namespace Go.Proofs.Ythmnagmfpfncfaa.PPointerWithin
open Go.RowKit Go.Proofs.YthmnagmfpfncfaaW.PrintWords
def quarrylaw20_PointerWithin.PureU : Prop := ∀ (x0 : ByteArray) (x1 : ByteArray), x0.size ≤ 140737488351232 → x1.size ≤ 140737488351232 → (x0.size + 1) + (x1.size + 1) ≤ 1048576 → ∃ k, quarrylaw20_PointerWithin.f k x0 x1 = some true
end Go.Proofs.Ythmnagmfpfncfaa.PPointerWithin
