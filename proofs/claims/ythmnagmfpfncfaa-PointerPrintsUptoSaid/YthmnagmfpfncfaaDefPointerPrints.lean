-- Written by px.py, a program of this session, over the kit's print. Lean checks it.
import Derived.Test.YthmnagmfpfncfaaPPointerPrintsx
import Derived.Test.YthmnagmfpfncfaaXOpen
namespace Go.Proofs.Ythmnagmfpfncfaa.PPointerPrints
open Go.RowKit Go.Proofs.YthmnagmfpfncfaaW.PrintWords
def quarrylaw20_PointerPrints.Pure : Prop := ∀ (x0 : List ByteArray), (x0.length * 16 ≤ 140737488351232 ∧ ∀ y ∈ x0, y.size ≤ 140737488351232) → ((x0.map (fun x => (x.size + 1))).sum + 1) ≤ 1048576 → ∃ k, quarrylaw20_PointerPrints.f k x0 = some true
end Go.Proofs.Ythmnagmfpfncfaa.PPointerPrints
