-- Written by shrink.py, a program of this session: what the law needs of the print and its words. Lean checks it.
import Derived.Test.YtppenppagkfigaaDoorZPPointerChainsx
import Derived.Test.YtppenppagkfigaaDoorZPointerChainsW1
namespace Go.Proofs.YtppenppagkfigaaDoor.PPointerChains
open Go.RowKit Go.Proofs.YtppenppagkfigaaDoorW.PrintWords
set_option linter.unusedVariables false
def quarrylaw20_PointerChains.PureU : Prop:=∀ (x0 : ByteArray) (x1 : ByteArray) (x2 : ByteArray),x0.size ≤ 140737488351232 → x1.size ≤ 140737488351232 → x2.size ≤ 140737488351232 → (x0.size + 1) + (x1.size + 1) + (x2.size + 1) ≤ 1048576 → ∃ k,quarrylaw20_PointerChains.f k x0 x1 x2 = some true
end Go.Proofs.YtppenppagkfigaaDoor.PPointerChains
