-- Written by shrink.py, a program of this session: what the law needs of the print and its words. Lean checks it.
import Derived.Test.YtppenppagkfigaaDoorZPPointerBackx
import Derived.Test.YtppenppagkfigaaDoorZPointerBackW1
namespace Go.Proofs.YtppenppagkfigaaDoor.PPointerBack
open Go.RowKit Go.Proofs.YtppenppagkfigaaDoorW.PrintWords
set_option linter.unusedVariables false
def quarrylaw20_PointerBack.Pure : Prop:=∀ (x0 : List ByteArray) (x1 : ByteArray),(x0.length * 16 ≤ 140737488351232 ∧ ∀ y ∈ x0,y.size ≤ 140737488351232) → x1.size ≤ 140737488351232 → ((x0.map (fun x=>(x.size + 1))).sum + 1) + (x1.size + 1) ≤ 1048576 → ∃ k,quarrylaw20_PointerBack.f k x0 x1 = some true
end Go.Proofs.YtppenppagkfigaaDoor.PPointerBack
