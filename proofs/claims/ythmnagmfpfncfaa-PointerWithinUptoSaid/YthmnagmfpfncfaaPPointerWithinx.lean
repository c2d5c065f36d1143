-- Written by px.py, a program of this session, over the kit's print. Lean checks it.
import Derived.Test.YthmnagmfpfncfaaPPointerWithinx0
import Derived.Test.YthmnagmfpfncfaaPPointerWithinx1
import Derived.Test.YthmnagmfpfncfaaPPointerWithinx2
import Derived.Test.YthmnagmfpfncfaaPPointerWithinx3
import Derived.Test.YthmnagmfpfncfaaPPointerWithinx4
namespace Go.Proofs.Ythmnagmfpfncfaa.PPointerWithin
open Go.RowKit Go.Proofs.YthmnagmfpfncfaaW.PrintWords Go.Proofs.YthmnagmfpfncfaaW.PrintLast Go.Proofs.YthmnagmfpfncfaaW.PrintMore
attribute [local go_sem] max2_int min2_int max_two min_two max_three min_three max_four min_four   -- for this text's walks alone
set_option linter.unusedVariables false
set_option linter.unusedSimpArgs false

end Go.Proofs.Ythmnagmfpfncfaa.PPointerWithin
