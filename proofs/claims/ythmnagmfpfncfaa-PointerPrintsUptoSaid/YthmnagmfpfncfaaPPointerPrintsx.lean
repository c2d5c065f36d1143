-- Written by px.py, a program of this session, over the kit's print. Lean checks it.
import Derived.Test.YthmnagmfpfncfaaPPointerPrintsx0
import Derived.Test.YthmnagmfpfncfaaPPointerPrintsx1
import Derived.Test.YthmnagmfpfncfaaPPointerPrintsx2
import Derived.Test.YthmnagmfpfncfaaPPointerPrintsx3
import Derived.Test.YthmnagmfpfncfaaPPointerPrintsx4
import Derived.Test.YthmnagmfpfncfaaPPointerPrintsx5
import Derived.Test.YthmnagmfpfncfaaPPointerPrintsx6
import Derived.Test.YthmnagmfpfncfaaPPointerPrintsx7
import Derived.Test.YthmnagmfpfncfaaPPointerPrintsx8
namespace Go.Proofs.Ythmnagmfpfncfaa.PPointerPrints
open Go.RowKit Go.Proofs.YthmnagmfpfncfaaW.PrintWords Go.Proofs.YthmnagmfpfncfaaW.PrintLast Go.Proofs.YthmnagmfpfncfaaW.PrintMore
attribute [local go_sem] max2_int min2_int max_two min_two max_three min_three max_four min_four   -- for this text's walks alone
set_option linter.unusedVariables false
set_option linter.unusedSimpArgs false

end Go.Proofs.Ythmnagmfpfncfaa.PPointerPrints
