-- Written by wip/myprint.py of this session's repo, out of the translation. Lean checks it.
import Derived.Test.YtkhalpeiifdfiaaQEvalNodesx0
import Derived.Test.YtkhalpeiifdfiaaQEvalNodesx1
import Derived.Test.YtkhalpeiifdfiaaQEvalNodesx2
import Derived.Test.YtkhalpeiifdfiaaQEvalNodesx3
import Derived.Test.YtkhalpeiifdfiaaQEvalNodesx4
import Derived.Test.YtkhalpeiifdfiaaQEvalNodesx5
import Derived.Test.YtkhalpeiifdfiaaQEvalNodesx6
import Derived.Test.YtkhalpeiifdfiaaQEvalNodesx7
namespace Go.Proofs.Ytkhalpeiifdfiaa.QEvalNodes
open Go.RowKit Go.Proofs.YtkhalpeiifdfiaaW.PrintWords Go.Proofs.YtkhalpeiifdfiaaW.PrintLast Go.Proofs.YtkhalpeiifdfiaaW.PrintMore
attribute [local go_sem] max2_int min2_int max_two min_two max_three min_three max_four min_four   -- for this text's walks alone
set_option linter.unusedVariables false
set_option linter.unusedSimpArgs false

end Go.Proofs.Ytkhalpeiifdfiaa.QEvalNodes
