import Derived.Test.YtoopdknphikgkaaPoB0
import Derived.Test.YtoopdknphikgkaaPoG55
import Derived.Test.YtoopdknphikgkaaPoG91
import Derived.Test.YtoopdknphikgkaaPoWords
namespace Go.Proofs.Ytoopdknphikgkaa.Q
open Go.RowKit Go.Proofs.YtoopdknphikgkaaW.PrintWords Go.Proofs.YtoopdknphikgkaaW.PrintLast Go.Proofs.YtoopdknphikgkaaW.PrintMore
attribute [local go_sem] max2_int min2_int max_two min_two max_three min_three max_four min_four   -- for this text's walks alone
set_option linter.unusedVariables false
set_option linter.unusedSimpArgs false
end Go.Proofs.Ytoopdknphikgkaa.Q
