import Derived.Test.YtiibecpllokhiaaDoorHtB0
import Derived.Test.YtiibecpllokhiaaDoorHtG13
import Derived.Test.YtiibecpllokhiaaDoorHtG18
import Derived.Test.YtiibecpllokhiaaDoorHtG31
import Derived.Test.YtiibecpllokhiaaDoorHtG65
import Derived.Test.YtiibecpllokhiaaDoorHtG68
import Derived.Test.YtiibecpllokhiaaDoorHtG71
import Derived.Test.YtiibecpllokhiaaDoorHtG77
import Derived.Test.YtiibecpllokhiaaDoorHtG111
import Derived.Test.YtiibecpllokhiaaDoorHtWords
namespace Go.Proofs.YtiibecpllokhiaaDoor.Q
open Go.RowKit Go.Proofs.YtiibecpllokhiaaDoorW.PrintWords Go.Proofs.YtiibecpllokhiaaDoorW.PrintLast Go.Proofs.YtiibecpllokhiaaDoorW.PrintMore
attribute [local go_sem] max2_int min2_int max_two min_two max_three min_three max_four min_four   -- for this text's walks alone
set_option linter.unusedVariables false
set_option linter.unusedSimpArgs false
end Go.Proofs.YtiibecpllokhiaaDoor.Q
