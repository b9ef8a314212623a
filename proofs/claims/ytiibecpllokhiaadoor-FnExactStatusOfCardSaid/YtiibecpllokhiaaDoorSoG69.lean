import Derived.Test.YtiibecpllokhiaaDoorSoB0
import Derived.Test.YtiibecpllokhiaaDoorSoG13
import Derived.Test.YtiibecpllokhiaaDoorSoG31
import Derived.Test.YtiibecpllokhiaaDoorSoG68
import Derived.Test.YtiibecpllokhiaaDoorSoG71
import Derived.Test.YtiibecpllokhiaaDoorSoWApart
import Derived.Test.YtiibecpllokhiaaDoorSoWFoot
import Derived.Test.YtiibecpllokhiaaDoorSoWGuard
import Derived.Test.YtiibecpllokhiaaDoorSoWKept
import Derived.Test.YtiibecpllokhiaaDoorSoWLast
import Derived.Test.YtiibecpllokhiaaDoorSoWMore
import Derived.Test.YtiibecpllokhiaaDoorSoWN
import Derived.Test.YtiibecpllokhiaaDoorSoWRepsOne
import Derived.Test.YtiibecpllokhiaaDoorSoWShare
import Derived.Test.YtiibecpllokhiaaDoorSoWTab
import Derived.Test.YtiibecpllokhiaaDoorSoWWords
namespace Go.Proofs.YtiibecpllokhiaaDoor.Q
open Go.RowKit Go.Proofs.YtiibecpllokhiaaDoorW.PrintWords Go.Proofs.YtiibecpllokhiaaDoorW.PrintLast Go.Proofs.YtiibecpllokhiaaDoorW.PrintMore
attribute [local go_sem] max2_int min2_int max_two min_two max_three min_three max_four min_four   -- for this text's walks alone
set_option linter.unusedVariables false
set_option linter.unusedSimpArgs false
end Go.Proofs.YtiibecpllokhiaaDoor.Q
