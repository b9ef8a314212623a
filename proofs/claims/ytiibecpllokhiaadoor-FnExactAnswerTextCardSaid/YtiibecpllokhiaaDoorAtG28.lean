import Derived.Test.YtiibecpllokhiaaDoorAtB0
import Derived.Test.YtiibecpllokhiaaDoorAtG15
import Derived.Test.YtiibecpllokhiaaDoorAtG49
import Derived.Test.YtiibecpllokhiaaDoorAtG61
import Derived.Test.YtiibecpllokhiaaDoorAtWApart
import Derived.Test.YtiibecpllokhiaaDoorAtWFoot
import Derived.Test.YtiibecpllokhiaaDoorAtWKept
import Derived.Test.YtiibecpllokhiaaDoorAtWLast
import Derived.Test.YtiibecpllokhiaaDoorAtWMore
import Derived.Test.YtiibecpllokhiaaDoorAtWN
import Derived.Test.YtiibecpllokhiaaDoorAtWRepsOne
import Derived.Test.YtiibecpllokhiaaDoorAtWShare
import Derived.Test.YtiibecpllokhiaaDoorAtWWords
namespace Go.Proofs.YtiibecpllokhiaaDoor.Q
open Go.RowKit Go.Proofs.YtiibecpllokhiaaDoorW.PrintWords Go.Proofs.YtiibecpllokhiaaDoorW.PrintLast Go.Proofs.YtiibecpllokhiaaDoorW.PrintMore
attribute [local go_sem] max2_int min2_int max_two min_two max_three min_three max_four min_four   -- for this text's walks alone
set_option linter.unusedVariables false
set_option linter.unusedSimpArgs false
end Go.Proofs.YtiibecpllokhiaaDoor.Q
