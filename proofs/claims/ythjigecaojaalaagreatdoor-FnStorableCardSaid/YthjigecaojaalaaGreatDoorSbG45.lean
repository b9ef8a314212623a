import Derived.Test.YthjigecaojaalaaGreatDoorSbB0
import Derived.Test.YthjigecaojaalaaGreatDoorSbG10
import Derived.Test.YthjigecaojaalaaGreatDoorSbG28
import Derived.Test.YthjigecaojaalaaGreatDoorSbWords
namespace Go.Proofs.YthjigecaojaalaaGreatDoor.Q
open Go.RowKit Go.Proofs.YthjigecaojaalaaGreatDoorW.PrintWords Go.Proofs.YthjigecaojaalaaGreatDoorW.PrintLast Go.Proofs.YthjigecaojaalaaGreatDoorW.PrintMore
attribute [local go_sem] max2_int min2_int max_two min_two max_three min_three max_four min_four   -- for this text's walks alone
set_option linter.unusedVariables false
set_option linter.unusedSimpArgs false
end Go.Proofs.YthjigecaojaalaaGreatDoor.Q
