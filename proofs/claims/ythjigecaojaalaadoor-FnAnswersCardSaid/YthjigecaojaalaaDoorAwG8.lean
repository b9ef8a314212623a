import Derived.Lib.Join
import Derived.Test.YthjigecaojaalaaDoorAwShelf
import Derived.Test.YthjigecaojaalaaDoorAwB0
import Derived.Test.YthjigecaojaalaaDoorAwG29
import Derived.Test.YthjigecaojaalaaDoorAwG30
import Derived.Test.YthjigecaojaalaaDoorAwG43
import Derived.Test.YthjigecaojaalaaDoorAwG60
import Derived.Test.YthjigecaojaalaaDoorAwWords
namespace Go.Proofs.YthjigecaojaalaaDoor.Q
open Go.RowKit Go.Proofs.YthjigecaojaalaaDoorW.PrintWords Go.Proofs.YthjigecaojaalaaDoorW.PrintLast Go.Proofs.YthjigecaojaalaaDoorW.PrintMore
attribute [local go_sem] max2_int min2_int max_two min_two max_three min_three max_four min_four   -- for this text's walks alone
set_option linter.unusedVariables false
set_option linter.unusedSimpArgs false
end Go.Proofs.YthjigecaojaalaaDoor.Q
