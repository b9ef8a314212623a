import Derived.Test.YthjigecaojaalaaDoorProg
import Derived.Test.YthjigecaojaalaaDoorKoWords
import Derived.Deep.Slices
import Derived.Deep.Strs
import Derived.Lib.SmallJoins
namespace Go.Proofs.YthjigecaojaalaaDoor.Open
open Go.RowKit Go.ChangeShapes Go.WideShapes Go.Joins Go.Deep Go.Proofs.YthjigecaojaalaaDoorW.PrintWords
set_option linter.unusedVariables false
variable {H : Type} {enc : TypeId × Value → H} {P : Program} {w : World} {spare : Nat → Bool} {held : Bool}
end Go.Proofs.YthjigecaojaalaaDoor.Open
