import Derived.Test.YthjigecaojaalaaBtDraw
import Derived.Test.YthjigecaojaalaaBtG22
namespace Go.Proofs.Ythjigecaojaalaa.Q
open Go.RowKit Go.Proofs.YthjigecaojaalaaW.PrintWords Go.Proofs.YthjigecaojaalaaW.PrintLast Go.Proofs.YthjigecaojaalaaW.PrintMore
def Pl (r : List Int) : Prop := r.length = 12 ∧ ∀ p ∈ r, 0 ≤ p ∧ p < 10000
end Go.Proofs.Ythjigecaojaalaa.Q
