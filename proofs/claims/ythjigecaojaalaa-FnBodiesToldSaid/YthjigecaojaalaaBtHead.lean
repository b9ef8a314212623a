import Derived.Test.YthjigecaojaalaaBtStr
import Derived.Test.YthjigecaojaalaaBtG62
namespace Go.Proofs.Ythjigecaojaalaa.Q
open Go.RowKit Go.Proofs.YthjigecaojaalaaW.PrintWords Go.Proofs.YthjigecaojaalaaW.PrintLast Go.Proofs.YthjigecaojaalaaW.PrintMore
theorem rdF_get (l : List S45) (i : Nat) (h : i < l.length) : rd_T45 l i = l[i] := by simp [rd_T45, h]
end Go.Proofs.Ythjigecaojaalaa.Q
