import Derived.Test.YtoopdknphikgkaaPdSkOk
import Derived.Test.YtoopdknphikgkaaPdSum
import Derived.Test.YtoopdknphikgkaaPdG37
import Derived.Test.YtoopdknphikgkaaPdG31
namespace Go.Proofs.Ytoopdknphikgkaa.Q
open Go.RowKit Go.Proofs.YtoopdknphikgkaaW.PrintWords Go.Proofs.YtoopdknphikgkaaW.PrintLast Go.Proofs.YtoopdknphikgkaaW.PrintMore
def gsL (pl : Nat → Int) : List (List Int) → Nat → Int → Int
  | [], _, m => m
  | r :: t, i, m => gsL pl t (i + 1) (mn m (rd r (pl i)))
def gs (l : List (List Int)) (pl : Nat → Int) (i : Nat) (m : Int) : Int := gsL pl (l.drop i) i m
end Go.Proofs.Ytoopdknphikgkaa.Q
