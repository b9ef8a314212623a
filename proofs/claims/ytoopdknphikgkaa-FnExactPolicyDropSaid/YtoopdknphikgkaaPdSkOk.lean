import Derived.Test.YtoopdknphikgkaaPdInts
import Derived.Test.YtoopdknphikgkaaPdWithin
import Derived.Test.YtoopdknphikgkaaPdG65
import Derived.Test.YtoopdknphikgkaaPdG67
import Derived.Test.YtoopdknphikgkaaPdG102
import Derived.Test.YtoopdknphikgkaaPdG105
namespace Go.Proofs.Ytoopdknphikgkaa.Q
open Go.RowKit Go.Proofs.YtoopdknphikgkaaW.PrintWords Go.Proofs.YtoopdknphikgkaaW.PrintLast Go.Proofs.YtoopdknphikgkaaW.PrintMore
theorem eq_sketch (l : List (List Int)) (a : Int) (hl : l.length ≤ 1048576) (hg : ∀ r ∈ l, r.length ≤ 1048576) : Ev (fun k => laws_eqSketch.f k l a l a) true := by
  simp only [laws_eqSketch.f]
  exact Ev.bind (eq_rows l hl hg) (Ev.yes rfl (Ev.yes trivial (Ev.now _)))
end Go.Proofs.Ytoopdknphikgkaa.Q
