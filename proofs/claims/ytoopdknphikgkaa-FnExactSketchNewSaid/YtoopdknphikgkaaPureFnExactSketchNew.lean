import Derived.Test.YtoopdknphikgkaaSm
import Derived.Test.YtoopdknphikgkaaG19
namespace Go.Proofs.Ytoopdknphikgkaa.Q
open Go.RowKit Go.Proofs.YtoopdknphikgkaaW.PrintWords Go.Proofs.YtoopdknphikgkaaW.PrintLast Go.Proofs.YtoopdknphikgkaaW.PrintMore
theorem pureSketchNew : ∃ k, laws_FnExactSketchNew.f k = some true := ⟨60, by decide +kernel⟩

end Go.Proofs.Ytoopdknphikgkaa.Q
