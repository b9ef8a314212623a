import Derived.Test.YtoopdknphikgkaaSm
import Derived.Test.YtoopdknphikgkaaG32
namespace Go.Proofs.Ytoopdknphikgkaa.Q
open Go.RowKit Go.Proofs.YtoopdknphikgkaaW.PrintWords Go.Proofs.YtoopdknphikgkaaW.PrintLast Go.Proofs.YtoopdknphikgkaaW.PrintMore
theorem purePolicyNew : ∃ k, laws_FnExactPolicyNew.f k = some true := ⟨80, by decide +kernel⟩

end Go.Proofs.Ytoopdknphikgkaa.Q
