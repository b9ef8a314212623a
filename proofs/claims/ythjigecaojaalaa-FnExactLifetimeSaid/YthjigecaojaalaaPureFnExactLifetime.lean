import Derived.Test.YthjigecaojaalaaEvP
import Derived.Test.YthjigecaojaalaaG10
namespace Go.Proofs.Ythjigecaojaalaa.Q
open Go.RowKit Go.Proofs.YthjigecaojaalaaW.PrintWords Go.Proofs.YthjigecaojaalaaW.PrintLast Go.Proofs.YthjigecaojaalaaW.PrintMore
theorem mx_zero (n : Int) : mx n 0 = if n ≥ 0 then n else 0 := by unfold mx; split <;> split <;> omega
theorem pureLifetime (a b : Bool) (m n : Int) (_h0 : (Lit.int .i64 m).wf = true) (_h1 : (Lit.int .i64 n).wf = true) : ∃ k, laws_FnExactLifetime.f k a b m n = some true := by
  refine ⟨1, ?_⟩
  simp only [laws_FnExactLifetime.f, laws_toControl.f, spec_Lifetime.f, impl_Lifetime.f, spec_Lifetime.j0, impl_Lifetime.j0, Option.bind_some, mx_zero]
  cases a <;> cases b <;> simp
  split
  · simp
  · split <;> simp

end Go.Proofs.Ythjigecaojaalaa.Q
