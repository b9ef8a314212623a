import Derived.Test.YthjigecaojaalaaReads
import Derived.Test.YthjigecaojaalaaG5
namespace Go.Proofs.Ythjigecaojaalaa.Q
open Go.RowKit Go.Proofs.YthjigecaojaalaaW.PrintWords Go.Proofs.YthjigecaojaalaaW.PrintLast Go.Proofs.YthjigecaojaalaaW.PrintMore
theorem pureReadChunks (t : ByteArray) (_ : t.size ≤ maxLen) : ∃ k, laws_FnExactReadChunks.f k t = some true := by
  refine Ev.rounds (g := fun k => laws_FnExactReadChunks.f k t) ?_
  simp only [laws_FnExactReadChunks.f]
  by_cases c : (t.size : Int) > 1048576
  · exact Ev.yes c (Ev.now _)
  · obtain ⟨r, e1, e2⟩ := reads_both t (by omega)
    exact Ev.no c (Ev.bind e1 (Ev.bind e2 (Ev.yes rfl (Ev.yes rfl (Ev.yes rfl (Ev.now _))))))

end Go.Proofs.Ythjigecaojaalaa.Q
