import Derived.Test.YthjigecaojaalaaChunk
import Derived.Test.YthjigecaojaalaaStrs
import Derived.Test.YthjigecaojaalaaG13
namespace Go.Proofs.Ythjigecaojaalaa.Q
open Go.RowKit Go.Proofs.YthjigecaojaalaaW.PrintWords Go.Proofs.YthjigecaojaalaaW.PrintLast Go.Proofs.YthjigecaojaalaaW.PrintMore
theorem pureChunkText (l : List ByteArray) (hl : l.length ≤ maxLen) (hg : ∀ s ∈ l, s.size ≤ maxLen) : ∃ k, laws_FnExactChunkText.f k l = some true := by
  refine Ev.rounds (g := fun k => laws_FnExactChunkText.f k l) ?_
  simp only [laws_FnExactChunkText.f]
  obtain ⟨t, et, ht⟩ := sz_strs l hl hg 1048576 (by omega) (by omega)
  refine Ev.bind et ?_
  by_cases c0 : t < 0
  · exact Ev.yes c0 (Ev.now _)
  · refine Ev.no c0 ?_
    have tt := to_strs l (by omega)
    refine Ev.bind tt (Ev.bind (chunk_spec l) (Ev.bind tt (Ev.bind (chunk_impl l) (Ev.yes rfl (Ev.succ ?_)))))
    simp only [laws_FnExactChunkText.j0]
    exact Ev.no (by simp) (Ev.bind tt (Ev.bind (eq_strs l (by omega)) (Ev.yes rfl (Ev.now _))))

end Go.Proofs.Ythjigecaojaalaa.Q
