import Derived.Test.YtiibecpllokhiaaDoorHeadText
import Derived.Test.YtiibecpllokhiaaDoorG5
namespace Go.Proofs.YtiibecpllokhiaaDoor.Q
open Go.RowKit Go.Proofs.YtiibecpllokhiaaDoorW.PrintWords Go.Proofs.YtiibecpllokhiaaDoorW.PrintLast Go.Proofs.YtiibecpllokhiaaDoorW.PrintMore
theorem pureHeadOk (a : ByteArray) (l : List S37) (ha : a.size ≤ maxLen) (hl : l.length ≤ maxLen) (hg : ∀ f ∈ l, f.f0.size ≤ maxLen ∧ f.f1.size ≤ maxLen) : ∃ k, laws_FnExactHeadOk.f k a l = some true := by
  refine Ev.rounds (g := fun k => laws_FnExactHeadOk.f k a l) ?_
  simp only [laws_FnExactHeadOk.f]
  obtain ⟨t, et, ht⟩ := sz_head a l ha hl hg 1048576 (by omega) (by omega)
  refine Ev.bind et ?_
  rcases ht with ht | ⟨h0, h1⟩
  · exact Ev.yes ht (Ev.now _)
  · have tt := to_head a l (by omega)
    have hh := hsz_map l
    have hm : (l.map cvF).length = l.length := List.length_map ..
    exact Ev.no (by omega) (Ev.bind tt (Ev.bind (headOk_spec a (l.map cvF) (by omega) (by omega)) (Ev.bind tt (Ev.bind (headOk_impl a (l.map cvF) (by omega) (by omega)) (Ev.no (by simp) (Ev.bind tt (Ev.bind (eq_head a (l.map cvF) (by omega)) (Ev.yes rfl (Ev.now _)))))))))

end Go.Proofs.YtiibecpllokhiaaDoor.Q
