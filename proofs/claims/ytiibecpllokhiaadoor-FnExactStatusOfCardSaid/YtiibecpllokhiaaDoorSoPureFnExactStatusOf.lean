import Derived.Test.YtiibecpllokhiaaDoorSoStatusOf
import Derived.Test.YtiibecpllokhiaaDoorSoHead
import Derived.Test.YtiibecpllokhiaaDoorSoG8
namespace Go.Proofs.YtiibecpllokhiaaDoor.Q
open Go.RowKit Go.Proofs.YtiibecpllokhiaaDoorW.PrintWords Go.Proofs.YtiibecpllokhiaaDoorW.PrintLast Go.Proofs.YtiibecpllokhiaaDoorW.PrintMore
theorem pureStatusOf (a : ByteArray) (l : List S37) (ha : a.size ≤ maxLen) (hl : l.length ≤ maxLen) (hg : ∀ f ∈ l, f.f0.size ≤ maxLen ∧ f.f1.size ≤ maxLen) : ∃ k, laws_FnExactStatusOf.f k a l = some true := by
  refine Ev.rounds (g := fun k => laws_FnExactStatusOf.f k a l) ?_
  simp only [laws_FnExactStatusOf.f]
  obtain ⟨t, et, ht⟩ := sz_head a l ha hl hg 1048576 (by omega) (by omega)
  refine Ev.bind et ?_
  rcases ht with ht | ⟨h0, h1⟩
  · exact Ev.yes ht (Ev.now _)
  · have tt := to_head a l (by omega)
    have hm : (l.map cvF).length = l.length := List.length_map ..
    refine Ev.no (by omega) (Ev.bind tt (Ev.bind (status_spec a (l.map cvF)) (Ev.bind tt (Ev.bind (status_impl a (l.map cvF) (by omega)) (Ev.yes rfl (Ev.succ ?_))))))
    simp only [laws_FnExactStatusOf.j0]
    exact Ev.no (by simp) (Ev.bind tt (Ev.bind (eq_head a (l.map cvF) (by omega)) (Ev.yes rfl (Ev.now _))))
end Go.Proofs.YtiibecpllokhiaaDoor.Q
