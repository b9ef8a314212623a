import Derived.Test.YtiibecpllokhiaaTargetOf
import Derived.Test.YtiibecpllokhiaaG15
namespace Go.Proofs.Ytiibecpllokhiaa.Q
open Go.RowKit Go.Proofs.YtiibecpllokhiaaW.PrintWords Go.Proofs.YtiibecpllokhiaaW.PrintLast Go.Proofs.YtiibecpllokhiaaW.PrintMore
theorem pureTargetOf (a : ByteArray) (l : List S45) (ha : a.size ≤ maxLen) (hl : l.length ≤ maxLen) (hg : ∀ f ∈ l, f.f0.size ≤ maxLen ∧ f.f1.size ≤ maxLen) : ∃ k, laws_FnExactTargetOf.f k a l = some true := by
  refine Ev.rounds (g := fun k => laws_FnExactTargetOf.f k a l) ?_
  simp only [laws_FnExactTargetOf.f]
  obtain ⟨t, et, ht⟩ := sz_head a l ha hl hg 1048576 (by omega) (by omega)
  refine Ev.bind et ?_
  by_cases c0 : t < 0
  · exact Ev.yes c0 (Ev.now _)
  · refine Ev.no c0 ?_
    have tt := to_head a l (by omega)
    have hm : (l.map cvF).length ≤ 9223372036854775807 := by rw [List.length_map]; omega
    refine Ev.bind tt (Ev.bind (target_spec a _ (by omega)) (Ev.bind tt (Ev.bind (target_impl a _ (by omega)) (Ev.yes rfl (Ev.succ ?_)))))
    simp only [laws_FnExactTargetOf.j0]
    exact Ev.no (by simp) (Ev.bind tt (Ev.bind (eq_head a _ hm) (Ev.yes rfl (Ev.now _))))

end Go.Proofs.Ytiibecpllokhiaa.Q
