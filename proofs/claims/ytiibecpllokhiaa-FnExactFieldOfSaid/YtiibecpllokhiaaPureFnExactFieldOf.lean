import Derived.Test.YtiibecpllokhiaaFieldOf
import Derived.Test.YtiibecpllokhiaaG6
namespace Go.Proofs.Ytiibecpllokhiaa.Q
open Go.RowKit Go.Proofs.YtiibecpllokhiaaW.PrintWords Go.Proofs.YtiibecpllokhiaaW.PrintLast Go.Proofs.YtiibecpllokhiaaW.PrintMore
theorem pureFieldOf (a : ByteArray) (l : List S45) (name : ByteArray) (ha : a.size ≤ maxLen) (hl : l.length ≤ maxLen) (hg : ∀ f ∈ l, f.f0.size ≤ maxLen ∧ f.f1.size ≤ maxLen) (_ : name.size ≤ maxLen) : ∃ k, laws_FnExactFieldOf.f k a l name = some true := by
  refine Ev.rounds (g := fun k => laws_FnExactFieldOf.f k a l name) ?_
  simp only [laws_FnExactFieldOf.f]
  by_cases c : (name.size : Int) > 1048576
  · exact Ev.yes c (Ev.now _)
  · refine Ev.no c ?_
    obtain ⟨t, et, ht⟩ := sz_head a l ha hl hg 1048576 (by omega) (by omega)
    refine Ev.bind et ?_
    by_cases c0 : t < 0
    · exact Ev.yes c0 (Ev.now _)
    · refine Ev.no c0 ?_
      have tt := to_head a l (by omega)
      have hm : (l.map cvF).length ≤ 9223372036854775807 := by rw [List.length_map]; omega
      refine Ev.bind tt (Ev.bind (fieldOf_spec a _ name hm) (Ev.bind tt (Ev.bind (fieldOf_impl a _ name hm) (Ev.yes rfl (Ev.succ ?_)))))
      simp only [laws_FnExactFieldOf.j0]
      exact Ev.no (by simp) (Ev.bind tt (Ev.bind (eq_head a _ hm) (Ev.yes rfl (Ev.now _))))

end Go.Proofs.Ytiibecpllokhiaa.Q
