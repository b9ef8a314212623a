import Derived.Test.YthjigecaojaalaaBody
import Derived.Test.YthjigecaojaalaaG62
namespace Go.Proofs.Ythjigecaojaalaa.Q
open Go.RowKit Go.Proofs.YthjigecaojaalaaW.PrintWords Go.Proofs.YthjigecaojaalaaW.PrintLast Go.Proofs.YthjigecaojaalaaW.PrintMore
theorem pureBodyOf (a : ByteArray) (l : List S97) (t : ByteArray) (ha : a.size ≤ maxLen) (hl : l.length ≤ maxLen) (hg : ∀ f ∈ l, f.f0.size ≤ maxLen ∧ f.f1.size ≤ maxLen) (_ : t.size ≤ maxLen) : ∃ k, laws_FnExactBodyOf.f k a l t = some true := by
  refine Ev.rounds (g := fun k => laws_FnExactBodyOf.f k a l t) ?_
  simp only [laws_FnExactBodyOf.f]
  by_cases c : (t.size : Int) > 1048576
  · exact Ev.yes c (Ev.now _)
  · refine Ev.no c ?_
    obtain ⟨z, et, hz⟩ := sz_head a l ha hl hg 1048576 (by omega) (by omega)
    refine Ev.bind et ?_
    by_cases c0 : z < 0
    · exact Ev.yes c0 (Ev.now _)
    · refine Ev.no c0 ?_
      have tt := to_head a l (by omega)
      have hm : (l.map cvF).length ≤ 9223372036854775807 := by rw [List.length_map]; omega
      obtain ⟨r, e1, e2⟩ := body_both a (l.map cvF) t (by rw [List.length_map]; omega) (fun f hf => by
        obtain ⟨q, hq, rfl⟩ := List.mem_map.mp hf
        have := (hg q hq).2
        unfold maxLen at this
        exact this) (by omega)
      refine Ev.bind tt (Ev.bind e1 (Ev.bind tt (Ev.bind e2 (Ev.yes rfl (Ev.yes rfl (Ev.succ ?_))))))
      simp only [laws_FnExactBodyOf.j0]
      exact Ev.no (by simp) (Ev.bind tt (Ev.bind (eq_head a _ hm) (Ev.yes rfl (Ev.now _))))

end Go.Proofs.Ythjigecaojaalaa.Q
