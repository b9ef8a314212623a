import Derived.Test.YtoopdknphikgkaaSkOk
import Derived.Test.YtoopdknphikgkaaG5
namespace Go.Proofs.Ytoopdknphikgkaa.Q
open Go.RowKit Go.Proofs.YtoopdknphikgkaaW.PrintWords Go.Proofs.YtoopdknphikgkaaW.PrintLast Go.Proofs.YtoopdknphikgkaaW.PrintMore
theorem pureSketchOk (l : List (List Int)) (a : Int) (hl : l.length ≤ maxLen) (hg : ∀ r ∈ l, r.length ≤ maxLen ∧ ∀ n ∈ r, (Lit.int .i64 n).wf = true) (_ : (Lit.int .i64 a).wf = true) : ∃ k, laws_FnExactSketchOk.f k l a = some true := by
  refine Ev.rounds (g := fun k => laws_FnExactSketchOk.f k l a) ?_
  simp only [laws_FnExactSketchOk.f]
  obtain ⟨t, et, ht⟩ := sz_sketch l a hl (fun r hr => (hg r hr).1)
  refine Ev.bind et ?_
  rcases ht with ht | ⟨hn, h1, h2⟩
  · exact Ev.yes ht (Ev.now _)
  · have tt := to_sketch l a h1 h2
    refine Ev.no hn (Ev.bind tt (Ev.bind (sk_spec l a h1) (Ev.bind tt (Ev.bind (sk_impl l a h1 h2) (Ev.no (by simp) (Ev.bind tt (Ev.bind (eq_sketch l a h1 h2) (Ev.yes rfl (Ev.now _)))))))))

end Go.Proofs.Ytoopdknphikgkaa.Q
