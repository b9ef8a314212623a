import Derived.Test.YtoopdknphikgkaaGuess
import Derived.Test.YtoopdknphikgkaaG31
namespace Go.Proofs.Ytoopdknphikgkaa.Q
open Go.RowKit Go.Proofs.YtoopdknphikgkaaW.PrintWords Go.Proofs.YtoopdknphikgkaaW.PrintLast Go.Proofs.YtoopdknphikgkaaW.PrintMore
theorem pureSketchGuess (l : List (List Int)) (a : Int) (key : ByteArray) (hl : l.length ≤ maxLen) (hg : ∀ r ∈ l, r.length ≤ maxLen ∧ ∀ n ∈ r, (Lit.int .i64 n).wf = true) (_ : (Lit.int .i64 a).wf = true) (_ : key.size ≤ maxLen) : ∃ k, laws_FnExactSketchGuess.f k l a key = some true := by
  refine Ev.rounds (g := fun k => laws_FnExactSketchGuess.f k l a key) ?_
  simp only [laws_FnExactSketchGuess.f]
  by_cases c : (key.size : Int) > 1048576
  · exact Ev.yes c (Ev.now _)
  · refine Ev.no c ?_
    obtain ⟨t, et, ht⟩ := sz_sketch l a hl (fun r hr => (hg r hr).1)
    refine Ev.bind et ?_
    rcases ht with ht | ⟨hn, h1, h2⟩
    · exact Ev.yes ht (Ev.now _)
    · have tt := to_sketch l a h1 h2
      obtain ⟨g, e1, e2⟩ := guess_both l a key (by omega) h1 h2
      exact Ev.no hn (Ev.bind tt (Ev.bind e1 (Ev.bind tt (Ev.bind e2 (Ev.yes rfl (Ev.bind tt (Ev.bind (eq_sketch l a h1 h2) (Ev.yes rfl (Ev.now _)))))))))

end Go.Proofs.Ytoopdknphikgkaa.Q
