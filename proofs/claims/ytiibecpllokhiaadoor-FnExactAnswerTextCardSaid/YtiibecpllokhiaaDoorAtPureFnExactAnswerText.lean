import Derived.Test.YtiibecpllokhiaaDoorAtAnswerText
import Derived.Test.YtiibecpllokhiaaDoorAtG30
namespace Go.Proofs.YtiibecpllokhiaaDoor.Q
open Go.RowKit Go.Proofs.YtiibecpllokhiaaDoorW.PrintWords Go.Proofs.YtiibecpllokhiaaDoorW.PrintLast Go.Proofs.YtiibecpllokhiaaDoorW.PrintMore
theorem pureAnswerText (a : ByteArray) (l : List S37) (b : ByteArray) (ha : a.size ≤ maxLen) (hl : l.length ≤ maxLen) (hg : ∀ f ∈ l, f.f0.size ≤ maxLen ∧ f.f1.size ≤ maxLen) (_ : b.size ≤ maxLen) : ∃ k, laws_FnExactAnswerText.f k a l b = some true := by
  refine Ev.rounds (g := fun k => laws_FnExactAnswerText.f k a l b) ?_
  simp only [laws_FnExactAnswerText.f]
  by_cases c : (b.size : Int) > 1048576
  · exact Ev.yes c (Ev.now _)
  refine Ev.no c ?_
  obtain ⟨t, et, ht⟩ := sz_head a l ha hl hg 1048576 (by omega) (by omega)
  refine Ev.bind et ?_
  rcases ht with ht | ⟨h0, h1⟩
  · exact Ev.yes ht (Ev.now _)
  · have tt := to_head a l (by omega)
    have hh := hsz_map l
    have hm : (l.map cvF).length = l.length := List.length_map ..
    refine Ev.no (by omega) (Ev.bind tt (Ev.bind (ans_spec a (l.map cvF) b (by omega) (by omega) (by omega)) (Ev.bind tt (Ev.bind (ans_impl a (l.map cvF) b (by omega) (by omega) (by omega)) (Ev.yes rfl (Ev.succ ?_))))))
    simp only [laws_FnExactAnswerText.j0]
    exact Ev.no (by simp) (Ev.bind tt (Ev.bind (eq_head a (l.map cvF) (by omega)) (Ev.yes rfl (Ev.now _))))
end Go.Proofs.YtiibecpllokhiaaDoor.Q
