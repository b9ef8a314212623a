import Derived.Test.YtdbhpcekjcohdaaLoEpF0
import Derived.Test.YtdbhpcekjcohdaaLoEpSame
import Derived.Test.YtdbhpcekjcohdaaLoEvP
import Derived.Test.YtdbhpcekjcohdaaLoG1000057
namespace Go.Proofs.Ytdbhpcekjcohdaa.Q
open Go.RowKit Go.Proofs.YtdbhpcekjcohdaaW.PrintWords Go.Proofs.YtdbhpcekjcohdaaW.PrintLast Go.Proofs.YtdbhpcekjcohdaaW.PrintMore
theorem ret_impl (a : Int) (l1 : List Int) (l2 : List S57) (node : Int) (h1 : l1.length ≤ 1048576) (h2 : l2.length ≤ 1048576) : Ev (fun k => impl_RetireNode.f k a l1 l2 node) (retF a l1 l2 node) := by
  have hs := impl_ok a l1 l2 (by omega) (by omega)
  have cs := copy_impl a l1 l2 (by omega) (by omega)
  simp only [impl_RetireNode.f, impl_RetireNode_1.f, cs, in_impl, Option.bind_some]
  refine Ev.bind hs ?_
  by_cases c1 : okEp a l1 l2 = true
  · refine Ev.yes c1 ?_
    by_cases c2 : 1 ≤ node ∧ node ≤ 20
    · refine Ev.yes (by simpa using c2) ?_
      by_cases c3 : (l2.any fun g => g.f0 == node) = true
      · rw [show retF a l1 l2 node = (a, l1, l2, false) from if_neg (fun h => by
          obtain ⟨g, hg, hn⟩ := List.any_eq_true.mp c3
          exact h.2.2 g hg (by simpa using hn))]
        exact Ev.yes c3 (Ev.now _)
      · refine Ev.no c3 ?_
        by_cases c4 : l2.length = 40
        · rw [show retF a l1 l2 node = (a, l1, l2, false) from if_neg (fun h => h.2.1 c4)]
          exact Ev.yes (by omega) (Ev.now _)
        · rw [show retF a l1 l2 node = (a, l1, l2 ++ [⟨node, a⟩], true) from if_pos ⟨⟨c1, c2⟩, c4, fun g hg hn => c3 (List.any_eq_true.mpr ⟨g, hg, by simpa using hn⟩)⟩]
          exact Ev.no (by omega) (Ev.yes (by omega) (Ev.now _))
    · rw [show retF a l1 l2 node = (a, l1, l2, false) from if_neg (fun h => c2 h.1.2)]
      exact Ev.no (by simpa using c2) (Ev.now _)
  · rw [show retF a l1 l2 node = (a, l1, l2, false) from if_neg (fun h => c1 h.1.1)]
    exact Ev.no c1 (Ev.now _)
end Go.Proofs.Ytdbhpcekjcohdaa.Q
