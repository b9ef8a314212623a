import Derived.Test.YtdbhpcekjcohdaaLoEpF0
import Derived.Test.YtdbhpcekjcohdaaLoEpSame
import Derived.Test.YtdbhpcekjcohdaaLoEvP
import Derived.Test.YtdbhpcekjcohdaaLoG23
import Derived.Test.YtdbhpcekjcohdaaLoG54
namespace Go.Proofs.Ytdbhpcekjcohdaa.Q
open Go.RowKit Go.Proofs.YtdbhpcekjcohdaaW.PrintWords Go.Proofs.YtdbhpcekjcohdaaW.PrintLast Go.Proofs.YtdbhpcekjcohdaaW.PrintMore
theorem pin_impl (a : Int) (l1 : List Int) (l2 : List S57) (who : Int) (h1 : l1.length ≤ 1048576) (h2 : l2.length ≤ 1048576) : Ev (fun k => impl_PinLook.f k a l1 l2 who) (pinF a l1 l2 who) := by
  have hs := impl_ok a l1 l2 (by omega) (by omega)
  have cs := copy_impl a l1 l2 (by omega) (by omega)
  simp only [impl_PinLook.f, impl_isPlace.f, cs, in_impl, Option.bind_some]
  rw [w64 (n := (l1.length : Int) - 1) (by omega) (by omega)]
  refine Ev.bind hs ?_
  by_cases c1 : okEp a l1 l2 = true
  · refine Ev.yes c1 ?_
    by_cases c2 : 0 ≤ who ∧ who ≤ (l1.length : Int) - 1
    · refine Ev.yes (by simpa using c2) (Ev.yes (by omega) (Ev.yes (by omega) ?_))
      by_cases c0 : rd l1 who = 0
      · rw [show pinF a l1 l2 who = (a, l1.set who.toNat (wrap64 (a + 1)), l2, true) from if_pos ⟨⟨c1, c2⟩, c0⟩]
        exact Ev.yes c0 (Ev.yes (by omega) (Ev.now _))
      · rw [show pinF a l1 l2 who = (a, l1, l2, false) from if_neg (fun h => c0 h.2)]
        exact Ev.no c0 (Ev.now _)
    · rw [show pinF a l1 l2 who = (a, l1, l2, false) from if_neg (fun h => c2 h.1.2)]
      exact Ev.no (by simpa using c2) (Ev.now _)
  · rw [show pinF a l1 l2 who = (a, l1, l2, false) from if_neg (fun h => c1 h.1.1)]
    exact Ev.no c1 (Ev.now _)
end Go.Proofs.Ytdbhpcekjcohdaa.Q
