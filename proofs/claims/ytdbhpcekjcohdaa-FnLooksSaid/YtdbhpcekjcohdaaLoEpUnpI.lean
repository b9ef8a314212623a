import Derived.Test.YtdbhpcekjcohdaaLoEpF0
import Derived.Test.YtdbhpcekjcohdaaLoEpSame
import Derived.Test.YtdbhpcekjcohdaaLoG24
namespace Go.Proofs.Ytdbhpcekjcohdaa.Q
open Go.RowKit Go.Proofs.YtdbhpcekjcohdaaW.PrintWords Go.Proofs.YtdbhpcekjcohdaaW.PrintLast Go.Proofs.YtdbhpcekjcohdaaW.PrintMore
theorem unp_impl (a : Int) (l1 : List Int) (l2 : List S57) (who : Int) (h1 : l1.length ≤ 1048576) (h2 : l2.length ≤ 1048576) : Ev (fun k => impl_UnpinLook.f k a l1 l2 who) (unpF a l1 l2 who) := by
  have hs := impl_ok a l1 l2 (by omega) (by omega)
  have cs := copy_impl a l1 l2 (by omega) (by omega)
  have hw : wrap64 ((l1.length : Int) - 1) = (l1.length : Int) - 1 := w64 (by omega) (by omega)
  refine Ev.eq (fun k => by simp only [impl_UnpinLook.f, impl_isPlace.f, cs, in_impl, hw, Option.bind_some]; rfl) ?_
  refine Ev.then_ hs ?_
  by_cases c1 : okEp a l1 l2 = true
  · refine Ev.eq (fun k => if_pos c1) ?_
    by_cases c2 : 0 ≤ who ∧ who ≤ (l1.length : Int) - 1
    · by_cases c0 : rd l1 who = 0
      · rw [show unpF a l1 l2 who = (a, l1, l2, false) from if_neg (fun h => h.2 c0)]
        exact Ev.eq (fun k => by rw [if_pos (by simpa using c2), if_pos (by omega), if_pos (by omega), if_pos c0]) (Ev.now _)
      · rw [show unpF a l1 l2 who = (a, l1.set who.toNat 0, l2, true) from if_pos ⟨⟨c1, c2⟩, c0⟩]
        exact Ev.eq (fun k => by rw [if_pos (by simpa using c2), if_pos (by omega), if_pos (by omega), if_neg c0, if_pos (by omega)]) (Ev.now _)
    · rw [show unpF a l1 l2 who = (a, l1, l2, false) from if_neg (fun h => c2 h.1.2)]
      exact Ev.eq (fun k => if_neg (by simpa using c2)) (Ev.now _)
  · rw [show unpF a l1 l2 who = (a, l1, l2, false) from if_neg (fun h => c1 h.1.1)]
    exact Ev.eq (fun k => if_neg c1) (Ev.now _)
end Go.Proofs.Ytdbhpcekjcohdaa.Q
