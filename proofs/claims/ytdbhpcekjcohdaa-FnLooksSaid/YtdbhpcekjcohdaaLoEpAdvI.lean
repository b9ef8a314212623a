import Derived.Test.YtdbhpcekjcohdaaLoEpF0
import Derived.Test.YtdbhpcekjcohdaaLoEpSame
import Derived.Test.YtdbhpcekjcohdaaLoEpCont
import Derived.Test.YtdbhpcekjcohdaaLoG31
namespace Go.Proofs.Ytdbhpcekjcohdaa.Q
open Go.RowKit Go.Proofs.YtdbhpcekjcohdaaW.PrintWords Go.Proofs.YtdbhpcekjcohdaaW.PrintLast Go.Proofs.YtdbhpcekjcohdaaW.PrintMore
theorem adv_impl (a : Int) (l1 : List Int) (l2 : List S57) (h1 : l1.length ≤ 1048576) (h2 : l2.length ≤ 1048576) : Ev (fun k => impl_AdvanceEpoch.f k a l1 l2) (advF a l1 l2) := by
  have hi := impl_ok a l1 l2 (by omega) (by omega)
  have ci := copy_impl a l1 l2 (by omega) (by omega)
  have hc := contains_int l1 a (by omega)
  refine Ev.eq (fun k => by simp only [impl_AdvanceEpoch.f, ci, Option.bind_some]; rfl) ?_
  refine Ev.then_ hi ?_
  by_cases c : okEp a l1 l2 = true
  · refine Ev.eq (fun k => if_pos c) ?_
    by_cases c0 : a = 1000000000
    · rw [show advF a l1 l2 = (a, l1, l2, false) from if_neg (fun h => h.1.2 c0)]
      exact Ev.eq (fun k => if_pos c0) (Ev.now _)
    · refine Ev.eq (fun k => if_neg c0) (Ev.then_ hc ?_)
      by_cases c1 : a ∈ l1
      · rw [show advF a l1 l2 = (a, l1, l2, false) from if_neg (fun h => h.2 c1)]; exact Ev.eq (fun k => if_pos (by simp [c1])) (Ev.now _)
      · rw [show advF a l1 l2 = (wrap64 (a + 1), l1, l2, true) from if_pos ⟨⟨c, c0⟩, c1⟩]; exact Ev.eq (fun k => if_neg (by simp [c1])) (Ev.now _)
  · rw [show advF a l1 l2 = (a, l1, l2, false) from if_neg (fun h => c h.1.1)]
    exact Ev.eq (fun k => if_neg c) (Ev.now _)
end Go.Proofs.Ytdbhpcekjcohdaa.Q
