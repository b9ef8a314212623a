import Derived.Test.YtdbhpcekjcohdaaEpMark
import Derived.Test.YtdbhpcekjcohdaaEvP
import Derived.Test.YtdbhpcekjcohdaaEpFreeS
import Derived.Test.YtdbhpcekjcohdaaEpFreeI
import Derived.Test.YtdbhpcekjcohdaaG7
namespace Go.Proofs.Ytdbhpcekjcohdaa.Q
open Go.RowKit Go.Proofs.YtdbhpcekjcohdaaW.PrintWords Go.Proofs.YtdbhpcekjcohdaaW.PrintLast Go.Proofs.YtdbhpcekjcohdaaW.PrintMore
theorem sameFree (a : Int) (l1 : List Int) (l2 : List S57) (h1 : l1.length ≤ 1048576) (h2 : l2.length ≤ 1048576) :
    ∃ a' p' g' fr, p'.length ≤ 1048576 ∧ g'.length ≤ 1048576 ∧ fr.length ≤ 1048576 ∧ Ev (fun k => spec_FreeNodes.f k a l1 l2) (a', p', g', fr) ∧ Ev (fun k => impl_FreeNodes.f k a l1 l2) (a', p', g', fr) := by
  have hs := free_spec a l1 l2 (by omega) (by omega)
  have hi := free_impl a l1 l2 (by omega) (by omega)
  by_cases c : okEp a l1 l2 = true
  · rw [show freeF a l1 l2 = (a, l1, l2.filter (fun g => !gonB a g), (l2.filter (gonB a)).map S57.f0) from if_pos c] at hs hi
    exact ⟨_, _, _, _, by omega, Nat.le_trans (List.length_filter_le _ _) h2, by rw [List.length_map]; exact Nat.le_trans (List.length_filter_le _ _) h2, hs, hi⟩
  · rw [show freeF a l1 l2 = (a, l1, l2, []) from if_neg c] at hs hi
    exact ⟨_, _, _, _, by omega, by omega, by simp, hs, hi⟩
theorem pureFreeNodes (a : Int) (l1 : List Int) (l2 : List S70) (_ : (Lit.int .i64 a).wf = true) (h1 : l1.length ≤ maxLen) (_ : ∀ x ∈ l1, (Lit.int .i64 x).wf = true) (h2 : l2.length ≤ maxLen) (_ : ∀ x ∈ l2, (Lit.int .i64 x.f0).wf = true ∧ (Lit.int .i64 x.f1).wf = true) : ∃ k, laws_FnExactFreeNodes.f k a l1 l2 = some true := by
  obtain ⟨t, ht, hc⟩ := sz_epochs a l1 l2 h1 h2
  rcases hc with hc | ⟨hc, b1, b2⟩
  · exact ⟨0, by simp only [laws_FnExactFreeNodes.f, ht, Option.bind_some]; rw [if_pos hc]⟩
  · have hm : (l2.map cvG).length ≤ 1048576 := by rw [List.length_map]; omega
    obtain ⟨a', p', g', fr, hp', hg', hf', hs, hi⟩ := sameFree a l1 (l2.map cvG) b1 hm
    have tt := to_epochs a l1 l2 b1 b2
    have eqo := eq_epochs a' p' g' (by omega) (by omega)
    have eqf := eq_ints fr (by omega)
    have hd := held_epochs a' p'.length g'.length (by omega) (by omega)
    have hdf := held_ints (1 + (p'.length : Int) + 2 * (g'.length : Int)) fr.length (by omega) (by omega) (by omega)
    refine Ev.rounds (g := fun k => laws_FnExactFreeNodes.f k a l1 l2) (Ev.eq (fun k => by simp only [laws_FnExactFreeNodes.f, ht, Option.bind_some]; rw [if_neg hc]) ?_)
    refine Ev.bind tt (Ev.bind hs (Ev.bind tt (Ev.bind hi (Ev.bind eqo (Ev.yes rfl (Ev.bind eqf (Ev.succ ?_)))))))
    simp only [laws_FnExactFreeNodes.j0]
    refine Ev.no (by simp) (Ev.bind tt (Ev.bind (eq_epochs a l1 (l2.map cvG) (by omega) (by omega)) (Ev.yes rfl (Ev.bind (mark_epochs a l1 (l2.map cvG) (by omega) (by omega)) (Ev.no (by dsimp only; omega) (Ev.bind eqo (Ev.yes rfl (Ev.bind eqf (Ev.succ ?_)))))))))
    simp only [laws_FnExactFreeNodes.j1]
    refine Ev.no (by simp) (Ev.bind (mark_epochs a' p' g' (by omega) (by omega)) (Ev.bind (mark_ints fr (1 + (p'.length : Int) + 2 * (g'.length : Int)) (by omega) (by omega) (by omega)) (Ev.bind hd (Ev.no (by omega) (Ev.bind hdf (Ev.no (by omega) (Ev.yes rfl (Ev.bind tt (Ev.bind hi (Ev.bind eqo (Ev.yes rfl (Ev.bind eqf (Ev.succ ?_)))))))))))))
    simp only [laws_FnExactFreeNodes.j2]
    exact Ev.no (by simp) (Ev.bind hd (Ev.no (by omega) (Ev.bind hdf (Ev.no (by omega) (Ev.yes rfl (Ev.now true))))))

end Go.Proofs.Ytdbhpcekjcohdaa.Q
