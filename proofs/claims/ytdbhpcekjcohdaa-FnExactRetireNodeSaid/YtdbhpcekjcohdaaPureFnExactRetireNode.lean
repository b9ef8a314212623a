import Derived.Test.YtdbhpcekjcohdaaEpMark
import Derived.Test.YtdbhpcekjcohdaaEpRetS
import Derived.Test.YtdbhpcekjcohdaaEpRetI
import Derived.Test.YtdbhpcekjcohdaaG9
namespace Go.Proofs.Ytdbhpcekjcohdaa.Q
open Go.RowKit Go.Proofs.YtdbhpcekjcohdaaW.PrintWords Go.Proofs.YtdbhpcekjcohdaaW.PrintLast Go.Proofs.YtdbhpcekjcohdaaW.PrintMore
theorem sameRetireNode (a : Int) (l1 : List Int) (l2 : List S57) (node : Int) (h1 : l1.length ≤ 1048576) (h2 : l2.length ≤ 1048576) :
    ∃ a' p' g' b, p'.length ≤ 1048577 ∧ g'.length ≤ 1048577 ∧ Ev (fun k => spec_RetireNode.f k a l1 l2 node) (a', p', g', b) ∧ Ev (fun k => impl_RetireNode.f k a l1 l2 node) (a', p', g', b) := by
  have hs := ret_spec a l1 l2 node (by omega) (by omega)
  have hi := ret_impl a l1 l2 node h1 h2
  by_cases c : (okEp a l1 l2 = true ∧ (1 ≤ node ∧ node ≤ 20)) ∧ ¬ l2.length = 40 ∧ ∀ g ∈ l2, ¬ g.f0 = node
  · rw [show retF a l1 l2 node = (a, l1, l2 ++ [⟨node, a⟩], true) from if_pos c] at hs hi
    exact ⟨_, _, _, _, by omega, by simp; omega, hs, hi⟩
  · rw [show retF a l1 l2 node = (a, l1, l2, false) from if_neg c] at hs hi
    exact ⟨_, _, _, _, by omega, by omega, hs, hi⟩
theorem pureRetireNode (a : Int) (l1 : List Int) (l2 : List S70) (node : Int) (_ : (Lit.int .i64 a).wf = true) (h1 : l1.length ≤ maxLen) (_ : ∀ x ∈ l1, (Lit.int .i64 x).wf = true) (h2 : l2.length ≤ maxLen) (_ : ∀ x ∈ l2, (Lit.int .i64 x.f0).wf = true ∧ (Lit.int .i64 x.f1).wf = true) (_ : (Lit.int .i64 node).wf = true) : ∃ k, laws_FnExactRetireNode.f k a l1 l2 node = some true := by
  obtain ⟨t, ht, hc⟩ := sz_epochs a l1 l2 h1 h2
  rcases hc with hc | ⟨hc, b1, b2⟩
  · exact ⟨0, by simp only [laws_FnExactRetireNode.f, ht, Option.bind_some]; rw [if_pos hc]⟩
  · have hm : (l2.map cvG).length ≤ 1048576 := by rw [List.length_map]; omega
    obtain ⟨a', p', g', b, hp', hg', hs, hi⟩ := sameRetireNode a l1 (l2.map cvG) node b1 hm
    refine Ev.rounds (g := fun k => laws_FnExactRetireNode.f k a l1 l2 node) (Ev.eq (fun k => by simp only [laws_FnExactRetireNode.f, ht, Option.bind_some]; rw [if_neg hc]) ?_)
    refine Ev.then_ (to_epochs a l1 l2 b1 b2) ?_
    refine Ev.then_ hs ?_
    refine Ev.then_ (to_epochs a l1 l2 b1 b2) ?_
    refine Ev.then_ hi ?_
    refine Ev.then_ (eq_epochs a' p' g' (by omega) (by omega)) (Ev.eq (fun k => if_pos rfl) ?_)
    refine Ev.go (fun k => by simp only [laws_FnExactRetireNode.j0]; rw [if_neg (by simp)]) ?_
    refine Ev.then_ (to_epochs a l1 l2 b1 b2) ?_
    refine Ev.then_ (eq_epochs a l1 (l2.map cvG) (by omega) (by omega)) (Ev.eq (fun k => if_pos rfl) ?_)
    refine Ev.then_ (mark_epochs a l1 (l2.map cvG) (by omega) (by omega)) (Ev.eq (fun k => if_neg (by dsimp only; omega)) ?_)
    refine Ev.then_ (eq_epochs a' p' g' (by omega) (by omega)) (Ev.eq (fun k => if_pos rfl) ?_)
    refine Ev.go (fun k => by simp only [laws_FnExactRetireNode.j1]; rw [if_neg (by simp)]) ?_
    refine Ev.then_ (mark_epochs a' p' g' (by omega) (by omega)) ?_
    refine Ev.then_ (held_epochs a' p'.length g'.length (by omega) (by omega)) (Ev.eq (fun k => if_neg (by omega)) (Ev.eq (fun k => if_pos rfl) ?_))
    refine Ev.then_ (to_epochs a l1 l2 b1 b2) ?_
    refine Ev.then_ hi ?_
    refine Ev.then_ (eq_epochs a' p' g' (by omega) (by omega)) (Ev.eq (fun k => if_pos rfl) ?_)
    refine Ev.go (fun k => by simp only [laws_FnExactRetireNode.j2]; rw [if_neg (by simp)]) ?_
    exact Ev.then_ (held_epochs a' p'.length g'.length (by omega) (by omega)) (Ev.eq (fun k => if_neg (by omega)) (Ev.eq (fun k => if_pos rfl) (Ev.now true)))

end Go.Proofs.Ytdbhpcekjcohdaa.Q
