import Derived.Test.YtdbhpcekjcohdaaEpTo
import Derived.Test.YtdbhpcekjcohdaaU4
namespace Go.Proofs.Ytdbhpcekjcohdaa.Q
open Go.RowKit Go.Proofs.YtdbhpcekjcohdaaW.PrintWords Go.Proofs.YtdbhpcekjcohdaaW.PrintLast Go.Proofs.YtdbhpcekjcohdaaW.PrintMore
theorem pureEpochsOk (a : Int) (l1 : List Int) (l2 : List S70) (_ : (Lit.int .i64 a).wf = true) (h1 : l1.length ≤ maxLen) (_ : ∀ x ∈ l1, (Lit.int .i64 x).wf = true) (h2 : l2.length ≤ maxLen) (_ : ∀ x ∈ l2, (Lit.int .i64 x.f0).wf = true ∧ (Lit.int .i64 x.f1).wf = true) : ∃ k, laws_FnExactEpochsOk.f k a l1 l2 = some true := by
  obtain ⟨t, ht, hc⟩ := sz_epochs a l1 l2 h1 h2
  rcases hc with hc | ⟨hc, b1, b2⟩
  · exact ⟨0, by simp only [laws_FnExactEpochsOk.f, ht, Option.bind_some]; rw [if_pos hc]⟩
  · have hm : (l2.map cvG).length ≤ 9223372036854775807 := by rw [List.length_map]; omega
    refine Ev.rounds (g := fun k => laws_FnExactEpochsOk.f k a l1 l2) (Ev.eq (fun k => by simp only [laws_FnExactEpochsOk.f, ht, Option.bind_some]; rw [if_neg hc]) ?_)
    refine Ev.then_ (to_epochs a l1 l2 b1 b2) ?_
    refine Ev.then_ (spec_ok a l1 (l2.map cvG) (by omega) hm) ?_
    refine Ev.then_ (to_epochs a l1 l2 b1 b2) ?_
    refine Ev.then_ (impl_ok a l1 (l2.map cvG) (by omega) hm) ?_
    refine Ev.eq (fun k => by rw [if_neg (by simp)]) ?_
    refine Ev.then_ (to_epochs a l1 l2 b1 b2) ?_
    refine Ev.then_ (eq_epochs a l1 (l2.map cvG) (by omega) hm) ?_
    exact Ev.eq (fun k => by rw [if_pos rfl]) (Ev.now true)

end Go.Proofs.Ytdbhpcekjcohdaa.Q
