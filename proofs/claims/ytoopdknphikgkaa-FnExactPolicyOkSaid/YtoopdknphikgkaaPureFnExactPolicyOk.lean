import Derived.Test.YtoopdknphikgkaaPolOk
import Derived.Test.YtoopdknphikgkaaG80
namespace Go.Proofs.Ytoopdknphikgkaa.Q
open Go.RowKit Go.Proofs.YtoopdknphikgkaaW.PrintWords Go.Proofs.YtoopdknphikgkaaW.PrintLast Go.Proofs.YtoopdknphikgkaaW.PrintMore
theorem purePolicyOk (a b : List ByteArray) (l : List (List Int)) (n : Int) (ha : a.length ≤ maxLen) (ha2 : ∀ s ∈ a, s.size ≤ maxLen) (hb : b.length ≤ maxLen) (hb2 : ∀ s ∈ b, s.size ≤ maxLen) (hl : l.length ≤ maxLen) (hg : ∀ r ∈ l, r.length ≤ maxLen ∧ ∀ n ∈ r, (Lit.int .i64 n).wf = true) (_ : (Lit.int .i64 n).wf = true) : ∃ k, laws_FnExactPolicyOk.f k a b l n = some true := by
  refine Ev.rounds (g := fun k => laws_FnExactPolicyOk.f k a b l n) ?_
  simp only [laws_FnExactPolicyOk.f]
  obtain ⟨t, et, ht⟩ := sz_policy a b l n ha ha2 hb hb2 hl (fun r hr => (hg r hr).1)
  refine Ev.bind et ?_
  rcases ht with ht | ⟨hn, h⟩
  · exact Ev.yes ht (Ev.now _)
  · have tt := to_policy a b l n h
    exact Ev.no hn (Ev.bind tt (Ev.bind (pol_spec a b l n h) (Ev.bind tt (Ev.bind (pol_impl a b l n h) (Ev.no (by simp) (Ev.bind tt (Ev.bind (eq_policy a b l n h) (Ev.yes rfl (Ev.now _)))))))))

end Go.Proofs.Ytoopdknphikgkaa.Q
