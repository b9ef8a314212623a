import Derived.Test.YtoopdknphikgkaaPolicy
import Derived.Test.YtoopdknphikgkaaG72
namespace Go.Proofs.Ytoopdknphikgkaa.Q
open Go.RowKit Go.Proofs.YtoopdknphikgkaaW.PrintWords Go.Proofs.YtoopdknphikgkaaW.PrintLast Go.Proofs.YtoopdknphikgkaaW.PrintMore
theorem purePolicyHas (a b : List ByteArray) (l : List (List Int)) (n : Int) (key : ByteArray) (ha : a.length ≤ maxLen) (ha2 : ∀ s ∈ a, s.size ≤ maxLen) (hb : b.length ≤ maxLen) (hb2 : ∀ s ∈ b, s.size ≤ maxLen) (hl : l.length ≤ maxLen) (hg : ∀ r ∈ l, r.length ≤ maxLen ∧ ∀ n ∈ r, (Lit.int .i64 n).wf = true) (_ : (Lit.int .i64 n).wf = true) (_ : key.size ≤ maxLen) : ∃ k, laws_FnExactPolicyHas.f k a b l n key = some true := by
  refine Ev.rounds (g := fun k => laws_FnExactPolicyHas.f k a b l n key) ?_
  simp only [laws_FnExactPolicyHas.f, spec_PolicyHas.f, impl_PolicyHas.f]
  by_cases c : (key.size : Int) > 1048576
  · exact Ev.yes c (Ev.now _)
  · refine Ev.no c ?_
    obtain ⟨t, et, ht⟩ := sz_policy a b l n ha ha2 hb hb2 hl (fun r hr => (hg r hr).1)
    refine Ev.bind et ?_
    rcases ht with ht | ⟨hn, h⟩
    · exact Ev.yes ht (Ev.now _)
    · have h1 := h.ha
      have h2 := h.hb
      have tt := to_policy a b l n h
      have i1 := in_list a key (by omega)
      have i2 := in_list b key (by omega)
      have ic := contains_ev (a ++ b) key (by rw [List.length_append]; omega)
      have ek := keys_in a b l n h
      have es : Ev (fun k => (spec_l13In.f k a key).bind fun t369 => (if t369 = true then (some true) else ((spec_l13In.f k b key).bind fun t370 => (some t370)))) (hasB (a ++ b) key) := by
        rw [hasB_app]
        refine Ev.bind i1 ?_
        by_cases q : hasB a key = true
        · rw [q, Bool.true_or]; exact Ev.yes rfl (Ev.now _)
        · rw [Bool.eq_false_iff.mpr q, Bool.false_or]; exact Ev.no (by simp) (Ev.bind i2 (Ev.now _))
      exact Ev.no hn (Ev.bind tt (Ev.bind es (Ev.bind tt (Ev.bind (Ev.via ek (Ev.bind ic (Ev.now _))) (Ev.no (by simp) (Ev.bind tt (Ev.bind (eq_policy a b l n h) (Ev.yes rfl (Ev.now _)))))))))

end Go.Proofs.Ytoopdknphikgkaa.Q
