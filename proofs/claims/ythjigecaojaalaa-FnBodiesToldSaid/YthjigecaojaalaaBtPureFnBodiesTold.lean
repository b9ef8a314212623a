import Derived.Test.YthjigecaojaalaaBtBodiesDrawn
import Derived.Test.YthjigecaojaalaaBtG54
namespace Go.Proofs.Ythjigecaojaalaa.Q
open Go.RowKit Go.Proofs.YthjigecaojaalaaW.PrintWords Go.Proofs.YthjigecaojaalaaW.PrintLast Go.Proofs.YthjigecaojaalaaW.PrintMore
theorem pureFnBodiesTold (l0 : List Int) (_ : l0.length ≤ maxLen) (_ : ∀ x ∈ l0, (Lit.int .u8 x).wf = true) : ∃ k, laws_FnBodiesTold.f k l0 = some true := by
  refine Ev.rounds (g := fun k => laws_FnBodiesTold.f k l0) ?_
  simp only [laws_FnBodiesTold.f, laws_big.f, Option.bind_some]
  by_cases c : (l0.length : Int) > 1048576
  · exact Ev.yes (decide_eq_true c) (Ev.now _)
  · refine Ev.no (by simpa using c) ?_
    obtain ⟨t, et, ht⟩ := readP l0 (by omega)
    obtain ⟨r, r0, r1, r2⟩ := reads_both t (by omega)
    obtain ⟨ls, el, _⟩ := chunksP l0 (by omega)
    obtain ⟨b, eb, hb, hx⟩ := drawBodyP l0 (by omega)
    obtain ⟨q, q1, q2⟩ := body_both b.1 b.2.1 b.2.2 (by have := hb.1; omega) hb.2 (by omega)
    have e : (q.1.toList == q.1.toList) = true := beq_self_eq_true _
    have fin_ : Ev (fun _ : Nat => some (q.1.toList == q.1.toList)) true := by rw [e]; exact Ev.now _
    exact Ev.bind et (Ev.bind r2 (Ev.bind r1 (Ev.bind el (Ev.bind (chunk_impl ls) (Ev.bind (chunk_spec ls) (Ev.bind eb (Ev.bind q2 (Ev.bind q1 (Ev.yes rfl (Ev.yes rfl (Ev.yes rfl (Ev.yes (by omega) (Ev.yes (by simp) (Ev.yes rfl (Ev.yes rfl (Ev.yes rfl fin_))))))))))))))))
end Go.Proofs.Ythjigecaojaalaa.Q
