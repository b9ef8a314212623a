import Derived.Test.YtdbhpcekjcohdaaLoEpF0
import Derived.Test.YtdbhpcekjcohdaaLoEpSame
import Derived.Test.YtdbhpcekjcohdaaLoG33
namespace Go.Proofs.Ytdbhpcekjcohdaa.Q
open Go.RowKit Go.Proofs.YtdbhpcekjcohdaaW.PrintWords Go.Proofs.YtdbhpcekjcohdaaW.PrintLast Go.Proofs.YtdbhpcekjcohdaaW.PrintMore
theorem ret_spec_l (node a : Int) (l1 : List Int) (l2 : List S57) (hl : l2.length ≤ 1048577) (d : Nat) : ∀ i : Nat, i ≤ l2.length → l2.length - i = d →
    Ev (fun k => spec_RetireNode.l0 k node (i : Int) a l1 l2 a l1 l2) (if ∀ g ∈ l2.drop i, ¬ g.f0 = node then (a, l1, l2 ++ [⟨node, a⟩], true) else (a, l1, l2, false)) := by
  induction d with
  | zero =>
    intro i hi hd
    rw [List.drop_eq_nil_of_le (by omega)]
    exact Ev.at1 fun k => by simp only [spec_RetireNode.l0]; rw [if_neg (by omega), if_pos (by omega)]; simp
  | succ d ih =>
    intro i hi hd
    have hlt : i < l2.length := by omega
    have hr := rdG_get l2 i hlt
    rw [drop_get l2 i hlt]
    by_cases c : l2[i].f0 = node
    · rw [if_neg (fun h => h _ List.mem_cons_self c)]
      exact Ev.at1 fun k => by simp only [spec_RetireNode.l0]; rw [if_pos (by omega), if_pos (by omega), hr, if_pos c]
    · have e : (∀ g ∈ l2[i] :: l2.drop (i + 1), ¬ g.f0 = node) = (∀ g ∈ l2.drop (i + 1), ¬ g.f0 = node) := propext ⟨fun h g hg => h g (List.mem_cons.mpr (.inr hg)), fun h g hg => (List.mem_cons.mp hg).elim (fun e => e ▸ c) (h g)⟩
      simp only [e]
      refine Ev.go (fun k => ?_) (ih (i + 1) (by omega) (by omega))
      simp only [spec_RetireNode.l0]; rw [if_pos (by omega), if_pos (by omega), hr, if_neg c, wnat i _ hlt (by omega)]
theorem ret_spec (a : Int) (l1 : List Int) (l2 : List S57) (node : Int) (h1 : l1.length ≤ 1048577) (h2 : l2.length ≤ 1048577) : Ev (fun k => spec_RetireNode.f k a l1 l2 node) (retF a l1 l2 node) := by
  have hs := spec_ok a l1 l2 (by omega) (by omega)
  have cs := copy_spec a l1 l2 (by omega) (by omega)
  have hl := ret_spec_l node a l1 l2 h2 l2.length 0 (by omega) (by omega)
  rw [List.drop_zero] at hl
  have jt : ∀ k, spec_RetireNode.j0 (k + 1) node true a l1 l2 a l1 l2 = some (a, l1, l2, false) := fun k => by simp only [spec_RetireNode.j0, if_true]
  have jf : ∀ k, spec_RetireNode.j0 (k + 1) node false a l1 l2 a l1 l2 = spec_RetireNode.l0 k node 0 a l1 l2 a l1 l2 := fun k => by simp only [spec_RetireNode.j0]; rw [if_neg (by simp)]
  refine Ev.eq (fun k => by simp only [spec_RetireNode.f, cs, in_spec, Option.bind_some]; rfl) ?_
  refine Ev.then_ hs ?_
  by_cases c : okEp a l1 l2 = true
  · refine Ev.eq (fun k => if_pos c) ?_
    by_cases c1 : 1 ≤ node ∧ node ≤ 20
    · refine Ev.eq (fun k => if_pos (by simpa using c1)) ?_
      by_cases c2 : l2.length = 40
      · rw [show retF a l1 l2 node = (a, l1, l2, false) from if_neg (fun h => h.2.1 c2), show ((l2.length : Int) == 40) = true by rw [c2]; rfl]; exact Ev.at1 jt
      · rw [show ((l2.length : Int) == 40) = false by simpa using fun h : (l2.length : Int) = 40 => c2 (by omega)]
        by_cases c3 : ∀ g ∈ l2, ¬ g.f0 = node
        · rw [show retF a l1 l2 node = (a, l1, l2 ++ [⟨node, a⟩], true) from if_pos ⟨⟨c, c1⟩, c2, c3⟩]; rw [if_pos c3] at hl; exact Ev.go jf hl
        · rw [show retF a l1 l2 node = (a, l1, l2, false) from if_neg (fun h => c3 h.2.2)]; rw [if_neg c3] at hl; exact Ev.go jf hl
    · rw [show retF a l1 l2 node = (a, l1, l2, false) from if_neg (fun h => c1 h.1.2)]
      exact Ev.eq (fun k => if_neg (by simpa using c1)) (Ev.at1 jt)
  · rw [show retF a l1 l2 node = (a, l1, l2, false) from if_neg (fun h => c h.1.1)]
    exact Ev.eq (fun k => if_neg c) (Ev.at1 jt)
end Go.Proofs.Ytdbhpcekjcohdaa.Q
