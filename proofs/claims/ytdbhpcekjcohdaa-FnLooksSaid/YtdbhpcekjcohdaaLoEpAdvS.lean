import Derived.Test.YtdbhpcekjcohdaaLoEpF0
import Derived.Test.YtdbhpcekjcohdaaLoEpSame
import Derived.Test.YtdbhpcekjcohdaaLoG31
namespace Go.Proofs.Ytdbhpcekjcohdaa.Q
open Go.RowKit Go.Proofs.YtdbhpcekjcohdaaW.PrintWords Go.Proofs.YtdbhpcekjcohdaaW.PrintLast Go.Proofs.YtdbhpcekjcohdaaW.PrintMore
theorem adv_l (a : Int) (l1 : List Int) (l2 : List S57) (b1 : List Int) (b2 : List S57) (b0 : Int) (hl : l1.length ≤ 9223372036854775807) (d : Nat) : ∀ i : Nat, i ≤ l1.length → l1.length - i = d →
    Ev (fun k => spec_AdvanceEpoch.l0 k (i : Int) a l1 l2 b0 b1 b2) (if a ∈ l1.drop i then (b0, b1, b2, false) else (wrap64 (a + 1), b1, b2, true)) := by
  induction d with
  | zero =>
    intro i hi hd
    rw [List.drop_eq_nil_of_le (by omega)]
    exact Ev.at1 fun k => by simp only [spec_AdvanceEpoch.l0]; rw [if_neg (by omega)]; simp
  | succ d ih =>
    intro i hi hd
    have hlt : i < l1.length := by omega
    have hr := rd_get l1 i hlt
    rw [drop_get l1 i hlt]
    by_cases c : l1[i] = a
    · rw [if_pos (List.mem_cons.mpr (.inl c.symm))]
      exact Ev.at1 fun k => by simp only [spec_AdvanceEpoch.l0]; rw [if_pos (by omega), if_pos (by omega), hr, if_pos c]
    · have e : (a ∈ l1[i] :: l1.drop (i + 1)) = (a ∈ l1.drop (i + 1)) := propext ⟨fun h => (List.mem_cons.mp h).resolve_left (fun h => c h.symm), fun h => List.mem_cons.mpr (.inr h)⟩
      simp only [e]
      refine Ev.go (fun k => ?_) (ih (i + 1) (by omega) (by omega))
      simp only [spec_AdvanceEpoch.l0]; rw [if_pos (by omega), if_pos (by omega), hr, if_neg c, wnat i _ hlt hl]
theorem adv_spec (a : Int) (l1 : List Int) (l2 : List S57) (h1 : l1.length ≤ 1048576) (h2 : l2.length ≤ 1048576) : Ev (fun k => spec_AdvanceEpoch.f k a l1 l2) (advF a l1 l2) := by
  have hs := spec_ok a l1 l2 (by omega) (by omega)
  have cs := copy_spec a l1 l2 (by omega) (by omega)
  have hl := adv_l a l1 l2 l1 l2 a (by omega) l1.length 0 (by omega) (by omega)
  rw [List.drop_zero] at hl
  have jt : ∀ k, spec_AdvanceEpoch.j0 (k + 1) true a l1 l2 a l1 l2 = some (a, l1, l2, false) := fun k => by simp only [spec_AdvanceEpoch.j0, if_true]
  have jf : ∀ k, spec_AdvanceEpoch.j0 (k + 1) false a l1 l2 a l1 l2 = spec_AdvanceEpoch.l0 k 0 a l1 l2 a l1 l2 := fun k => by simp only [spec_AdvanceEpoch.j0]; rw [if_neg (by simp)]
  refine Ev.eq (fun k => by simp only [spec_AdvanceEpoch.f, cs, Option.bind_some]; rfl) ?_
  refine Ev.then_ hs ?_
  by_cases c : okEp a l1 l2 = true
  · refine Ev.eq (fun k => if_pos c) ?_
    by_cases c0 : a = 1000000000
    · rw [show advF a l1 l2 = (a, l1, l2, false) from if_neg (fun h => h.1.2 c0), show (a == 1000000000) = true by simp [c0]]
      exact Ev.at1 jt
    · rw [show (a == 1000000000) = false by simp [c0]]
      by_cases c1 : a ∈ l1
      · rw [show advF a l1 l2 = (a, l1, l2, false) from if_neg (fun h => h.2 c1)]; rw [if_pos c1] at hl; exact Ev.go jf hl
      · rw [show advF a l1 l2 = (wrap64 (a + 1), l1, l2, true) from if_pos ⟨⟨c, c0⟩, c1⟩]; rw [if_neg c1] at hl; exact Ev.go jf hl
  · rw [show advF a l1 l2 = (a, l1, l2, false) from if_neg (fun h => c h.1.1)]
    exact Ev.eq (fun k => if_neg c) (Ev.at1 jt)
end Go.Proofs.Ytdbhpcekjcohdaa.Q
