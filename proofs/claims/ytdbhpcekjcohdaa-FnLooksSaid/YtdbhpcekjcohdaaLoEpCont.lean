import Derived.Test.YtdbhpcekjcohdaaLoEpOk
import Derived.Test.YtdbhpcekjcohdaaLoG31
namespace Go.Proofs.Ytdbhpcekjcohdaa.Q
open Go.RowKit Go.Proofs.YtdbhpcekjcohdaaW.PrintWords Go.Proofs.YtdbhpcekjcohdaaW.PrintLast Go.Proofs.YtdbhpcekjcohdaaW.PrintMore
theorem index_l (l : List Int) (a : Int) (hl : l.length ≤ 9223372036854775807) (d : Nat) : ∀ i : Nat, i ≤ l.length → l.length - i = d → ∃ r : Int, Ev (fun k => slices_Index_int_int.l0 k l a (l.length : Int) (i : Int)) r ∧ (r ≥ 0 ↔ a ∈ l.drop i) := by
  induction d with
  | zero =>
    intro i hi hd
    refine ⟨-1, Ev.at1 fun k => by simp only [slices_Index_int_int.l0]; rw [if_neg (by omega)], ?_⟩
    rw [List.drop_eq_nil_of_le (by omega)]; simp
  | succ d ih =>
    intro i hi hd
    have hlt : i < l.length := by omega
    rw [drop_get l i hlt]
    by_cases c : a = l[i]
    · refine ⟨(i : Int), Ev.at1 fun k => ?_, ⟨fun _ => List.mem_cons.mpr (.inl c), fun _ => by omega⟩⟩
      simp only [slices_Index_int_int.l0]
      rw [if_pos (by omega), if_pos (by omega), if_pos (by omega), rd_get l i hlt, if_pos c]
    · obtain ⟨r, hr, h⟩ := ih (i + 1) (by omega) (by omega)
      refine ⟨r, Ev.go (fun k => ?_) hr, by rw [h, List.mem_cons]; exact ⟨.inr, fun h => h.resolve_left c⟩⟩
      simp only [slices_Index_int_int.l0]
      rw [if_pos (by omega), if_pos (by omega), if_pos (by omega), rd_get l i hlt, if_neg c, wnat i _ hlt hl]
theorem contains_int (l : List Int) (a : Int) (hl : l.length ≤ 9223372036854775807) : Ev (fun k => slices_Contains_int_int.f k l a) (decide (a ∈ l)) := by
  obtain ⟨r, hr, h⟩ := index_l l a hl l.length 0 (by omega) (by omega)
  refine Ev.then_ (f := fun k t => some (decide (t ≥ 0))) (Ev.eq (fun k => rfl) hr) (Ev.eq (fun k => ?_) (Ev.now _))
  rw [List.drop_zero] at h
  simp only [h]
end Go.Proofs.Ytdbhpcekjcohdaa.Q
