import Derived.Test.YtdbhpcekjcohdaaEpMark
import Derived.Test.YtdbhpcekjcohdaaG13
import Derived.Test.YtdbhpcekjcohdaaG14
namespace Go.Proofs.Ytdbhpcekjcohdaa.Q
open Go.RowKit Go.Proofs.YtdbhpcekjcohdaaW.PrintWords Go.Proofs.YtdbhpcekjcohdaaW.PrintLast Go.Proofs.YtdbhpcekjcohdaaW.PrintMore
theorem pureEpochsNew (a : Int) (_ : (Lit.int .i64 a).wf = true) : ∃ k, laws_FnExactEpochsNew.f k a = some true := by
  obtain ⟨n, hn, hs, hi⟩ : ∃ n : Nat, n ≤ 4 ∧ spec_EpochsNew.f a = some (2, List.replicate n 0, []) ∧ impl_EpochsNew.f a = some (2, List.replicate n 0, []) := by
    by_cases c1 : a < 1
    · have e : mn (mx a 1) 4 = 1 := by unfold mn mx; omega
      exact ⟨1, by omega, by simp only [spec_EpochsNew.f]; rw [if_pos c1], by simp only [impl_EpochsNew.f, e]; rfl⟩
    · by_cases c2 : a > 4
      · have e : mn (mx a 1) 4 = 4 := by unfold mn mx; omega
        exact ⟨4, by omega, by simp only [spec_EpochsNew.f]; rw [if_neg c1, if_pos c2], by simp only [impl_EpochsNew.f, e]; rfl⟩
      · have e : mn (mx a 1) 4 = a := by unfold mn mx; omega
        exact ⟨a.toNat, by omega, by simp only [spec_EpochsNew.f]; rw [if_neg c1, if_neg c2, if_pos (by omega), if_pos (by omega)], by simp only [impl_EpochsNew.f, e]; rw [if_pos (by omega), if_pos (by omega)]⟩
  have hl : (List.replicate n (0 : Int)).length ≤ 4 := by simpa using hn
  have he := eq_epochs 2 (List.replicate n 0) [] (by omega) (by simp)
  have hm := mark_epochs 2 (List.replicate n 0) [] (by omega) (by simp)
  have hh := held_epochs 2 (List.replicate n (0 : Int)).length ([] : List S57).length (by omega) (by simp)
  have hneg : ¬ (1 + ((List.replicate n (0 : Int)).length : Int) + 2 * (([] : List S57).length : Int) < 0) := by omega
  refine Ev.rounds (g := fun k => laws_FnExactEpochsNew.f k a) (Ev.eq (fun k => by simp only [laws_FnExactEpochsNew.f, hs, hi, Option.bind_some]; rfl) ?_)
  refine Ev.then_ he (Ev.eq (fun k => if_pos rfl) ?_)
  refine Ev.then_ hm ?_
  refine Ev.then_ hh (Ev.eq (fun k => if_neg hneg) (Ev.eq (fun k => if_pos rfl) ?_))
  refine Ev.then_ he (Ev.eq (fun k => if_pos rfl) ?_)
  exact Ev.then_ hh (Ev.eq (fun k => if_neg hneg) (Ev.eq (fun k => if_pos rfl) (Ev.now true)))

end Go.Proofs.Ytdbhpcekjcohdaa.Q
