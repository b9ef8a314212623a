import Derived.Test.YtdbhpcekjcohdaaEpSame
import Derived.Test.YtdbhpcekjcohdaaG31
import Derived.Test.YtdbhpcekjcohdaaG8
namespace Go.Proofs.Ytdbhpcekjcohdaa.Q
open Go.RowKit Go.Proofs.YtdbhpcekjcohdaaW.PrintWords Go.Proofs.YtdbhpcekjcohdaaW.PrintLast Go.Proofs.YtdbhpcekjcohdaaW.PrintMore
theorem index_l (l : List Int) (a : Int) (hl : l.length ≤ 9223372036854775807) (d : Nat) : ∀ i : Nat, i ≤ l.length → l.length - i = d → ∃ r : Int, Ev (fun k => slices_Index_int_int.l0 k l a (l.length : Int) (i : Int)) r ∧ (r ≥ 0 ↔ a ∈ l.drop i) := by
  induction d with
  | zero =>
    intro i hi hd
    refine ⟨-1, Ev.at1 fun k => by simp only [slices_Index_int_int.l0]; rw [if_neg (by omega)], ?_⟩
    rw [List.drop_eq_nil_of_le (by omega)]; simp
  | succ d ih =>
    intro i hi hd
    have hlt : i < l.length := by omega
    rw [drop_get l i hlt]
    by_cases c : a = l[i]
    · refine ⟨(i : Int), Ev.at1 fun k => ?_, ⟨fun _ => List.mem_cons.mpr (.inl c), fun _ => by omega⟩⟩
      simp only [slices_Index_int_int.l0]
      rw [if_pos (by omega), if_pos (by omega), if_pos (by omega), rd_get l i hlt, if_pos c]
    · obtain ⟨r, hr, h⟩ := ih (i + 1) (by omega) (by omega)
      refine ⟨r, Ev.go (fun k => ?_) hr, by rw [h, List.mem_cons]; exact ⟨.inr, fun h => h.resolve_left c⟩⟩
      simp only [slices_Index_int_int.l0]
      rw [if_pos (by omega), if_pos (by omega), if_pos (by omega), rd_get l i hlt, if_neg c, wnat i _ hlt hl]
theorem contains_int (l : List Int) (a : Int) (hl : l.length ≤ 9223372036854775807) : Ev (fun k => slices_Contains_int_int.f k l a) (decide (a ∈ l)) := by
  obtain ⟨r, hr, h⟩ := index_l l a hl l.length 0 (by omega) (by omega)
  refine Ev.then_ (f := fun k t => some (decide (t ≥ 0))) (Ev.eq (fun k => rfl) hr) (Ev.eq (fun k => ?_) (Ev.now _))
  rw [List.drop_zero] at h
  simp only [h]
theorem adv_l (a : Int) (l1 : List Int) (l2 : List S57) (b1 : List Int) (b2 : List S57) (b0 : Int) (hl : l1.length ≤ 9223372036854775807) (d : Nat) : ∀ i : Nat, i ≤ l1.length → l1.length - i = d →
    Ev (fun k => spec_AdvanceEpoch.l0 k (i : Int) a l1 l2 b0 b1 b2) (if a ∈ l1.drop i then (b0, b1, b2, false) else (wrap64 (a + 1), b1, b2, true)) := by
  induction d with
  | zero =>
    intro i hi hd
    rw [List.drop_eq_nil_of_le (by omega)]
    exact Ev.at1 fun k => by simp only [spec_AdvanceEpoch.l0]; rw [if_neg (by omega)]; simp
  | succ d ih =>
    intro i hi hd
    have hlt : i < l1.length := by omega
    have hr := rd_get l1 i hlt
    rw [drop_get l1 i hlt]
    by_cases c : l1[i] = a
    · rw [if_pos (List.mem_cons.mpr (.inl c.symm))]
      exact Ev.at1 fun k => by simp only [spec_AdvanceEpoch.l0]; rw [if_pos (by omega), if_pos (by omega), hr, if_pos c]
    · have e : (a ∈ l1[i] :: l1.drop (i + 1)) = (a ∈ l1.drop (i + 1)) := propext ⟨fun h => (List.mem_cons.mp h).resolve_left (fun h => c h.symm), fun h => List.mem_cons.mpr (.inr h)⟩
      simp only [e]
      refine Ev.go (fun k => ?_) (ih (i + 1) (by omega) (by omega))
      simp only [spec_AdvanceEpoch.l0]; rw [if_pos (by omega), if_pos (by omega), hr, if_neg c, wnat i _ hlt hl]
theorem sameAdvanceEpoch (a : Int) (l1 : List Int) (l2 : List S57) (h1 : l1.length ≤ 1048576) (h2 : l2.length ≤ 1048576) :
    ∃ (a' : Int) (p' : List Int) (g' : List S57) (b : Bool), p'.length ≤ 1048577 ∧ g'.length ≤ 1048577 ∧ Ev (fun k => spec_AdvanceEpoch.f k a l1 l2) (a', p', g', b) ∧ Ev (fun k => impl_AdvanceEpoch.f k a l1 l2) (a', p', g', b) := by
  have hs := spec_ok a l1 l2 (by omega) (by omega)
  have hi := impl_ok a l1 l2 (by omega) (by omega)
  have cs := copy_spec a l1 l2 (by omega) (by omega)
  have ci := copy_impl a l1 l2 (by omega) (by omega)
  have hc := contains_int l1 a (by omega)
  have hl := adv_l a l1 l2 l1 l2 a (by omega) l1.length 0 (by omega) (by omega)
  rw [List.drop_zero] at hl
  have jt : ∀ k, spec_AdvanceEpoch.j0 (k + 1) true a l1 l2 a l1 l2 = some (a, l1, l2, false) := fun k => by simp only [spec_AdvanceEpoch.j0, if_true]
  have jf : ∀ k, spec_AdvanceEpoch.j0 (k + 1) false a l1 l2 a l1 l2 = spec_AdvanceEpoch.l0 k 0 a l1 l2 a l1 l2 := fun k => by simp only [spec_AdvanceEpoch.j0]; rw [if_neg (by simp)]
  by_cases c : okEp a l1 l2 = true
  · by_cases c0 : a = 1000000000
    · refine ⟨a, l1, l2, false, by omega, by omega, ?_, ?_⟩
      · refine Ev.eq (fun k => by simp only [spec_AdvanceEpoch.f, cs, Option.bind_some]; rfl) ?_
        refine Ev.then_ hs (Ev.eq (fun k => if_pos c) ?_)
        rw [show (a == 1000000000) = true by simp [c0]]
        exact Ev.at1 jt
      · refine Ev.eq (fun k => by simp only [impl_AdvanceEpoch.f, ci, Option.bind_some]; rfl) ?_
        exact Ev.then_ hi (Ev.eq (fun k => if_pos c) (Ev.eq (fun k => if_pos c0) (Ev.now _)))
    · by_cases c1 : a ∈ l1
      · refine ⟨a, l1, l2, false, by omega, by omega, ?_, ?_⟩
        · refine Ev.eq (fun k => by simp only [spec_AdvanceEpoch.f, cs, Option.bind_some]; rfl) ?_
          refine Ev.then_ hs (Ev.eq (fun k => if_pos c) ?_)
          rw [show (a == 1000000000) = false by simp [c0]]
          rw [if_pos c1] at hl
          exact Ev.go jf hl
        · refine Ev.eq (fun k => by simp only [impl_AdvanceEpoch.f, ci, Option.bind_some]; rfl) ?_
          refine Ev.then_ hi (Ev.eq (fun k => if_pos c) (Ev.eq (fun k => if_neg c0) ?_))
          exact Ev.then_ hc (Ev.eq (fun k => if_pos (by simp [c1])) (Ev.now _))
      · refine ⟨wrap64 (a + 1), l1, l2, true, by omega, by omega, ?_, ?_⟩
        · refine Ev.eq (fun k => by simp only [spec_AdvanceEpoch.f, cs, Option.bind_some]; rfl) ?_
          refine Ev.then_ hs (Ev.eq (fun k => if_pos c) ?_)
          rw [show (a == 1000000000) = false by simp [c0]]
          rw [if_neg c1] at hl
          exact Ev.go jf hl
        · refine Ev.eq (fun k => by simp only [impl_AdvanceEpoch.f, ci, Option.bind_some]; rfl) ?_
          refine Ev.then_ hi (Ev.eq (fun k => if_pos c) (Ev.eq (fun k => if_neg c0) ?_))
          exact Ev.then_ hc (Ev.eq (fun k => if_neg (by simp [c1])) (Ev.now _))
  · refine ⟨a, l1, l2, false, by omega, by omega, ?_, ?_⟩
    · refine Ev.eq (fun k => by simp only [spec_AdvanceEpoch.f, cs, Option.bind_some]; rfl) ?_
      exact Ev.then_ hs (Ev.eq (fun k => if_neg c) (Ev.at1 jt))
    · refine Ev.eq (fun k => by simp only [impl_AdvanceEpoch.f, ci, Option.bind_some]; rfl) ?_
      exact Ev.then_ hi (Ev.eq (fun k => if_neg c) (Ev.now _))
theorem pureAdvanceEpoch (a : Int) (l1 : List Int) (l2 : List S70) (_ : (Lit.int .i64 a).wf = true) (h1 : l1.length ≤ maxLen) (_ : ∀ x ∈ l1, (Lit.int .i64 x).wf = true) (h2 : l2.length ≤ maxLen) (_ : ∀ x ∈ l2, (Lit.int .i64 x.f0).wf = true ∧ (Lit.int .i64 x.f1).wf = true) : ∃ k, laws_FnExactAdvanceEpoch.f k a l1 l2 = some true := by
  obtain ⟨t, ht, hc⟩ := sz_epochs a l1 l2 h1 h2
  rcases hc with hc | ⟨hc, b1, b2⟩
  · exact ⟨0, by simp only [laws_FnExactAdvanceEpoch.f, ht, Option.bind_some]; rw [if_pos hc]⟩
  · have hm : (l2.map cvG).length ≤ 1048576 := by rw [List.length_map]; omega
    obtain ⟨a', p', g', b, hp', hg', hs, hi⟩ := sameAdvanceEpoch a l1 (l2.map cvG) b1 hm
    refine Ev.rounds (g := fun k => laws_FnExactAdvanceEpoch.f k a l1 l2) (Ev.eq (fun k => by simp only [laws_FnExactAdvanceEpoch.f, ht, Option.bind_some]; rw [if_neg hc]) ?_)
    refine Ev.then_ (to_epochs a l1 l2 b1 b2) ?_
    refine Ev.then_ hs ?_
    refine Ev.then_ (to_epochs a l1 l2 b1 b2) ?_
    refine Ev.then_ hi ?_
    refine Ev.then_ (eq_epochs a' p' g' (by omega) (by omega)) (Ev.eq (fun k => if_pos rfl) ?_)
    refine Ev.go (fun k => by simp only [laws_FnExactAdvanceEpoch.j0]; rw [if_neg (by simp)]) ?_
    refine Ev.then_ (to_epochs a l1 l2 b1 b2) ?_
    refine Ev.then_ (eq_epochs a l1 (l2.map cvG) (by omega) (by omega)) (Ev.eq (fun k => if_pos rfl) ?_)
    refine Ev.then_ (mark_epochs a l1 (l2.map cvG) (by omega) (by omega)) (Ev.eq (fun k => if_neg (by dsimp only; omega)) ?_)
    refine Ev.then_ (eq_epochs a' p' g' (by omega) (by omega)) (Ev.eq (fun k => if_pos rfl) ?_)
    refine Ev.go (fun k => by simp only [laws_FnExactAdvanceEpoch.j1]; rw [if_neg (by simp)]) ?_
    refine Ev.then_ (mark_epochs a' p' g' (by omega) (by omega)) ?_
    refine Ev.then_ (held_epochs a' p'.length g'.length (by omega) (by omega)) (Ev.eq (fun k => if_neg (by omega)) (Ev.eq (fun k => if_pos rfl) ?_))
    refine Ev.then_ (to_epochs a l1 l2 b1 b2) ?_
    refine Ev.then_ hi ?_
    refine Ev.then_ (eq_epochs a' p' g' (by omega) (by omega)) (Ev.eq (fun k => if_pos rfl) ?_)
    refine Ev.go (fun k => by simp only [laws_FnExactAdvanceEpoch.j2]; rw [if_neg (by simp)]) ?_
    exact Ev.then_ (held_epochs a' p'.length g'.length (by omega) (by omega)) (Ev.eq (fun k => if_neg (by omega)) (Ev.eq (fun k => if_pos rfl) (Ev.now true)))

end Go.Proofs.Ytdbhpcekjcohdaa.Q
