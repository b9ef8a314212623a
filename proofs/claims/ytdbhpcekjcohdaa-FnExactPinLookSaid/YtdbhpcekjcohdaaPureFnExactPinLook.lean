import Derived.Test.YtdbhpcekjcohdaaEpSame
import Derived.Test.YtdbhpcekjcohdaaG22
import Derived.Test.YtdbhpcekjcohdaaG23
import Derived.Test.YtdbhpcekjcohdaaG5
namespace Go.Proofs.Ytdbhpcekjcohdaa.Q
open Go.RowKit Go.Proofs.YtdbhpcekjcohdaaW.PrintWords Go.Proofs.YtdbhpcekjcohdaaW.PrintLast Go.Proofs.YtdbhpcekjcohdaaW.PrintMore
theorem samePinLook (a : Int) (l1 : List Int) (l2 : List S57) (who : Int) (h1 : l1.length ≤ 1048576) (h2 : l2.length ≤ 1048576) :
    ∃ (a' : Int) (p' : List Int) (g' : List S57) (b : Bool), p'.length ≤ 1048577 ∧ g'.length ≤ 1048577 ∧ Ev (fun k => spec_PinLook.f k a l1 l2 who) (a', p', g', b) ∧ Ev (fun k => impl_PinLook.f k a l1 l2 who) (a', p', g', b) := by
  have hs := spec_ok a l1 l2 (by omega) (by omega)
  have hi := impl_ok a l1 l2 (by omega) (by omega)
  have cs := copy_spec a l1 l2 (by omega) (by omega)
  have ci := copy_impl a l1 l2 (by omega) (by omega)
  have hw : wrap64 ((l1.length : Int) - 1) = (l1.length : Int) - 1 := w64 (by omega) (by omega)
  by_cases c : okEp a l1 l2 = true ∧ (0 ≤ who ∧ who ≤ (l1.length : Int) - 1)
  · rw [c.1] at hs hi
    by_cases c0 : rd l1 who = 0
    · refine ⟨a, l1.set who.toNat (wrap64 (a + 1)), l2, true, by simp; omega, by omega, ?_, ?_⟩
      · refine Ev.eq (fun k => by simp only [spec_PinLook.f, cs, Option.bind_some]; rfl) ?_
        refine Ev.then_ hs (Ev.eq (fun k => if_pos rfl) (Ev.eq (fun k => ?_) (Ev.now _)))
        simp only [in_spec, hw, c.2, Option.bind_some, and_self, decide_true, if_true]; rw [if_pos (by omega), if_pos c0, if_pos (by omega)]
      · refine Ev.eq (fun k => by simp only [impl_PinLook.f, ci, Option.bind_some]; rfl) ?_
        refine Ev.then_ hi (Ev.eq (fun k => if_pos rfl) (Ev.eq (fun k => ?_) (Ev.now _)))
        simp only [impl_isPlace.f, in_impl, hw, c.2, Option.bind_some, and_self, decide_true, if_true]; rw [if_pos (by omega), if_pos c0, if_pos (by omega)]
    · refine ⟨a, l1, l2, false, by omega, by omega, ?_, ?_⟩
      · refine Ev.eq (fun k => by simp only [spec_PinLook.f, cs, Option.bind_some]; rfl) ?_
        refine Ev.then_ hs (Ev.eq (fun k => if_pos rfl) (Ev.eq (fun k => ?_) (Ev.now _)))
        simp only [in_spec, hw, c.2, Option.bind_some, and_self, decide_true, if_true]; rw [if_pos (by omega), if_neg c0]
      · refine Ev.eq (fun k => by simp only [impl_PinLook.f, ci, Option.bind_some]; rfl) ?_
        refine Ev.then_ hi (Ev.eq (fun k => if_pos rfl) (Ev.eq (fun k => ?_) (Ev.now _)))
        simp only [impl_isPlace.f, in_impl, hw, c.2, Option.bind_some, and_self, decide_true, if_true]; rw [if_pos (by omega), if_neg c0]
  · refine ⟨a, l1, l2, false, by omega, by omega, ?_, ?_⟩
    · refine Ev.eq (fun k => by simp only [spec_PinLook.f, cs, Option.bind_some]; rfl) ?_
      refine Ev.then_ hs ?_
      by_cases c1 : okEp a l1 l2 = true
      · refine Ev.eq (fun k => if_pos c1) (Ev.eq (fun k => ?_) (Ev.now _))
        simp only [in_spec, hw, Option.bind_some]; rw [if_neg (by simpa using fun h1 h2 => c ⟨c1, h1, h2⟩)]
      · exact Ev.eq (fun k => if_neg c1) (Ev.now _)
    · refine Ev.eq (fun k => by simp only [impl_PinLook.f, ci, Option.bind_some]; rfl) ?_
      refine Ev.then_ hi ?_
      by_cases c1 : okEp a l1 l2 = true
      · refine Ev.eq (fun k => if_pos c1) (Ev.eq (fun k => ?_) (Ev.now _))
        simp only [impl_isPlace.f, in_impl, hw, Option.bind_some]; rw [if_neg (by simpa using fun h1 h2 => c ⟨c1, h1, h2⟩)]
      · exact Ev.eq (fun k => if_neg c1) (Ev.now _)
theorem purePinLook (a : Int) (l1 : List Int) (l2 : List S70) (who : Int) (_ : (Lit.int .i64 a).wf = true) (h1 : l1.length ≤ maxLen) (_ : ∀ x ∈ l1, (Lit.int .i64 x).wf = true) (h2 : l2.length ≤ maxLen) (_ : ∀ x ∈ l2, (Lit.int .i64 x.f0).wf = true ∧ (Lit.int .i64 x.f1).wf = true) (_ : (Lit.int .i64 who).wf = true) : ∃ k, laws_FnExactPinLook.f k a l1 l2 who = some true := by
  obtain ⟨t, ht, hc⟩ := sz_epochs a l1 l2 h1 h2
  rcases hc with hc | ⟨hc, b1, b2⟩
  · exact ⟨0, by simp only [laws_FnExactPinLook.f, ht, Option.bind_some]; rw [if_pos hc]⟩
  · have hm : (l2.map cvG).length ≤ 1048576 := by rw [List.length_map]; omega
    obtain ⟨a', p', g', b, hp', hg', hs, hi⟩ := samePinLook a l1 (l2.map cvG) who b1 hm
    refine Ev.rounds (g := fun k => laws_FnExactPinLook.f k a l1 l2 who) (Ev.eq (fun k => by simp only [laws_FnExactPinLook.f, ht, Option.bind_some]; rw [if_neg hc]) ?_)
    refine Ev.then_ (to_epochs a l1 l2 b1 b2) ?_
    refine Ev.then_ hs ?_
    refine Ev.then_ (to_epochs a l1 l2 b1 b2) ?_
    refine Ev.then_ hi ?_
    refine Ev.then_ (eq_epochs a' p' g' (by omega) (by omega)) (Ev.eq (fun k => if_pos rfl) ?_)
    refine Ev.go (fun k => by simp only [laws_FnExactPinLook.j0]; rw [if_neg (by simp)]) ?_
    refine Ev.then_ (to_epochs a l1 l2 b1 b2) ?_
    refine Ev.then_ (eq_epochs a l1 (l2.map cvG) (by omega) (by omega)) (Ev.eq (fun k => if_pos rfl) ?_)
    refine Ev.then_ (mark_epochs a l1 (l2.map cvG) (by omega) (by omega)) (Ev.eq (fun k => if_neg (by dsimp only; omega)) ?_)
    refine Ev.then_ (eq_epochs a' p' g' (by omega) (by omega)) (Ev.eq (fun k => if_pos rfl) ?_)
    refine Ev.go (fun k => by simp only [laws_FnExactPinLook.j1]; rw [if_neg (by simp)]) ?_
    refine Ev.then_ (mark_epochs a' p' g' (by omega) (by omega)) ?_
    refine Ev.then_ (held_epochs a' p'.length g'.length (by omega) (by omega)) (Ev.eq (fun k => if_neg (by omega)) (Ev.eq (fun k => if_pos rfl) ?_))
    refine Ev.then_ (to_epochs a l1 l2 b1 b2) ?_
    refine Ev.then_ hi ?_
    refine Ev.then_ (eq_epochs a' p' g' (by omega) (by omega)) (Ev.eq (fun k => if_pos rfl) ?_)
    refine Ev.go (fun k => by simp only [laws_FnExactPinLook.j2]; rw [if_neg (by simp)]) ?_
    exact Ev.then_ (held_epochs a' p'.length g'.length (by omega) (by omega)) (Ev.eq (fun k => if_neg (by omega)) (Ev.eq (fun k => if_pos rfl) (Ev.now true)))

end Go.Proofs.Ytdbhpcekjcohdaa.Q
