import Derived.Test.YtoopdknphikgkaaSkOk
import Derived.Test.YtoopdknphikgkaaSum
import Derived.Test.YtoopdknphikgkaaG37
import Derived.Test.YtoopdknphikgkaaG31
namespace Go.Proofs.Ytoopdknphikgkaa.Q
open Go.RowKit Go.Proofs.YtoopdknphikgkaaW.PrintWords Go.Proofs.YtoopdknphikgkaaW.PrintLast Go.Proofs.YtoopdknphikgkaaW.PrintMore
/-! ### the guess -/
def gsL (pl : Nat → Int) : List (List Int) → Nat → Int → Int
  | [], _, m => m
  | r :: t, i, m => gsL pl t (i + 1) (mn m (rd r (pl i)))
def gs (l : List (List Int)) (pl : Nat → Int) (i : Nat) (m : Int) : Int := gsL pl (l.drop i) i m
theorem mn_if (m x : Int) : mn m x = if x < m then x else m := rfl
theorem guess_spec_l (l : List (List Int)) (a : Int) (key : ByteArray) (pl : Nat → Int) (hp : ∀ i, 0 ≤ pl i ∧ pl i < 16 ∧ Ev (fun k => spec_SketchPlace.f k (i : Int) key) (pl i)) (hl : l.length ≤ 1048576) (hg : ∀ r ∈ l, r.length = 16) (d : Nat) : ∀ (i : Nat) (m : Int), i ≤ l.length → l.length - i = d → Ev (fun k => spec_SketchGuess.l0 k key m (i : Int) l a) (gs l pl i m) := by
  induction d with
  | zero =>
    intro i m hi hd
    refine Ev.succ ?_
    simp only [spec_SketchGuess.l0]
    rw [show gs l pl i m = m from by show gsL pl (l.drop i) i m = m; rw [List.drop_eq_nil_of_le (by omega)]; rfl]
    exact Ev.no (by omega) (Ev.now _)
  | succ d ih =>
    intro i m hi hd
    have hlt : i < l.length := by omega
    have hr := hg _ (List.getElem_mem hlt)
    obtain ⟨p0, p1, pe⟩ := hp i
    refine Ev.succ ?_
    simp only [spec_SketchGuess.l0]
    rw [rdL_get l i hlt, wnat i _ hlt (by omega)]
    have e : gs l pl i m = gs l pl (i + 1) (mn m (rd l[i] (pl i))) := by show gsL pl (l.drop i) i m = _; rw [drop_get l i hlt]; rfl
    rw [e, mn_if]
    refine Ev.yes (by omega) (Ev.yes (by omega) (Ev.bind pe (Ev.yes p0 (Ev.yes (by omega) ?_))))
    by_cases c : rd l[i] (pl i) < m
    · rw [if_pos c]; exact Ev.yes c (ih (i + 1) _ (by omega) (by omega))
    · rw [if_neg c]; exact Ev.no c (ih (i + 1) _ (by omega) (by omega))
theorem guess_impl_l (l : List (List Int)) (key : ByteArray) (pl : Nat → Int) (hp : ∀ i, 0 ≤ pl i ∧ pl i < 16 ∧ Ev (fun k => impl_SketchPlace.f k (i : Int) key) (pl i)) (hl : l.length ≤ 1048576) (hg : ∀ r ∈ l, r.length = 16) (d : Nat) : ∀ (i : Nat) (m : Int), i ≤ l.length → l.length - i = d → Ev (fun k => impl_SketchGuess.l0 k key m l (l.length : Int) (i : Int)) (gs l pl i m) := by
  induction d with
  | zero =>
    intro i m hi hd
    refine Ev.succ ?_
    simp only [impl_SketchGuess.l0]
    rw [show gs l pl i m = m from by show gsL pl (l.drop i) i m = m; rw [List.drop_eq_nil_of_le (by omega)]; rfl]
    exact Ev.no (by omega) (Ev.now _)
  | succ d ih =>
    intro i m hi hd
    have hlt : i < l.length := by omega
    have hr := hg _ (List.getElem_mem hlt)
    obtain ⟨p0, p1, pe⟩ := hp i
    refine Ev.succ ?_
    simp only [impl_SketchGuess.l0]
    rw [rdL_get l i hlt, wnat i _ hlt (by omega)]
    have e : gs l pl i m = gs l pl (i + 1) (mn m (rd l[i] (pl i))) := by show gsL pl (l.drop i) i m = _; rw [drop_get l i hlt]; rfl
    rw [e]
    exact Ev.yes (by omega) (Ev.yes (by omega) (Ev.yes (by omega) (Ev.bind pe (Ev.yes p0 (Ev.yes (by omega) (ih (i + 1) _ (by omega) (by omega)))))))
theorem skOk_rows {l : List (List Int)} {a : Int} (h : skOk l a = true) : l.length = 3 ∧ (0 ≤ a ∧ a ≤ 63) ∧ ∀ r ∈ l, r.length = 16 ∧ ∀ n ∈ r, 0 ≤ n ∧ n ≤ 15 := by
  simp only [skOk, Bool.and_eq_true, decide_eq_true_eq, List.all_eq_true] at h
  refine ⟨h.1, h.2.1, fun r hr => ?_⟩
  have := h.2.2 r hr
  simp only [rOk, Bool.and_eq_true, decide_eq_true_eq, List.all_eq_true] at this
  exact ⟨this.1, fun n hn => of_decide_eq_true (this.2 n hn)⟩
/-- Both guess the same. -/
theorem guess_both (l : List (List Int)) (a : Int) (key : ByteArray) (hk : key.size ≤ 140737488351232) (hl : l.length ≤ 1048576) (hg : ∀ r ∈ l, r.length ≤ 1048576) : ∃ g, Ev (fun k => spec_SketchGuess.f k l a key) g ∧ Ev (fun k => impl_SketchGuess.f k l a key) g := by
  simp only [spec_SketchGuess.f, impl_SketchGuess.f]
  cases c : skOk l a with
  | false =>
    have s := sk_spec l a hl
    have i := sk_impl l a hl hg
    rw [c] at s i
    exact ⟨0, Ev.bind s (Ev.no (by simp) (Ev.now _)), Ev.bind i (Ev.no (by simp) (Ev.now _))⟩
  | true =>
    have s := sk_spec l a hl
    have i := sk_impl l a hl hg
    rw [c] at s i
    have hr := fun r hr => ((skOk_rows c).2.2 r hr).1
    have hp := fun i : Nat => place_of (i : Int) key hk
    refine ⟨gs l (fun i => Classical.choose (hp i)) 0 15, Ev.bind s (Ev.yes rfl ?_), Ev.bind i (Ev.yes rfl ?_)⟩
    · exact guess_spec_l l a key _ (fun i => ⟨(Classical.choose_spec (hp i)).1, (Classical.choose_spec (hp i)).2.1, (Classical.choose_spec (hp i)).2.2.1⟩) hl hr l.length 0 15 (by omega) (by omega)
    · exact guess_impl_l l key _ (fun i => ⟨(Classical.choose_spec (hp i)).1, (Classical.choose_spec (hp i)).2.1, (Classical.choose_spec (hp i)).2.2.2⟩) hl hr l.length 0 15 (by omega) (by omega)

end Go.Proofs.Ytoopdknphikgkaa.Q
