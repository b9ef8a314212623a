import Derived.Test.YthjigecaojaalaaDraw
import Derived.Test.YthjigecaojaalaaG22
namespace Go.Proofs.Ythjigecaojaalaa.Q
open Go.RowKit Go.Proofs.YthjigecaojaalaaW.PrintWords Go.Proofs.YthjigecaojaalaaW.PrintLast Go.Proofs.YthjigecaojaalaaW.PrintMore
/-! ### twelve drawn numbers -/
def Pl (r : List Int) : Prop := r.length = 12 ∧ ∀ p ∈ r, 0 ≤ p ∧ p < 10000
theorem placesP_l (l : List Int) (d : Nat) : ∀ (i : Nat) (x : List Int) (ci ch : Int), i ≤ 12 → 12 - i = d → x.length = i → (∀ p ∈ x, 0 ≤ p ∧ p < 10000) → cu l ci → EvP (fun k => spec_DrawPlaces.l0 k x (i : Int) l ci ch) Pl := by
  induction d with
  | zero =>
    intro i x ci ch hi hd hx hp hc
    refine EvP.succ ?_
    simp only [spec_DrawPlaces.l0]
    exact EvP.no (by omega) (EvP.ret ⟨by omega, hp⟩)
  | succ d ih =>
    intro i x ci ch hi hd hx hp hc
    refine EvP.succ ?_
    simp only [spec_DrawPlaces.l0]
    rw [wnat i 12 (by omega) (by omega)]
    refine EvP.yes (by omega) (EvP.bind (belowP l _ _ 10000 (by omega) hc) fun y hy => EvP.yes (by omega) ?_)
    refine ih (i + 1) _ _ _ (by omega) (by omega) (by simp; omega) (fun p h => ?_) hy.2
    rcases List.mem_append.mp h with h | h
    · exact hp p h
    · rw [List.mem_singleton.mp h]; exact hy.1
theorem placesP (l : List Int) (hl : l.length ≤ 4611686018427387904) : EvP (fun k => spec_DrawPlaces.f k l) Pl := by
  simp only [spec_DrawPlaces.f]
  refine EvP.bind (newP l hl) fun c hc => ?_
  rw [hc.1]
  exact EvP.bind (byteP l _ _ hc.2) fun y hy => placesP_l l 12 0 [] _ _ (by omega) (by omega) rfl (fun p h => absurd h (by simp)) hy.2

end Go.Proofs.Ythjigecaojaalaa.Q
