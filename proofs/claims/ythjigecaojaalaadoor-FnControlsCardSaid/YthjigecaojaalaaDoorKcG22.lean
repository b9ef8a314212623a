import Derived.Laws.RangeAny
import Derived.Laws.Runes
import Derived.Lib.IndexAny
import Derived.Lib.OthersKept
import Derived.WalkMore
import Derived.Test.YthjigecaojaalaaDoorKcShelf
import Derived.Test.YthjigecaojaalaaDoorKcB0
import Derived.Test.YthjigecaojaalaaDoorKcG30
import Derived.Test.YthjigecaojaalaaDoorKcG35
import Derived.Test.YthjigecaojaalaaDoorKcG60
import Derived.Test.YthjigecaojaalaaDoorKcWords
namespace Go.Proofs.YthjigecaojaalaaDoor.Q
open Go.RowKit Go.Proofs.YthjigecaojaalaaDoorW.PrintWords Go.Proofs.YthjigecaojaalaaDoorW.PrintLast Go.Proofs.YthjigecaojaalaaDoorW.PrintMore
attribute [local go_sem] max2_int min2_int max_two min_two max_three min_three max_four min_four   -- for this text's walks alone
set_option linter.unusedVariables false
set_option linter.unusedSimpArgs false
attribute [local go_sem high] eqA25
/-- The world with the iterator at b set to a place. -/
def strings_ContainsAny.It (W : World) (b : Nat) (s : ByteArray) (p : Nat) : Prop := W.heap[b]? = some (.stringIter s p)
def strings_ContainsAny.to (W : World) (b : Nat) (s : ByteArray) (p : Nat) : World := { W with heap := W.heap.setIfInBounds b (.stringIter s p) }
theorem strings_ContainsAny.It.set {W : World} {b : Nat} {s : ByteArray} {p : Nat} (h : strings_ContainsAny.It W b s p) (q : Nat) : strings_ContainsAny.It (strings_ContainsAny.to W b s q) b s q := by
  unfold strings_ContainsAny.It strings_ContainsAny.to at *
  have : b < W.heap.size := (Array.getElem?_eq_some_iff.1 h).1
  simp [Array.getElem?_setIfInBounds, this]
theorem strings_ContainsAny.It.below {W w : World} {b : Nat} {s : ByteArray} {q : Nat} (h : Below w.heap.size w W) (hb : w.heap.size ≤ b) : Below w.heap.size w (strings_ContainsAny.to W b s q) := by
  refine ⟨h.os, h.tape, h.output, ?_, fun k hk => ?_⟩
  · show w.heap.size ≤ (W.heap.setIfInBounds b _).size
    rw [Array.size_setIfInBounds]; exact h.size
  · show (W.heap.setIfInBounds b _)[k]? = _
    rw [Array.getElem?_setIfInBounds, if_neg (by omega)]; exact h.block k hk
theorem strings_ContainsAny.It.keeps {W W' : World} {b : Nat} {s : ByteArray} {p : Nat} (h : strings_ContainsAny.It W b s p) (k : Below W.heap.size W W') : strings_ContainsAny.It W' b s p := by
  unfold strings_ContainsAny.It at *
  rw [k.block b (Array.getElem?_eq_some_iff.1 h).1]; exact h
end Go.Proofs.YthjigecaojaalaaDoor.Q
