import Derived.Test.YthjigecaojaalaaBtBody
import Derived.Test.YthjigecaojaalaaBtPlaces
import Derived.Test.YthjigecaojaalaaBtG45
namespace Go.Proofs.Ythjigecaojaalaa.Q
open Go.RowKit Go.Proofs.YthjigecaojaalaaW.PrintWords Go.Proofs.YthjigecaojaalaaW.PrintLast Go.Proofs.YthjigecaojaalaaW.PrintMore
theorem Ev.of_mono {α : Type} {g : Nat → Option α} {r : α} (hm : ∀ k, LeO (g k) (g (k + 1))) (K : Nat) (h : g K = some r) : Ev g r := by
  refine ⟨K, fun k hk => ?_⟩
  induction k with
  | zero => obtain rfl : K = 0 := by omega
            exact h
  | succ k ih =>
    by_cases c : K = k + 1
    · rw [← c]; exact h
    · exact hm k _ (ih (by omega))
def dec (n : Nat) : ByteArray := if n < 10 then ⟨#[UInt8.ofNat (48 + n)]⟩ else ⟨#[UInt8.ofNat (48 + n / 10), UInt8.ofNat (48 + n % 10)]⟩
theorem dec_all : ∀ n : Fin 90, spec_Decimal.f 20 ((n.val : Nat) : Int) = some (dec n.val) ∧ okN (dec n.val) ∧ nm (dec n.val) = ((n.val : Nat) : Int) := by decide +kernel
theorem dec_ev (n : Int) (h0 : 0 ≤ n) (h1 : n < 90) : ∃ s : ByteArray, Ev (fun k => spec_Decimal.f k n) s ∧ okN s ∧ nm s = n := by
  obtain ⟨a, b, c⟩ := dec_all ⟨n.toNat, by omega⟩
  have e : ((n.toNat : Nat) : Int) = n := Int.toNat_of_nonneg h0
  simp only [e] at a c
  exact ⟨_, Ev.of_mono (spec_Decimal.mono n) 20 a, b, c⟩
end Go.Proofs.Ythjigecaojaalaa.Q
