import Derived.Lib.IndexMore
import Derived.Lib.SlBytesRow
import Derived.Lib.TrimByte
import Derived.Test.YthjigecaojaalaaDoorKtShelf
import Derived.Test.YthjigecaojaalaaDoorKtB0
import Derived.Test.YthjigecaojaalaaDoorKtG30
import Derived.Test.YthjigecaojaalaaDoorKtWords
namespace Go.Proofs.YthjigecaojaalaaDoor.Q
open Go.RowKit Go.Proofs.YthjigecaojaalaaDoorW.PrintWords Go.Proofs.YthjigecaojaalaaDoorW.PrintLast Go.Proofs.YthjigecaojaalaaDoorW.PrintMore
attribute [local go_sem] max2_int min2_int max_two min_two max_three min_three max_four min_four   -- for this text's walks alone
set_option linter.unusedVariables false
set_option linter.unusedSimpArgs false
/-- A letter A-Z as a-z. -/
def impl_lower.one (b : UInt8) : UInt8 := if 65 ≤ b.toNat ∧ b.toNat ≤ 90 then b + 32 else b
def impl_lower.all (s : ByteArray) : ByteArray := ⟨s.data.map impl_lower.one⟩
theorem impl_lower.all_size (s : ByteArray) : (impl_lower.all s).size = s.size := by show (s.data.map _).size = s.data.size; rw [Array.size_map]
theorem impl_lower.all_get (s : ByteArray) (j : Nat) (h : j < s.size) : (impl_lower.all s)[j]'(by rw [impl_lower.all_size]; exact h) = impl_lower.one s[j] := by
  exact Array.getElem_map (f := impl_lower.one) (xs := s.data) (i := j) (by rw [Array.size_map]; exact h)
/-- The row behind a conversion, whose first x bytes are turned. -/
def impl_lower.Row (w : World) (g : Nat) (E : TypeId) (s : ByteArray) (x : Int) : Prop :=
  ∃ (cs : Array Value) (m : Nat), w.heap[g]? = some (.cells cs E (m, m + 1)) ∧ s.size ≤ m ∧ cs.size = m ∧ ∀ j (h : j < s.size), cs[j]? = some (.int .u8 ((if (j : Int) < x then impl_lower.one s[j] else s[j]).toNat : Int))
theorem impl_lower.bt_get (s : ByteArray) (x : Int) (h0 : 0 ≤ x) (h : x.toNat < s.size) : bt s x = (s[x.toNat].toNat : Int) := by simp [bt, h]
theorem impl_lower.Row.cell {w : World} {g : Nat} {E : TypeId} {s : ByteArray} {x : Int} (h : impl_lower.Row w g E s x) (h0 : 0 ≤ x) (h1 : x < s.size) : w.cell? ⟨g, x.toNat, none⟩ = some (.int .u8 (bt s x)) := by
  obtain ⟨cs, m, hh, _, _, hc⟩ := h
  have h2 : x.toNat < s.size := by omega
  have := hc x.toNat h2
  rw [if_neg (by omega)] at this
  rw [impl_lower.bt_get s x h0 h2, ← this]
  simp [World.cell?, hh]
theorem impl_lower.Row.frozen {w : World} {g : Nat} {E : TypeId} {s : ByteArray} {x : Int} (h : impl_lower.Row w g E s x) (h0 : 0 ≤ x) (h1 : x < s.size) : w.frozen? ⟨g, x.toNat, none⟩ = false := by
  obtain ⟨cs, m, hh, hm, _, _⟩ := h
  simp [World.frozen?, hh]
  omega
theorem impl_lower.set_same {w : World} {b i : Nat} {cs : Array Value} {T : TypeId} {fr : Nat × Nat} (hb : w.heap[b]? = some (.cells cs T fr)) (v : Value) : (w.setCell ⟨b, i, none⟩ v).heap[b]? = some (.cells (cs.setIfInBounds i v) T fr) := by simp [World.setCell, Array.getElem?_modify, hb]
theorem impl_lower.Row.put {w : World} {g : Nat} {E : TypeId} {s : ByteArray} {x : Int} (h : impl_lower.Row w g E s x) (h0 : 0 ≤ x) (h1 : x < s.size) (hb : 65 ≤ bt s x ∧ bt s x ≤ 90) : impl_lower.Row (w.setCell ⟨g, x.toNat, none⟩ (.int .u8 (bt s x + 32))) g E s (x + 1) := by
  obtain ⟨cs, m, hh, hm, hz, hc⟩ := h
  refine ⟨_, m, impl_lower.set_same hh _, hm, by rw [Array.size_setIfInBounds]; exact hz, fun j hj => ?_⟩
  rw [Array.getElem?_setIfInBounds]
  rw [impl_lower.bt_get s x h0 (by omega)] at hb ⊢
  by_cases c : x.toNat = j
  · rw [if_pos c]
    subst c
    rw [if_pos (by omega), if_pos (by omega), impl_lower.one, if_pos (by omega)]
    have e : (s[x.toNat] + 32).toNat = s[x.toNat].toNat + 32 := by rw [UInt8.toNat_add]; exact Nat.mod_eq_of_lt (by have : (32 : UInt8).toNat = 32 := rfl; omega)
    rw [e]; rfl
  · rw [if_neg c, hc j hj]
    by_cases c1 : (j : Int) < x
    · rw [if_pos c1, if_pos (by omega)]
    · rw [if_neg c1, if_neg (by omega)]
theorem impl_lower.Row.bytes {w : World} {g : Nat} {E : TypeId} {s : ByteArray} {x : Int} (h : impl_lower.Row w g E s x) (h1 : (s.size : Int) ≤ x) : Lib.Bytes w g 0 (impl_lower.all s) := by
  obtain ⟨cs, m, hh, hm, hz, hc⟩ := h
  intro i hi
  have hi' : i < s.size := by rw [impl_lower.all_size] at hi; exact hi
  have := hc i hi'
  rw [if_pos (by omega)] at this
  rw [impl_lower.all_get s i hi', ← this, Nat.zero_add]
  simp [World.cell?, hh]
theorem impl_lower.Row.block {w : World} {g : Nat} {E : TypeId} {s : ByteArray} {x : Int} (h : impl_lower.Row w g E s x) : g < w.heap.size := by
  obtain ⟨cs, m, hh, _⟩ := h
  exact (Array.getElem?_eq_some_iff.1 hh).1
end Go.Proofs.YthjigecaojaalaaDoor.Q
