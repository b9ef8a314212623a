import Derived.Test.YthjigecaojaalaaBody
import Derived.Test.YthjigecaojaalaaPlaces
import Derived.Test.YthjigecaojaalaaG45
namespace Go.Proofs.Ythjigecaojaalaa.Q
open Go.RowKit Go.Proofs.YthjigecaojaalaaW.PrintWords Go.Proofs.YthjigecaojaalaaW.PrintLast Go.Proofs.YthjigecaojaalaaW.PrintMore
/-! ### the program's answer, where no body is told -/
theorem body_two (a : ByteArray) (l : List S45) (t : ByteArray) (hl : l.length ≤ 4611686018427387904) (hc : (fieldF nameC l).2 = true) (hL : (fieldF nameL l).2 = true) : Ev (fun k => impl_BodyOf.f k a l t) ((⟨#[]⟩ : ByteArray), 0, 2) := by
  have f2 := fieldOf_impl a l nameC (by omega)
  have f3 := fieldOf_impl a l nameL (by omega)
  simp only [impl_BodyOf.f]
  generalize fieldF nameC l = C at hc f2
  generalize fieldF nameL l = L at hL f3
  obtain ⟨c1, c2⟩ := C
  obtain ⟨l1, l2⟩ := L
  dsimp only at hc hL
  subst hc
  subst hL
  refine Ev.bind f2 (Ev.bind f3 (Ev.yes rfl (Ev.yes rfl (Ev.succ ?_))))
  simp only [impl_BodyOf.j0]
  exact Ev.no (by simp) (Ev.yes trivial (Ev.now _))
theorem body_none (a : ByteArray) (l : List S45) (t : ByteArray) (hl : l.length ≤ 4611686018427387904) (hc : (fieldF nameC l).2 = false) (hL : (fieldF nameL l).2 = false) : Ev (fun k => impl_BodyOf.f k a l t) ((⟨#[]⟩ : ByteArray), 0, 0) := by
  have f2 := fieldOf_impl a l nameC (by omega)
  have f3 := fieldOf_impl a l nameL (by omega)
  simp only [impl_BodyOf.f]
  generalize fieldF nameC l = C at hc f2
  generalize fieldF nameL l = L at hL f3
  obtain ⟨c1, c2⟩ := C
  obtain ⟨l1, l2⟩ := L
  dsimp only at hc hL
  subst hc
  subst hL
  refine Ev.bind f2 (Ev.bind f3 (Ev.no (by simp) (Ev.succ ?_)))
  simp only [impl_BodyOf.j0]
  exact Ev.no (by simp) (Ev.no (by simp) (Ev.no (by simp) (Ev.now _)))
/-- Its length alone is told: what it answers. -/
def lenR (y : Int × Bool) (t : ByteArray) : ByteArray × Int × Int := if y.2 = true then (if y.1 > (t.size : Int) then ((⟨#[]⟩ : ByteArray), 0, 1) else (t.extract 0 y.1.toNat, y.1, 0)) else ((⟨#[]⟩ : ByteArray), 0, 2)
theorem body_len (a : ByteArray) (l : List S45) (t : ByteArray) (hg : ∀ f ∈ l, f.f1.size ≤ 9223372036854775807) (hl : l.length ≤ 4611686018427387904) (hc : (fieldF nameC l).2 = false) (hL : (fieldF nameL l).2 = true) (h0 : (lenP (-1) l).2 = true → 0 ≤ (lenP (-1) l).1) : Ev (fun k => impl_BodyOf.f k a l t) (lenR (lenP (-1) l) t) := by
  have f2 := fieldOf_impl a l nameC (by omega)
  have f3 := fieldOf_impl a l nameL (by omega)
  have hP := length_impl_l l hg hl l.length 0 (-1) (by omega) (by omega)
  rw [List.drop_zero] at hP
  have hP' : Ev (fun k => impl_lengthOf.f k a l) (lenP (-1) l) := hP
  simp only [impl_BodyOf.f]
  generalize fieldF nameC l = C at hc f2
  generalize fieldF nameL l = L at hL f3
  generalize lenP (-1) l = Y at h0 hP'
  obtain ⟨c1, c2⟩ := C
  obtain ⟨l1, l2⟩ := L
  obtain ⟨y1, y2⟩ := Y
  dsimp only at hc hL h0
  subst hc
  subst hL
  refine Ev.bind f2 (Ev.bind f3 (Ev.no (by simp) (Ev.succ ?_)))
  simp only [impl_BodyOf.j0]
  refine Ev.no (by simp) (Ev.no (by simp) (Ev.yes trivial (Ev.bind hP' ?_)))
  cases y2 with
  | false => exact Ev.no (by simp) (Ev.now _)
  | true =>
    have h0 := h0 rfl
    refine Ev.yes rfl ?_
    by_cases c : y1 > (t.size : Int)
    · rw [show lenR (y1, true) t = ((⟨#[]⟩ : ByteArray), 0, 1) from by unfold lenR; rw [if_pos rfl]; exact if_pos c]
      exact Ev.yes c (Ev.now _)
    · rw [show lenR (y1, true) t = (t.extract 0 y1.toNat, y1, 0) from by unfold lenR; rw [if_pos rfl]; exact if_neg c]
      exact Ev.no c (Ev.yes h0 (Ev.yes (by omega) (Ev.now _)))
theorem Ev.of_mono {α : Type} {g : Nat → Option α} {r : α} (hm : ∀ k, LeO (g k) (g (k + 1))) (K : Nat) (h : g K = some r) : Ev g r := by
  refine ⟨K, fun k hk => ?_⟩
  induction k with
  | zero => obtain rfl : K = 0 := by omega
            exact h
  | succ k ih =>
    by_cases c : K = k + 1
    · rw [← c]; exact h
    · exact hm k _ (ih (by omega))
def dec (n : Nat) : ByteArray := if n < 10 then ⟨#[UInt8.ofNat (48 + n)]⟩ else ⟨#[UInt8.ofNat (48 + n / 10), UInt8.ofNat (48 + n % 10)]⟩
theorem dec_all : ∀ n : Fin 90, spec_Decimal.f 20 ((n.val : Nat) : Int) = some (dec n.val) ∧ okN (dec n.val) ∧ nm (dec n.val) = ((n.val : Nat) : Int) := by decide +kernel
theorem dec_ev (n : Int) (h0 : 0 ≤ n) (h1 : n < 90) : ∃ s : ByteArray, Ev (fun k => spec_Decimal.f k n) s ∧ okN s ∧ nm s = n := by
  obtain ⟨a, b, c⟩ := dec_all ⟨n.toNat, by omega⟩
  have e : ((n.toNat : Nat) : Int) = n := Int.toNat_of_nonneg h0
  simp only [e] at a c
  exact ⟨_, Ev.of_mono (spec_Decimal.mono n) 20 a, b, c⟩

end Go.Proofs.Ythjigecaojaalaa.Q
