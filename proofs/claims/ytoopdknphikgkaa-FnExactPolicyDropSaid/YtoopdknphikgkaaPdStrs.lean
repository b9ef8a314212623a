import Derived.Test.YtoopdknphikgkaaPdStr
import Derived.Test.YtoopdknphikgkaaPdG75
import Derived.Test.YtoopdknphikgkaaPdG72
namespace Go.Proofs.Ytoopdknphikgkaa.Q
open Go.RowKit Go.Proofs.YtoopdknphikgkaaW.PrintWords Go.Proofs.YtoopdknphikgkaaW.PrintLast Go.Proofs.YtoopdknphikgkaaW.PrintMore
theorem rdS_get (l : List ByteArray) (i : Nat) (h : i < l.length) : rdOf ByteArray.empty l i = l[i] := by simp [rdOf, h]
def ssz (l : List ByteArray) : Nat := (l.map fun s => s.size).sum
theorem ssz_cons (s : ByteArray) (r : List ByteArray) : ssz (s :: r) = s.size + ssz r := by simp [ssz]
theorem ssz_mem {l : List ByteArray} {s : ByteArray} (h : s ∈ l) : s.size ≤ ssz l := by
  induction l with
  | nil => simp at h
  | cons g r ih =>
    have e := ssz_cons g r
    rcases List.mem_cons.mp h with rfl | h
    · omega
    · have := ih h; omega
theorem sz_strs_l (l : List ByteArray) (hg : ∀ s ∈ l, s.size ≤ maxLen) (hl : l.length ≤ 9223372036854775807) (d : Nat) : ∀ (i : Nat) (left : Int), i ≤ l.length → l.length - i = d → 0 ≤ left → left ≤ 1048576 → EvP (fun k => laws_szStringS.l0 k l left (i : Int)) (fun t => t < 0 ∨ (0 ≤ t ∧ t + (ssz (l.drop i) : Nat) = left)) := by
  induction d with
  | zero =>
    intro i left hi hd h0 h1
    refine EvP.succ ?_
    simp only [laws_szStringS.l0]
    rw [List.drop_eq_nil_of_le (by omega)]
    exact EvP.no (by omega) (EvP.ret (.inr ⟨h0, by simp [ssz]⟩))
  | succ d ih =>
    intro i left hi hd h0 h1
    have hlt : i < l.length := by omega
    have g := hg l[i] (List.getElem_mem hlt)
    unfold maxLen at g
    refine EvP.succ ?_
    simp only [laws_szStringS.l0]
    rw [rdS_get l i hlt, wnat i _ hlt hl, drop_get l i hlt, w64 (n := left - (l[i].size : Int)) (by omega) (by omega)]
    refine EvP.yes (by omega) (EvP.yes (by omega) (EvP.ite (fun c => EvP.ret (.inl (by omega))) (fun c => ?_)))
    refine (ih (i + 1) (left - (l[i].size : Int)) (by omega) (by omega) (by omega) (by omega)).imp fun r hr => ?_
    rw [ssz_cons]; omega
theorem sz_strs (l : List ByteArray) (hl : l.length ≤ maxLen) (hg : ∀ s ∈ l, s.size ≤ maxLen) (left : Int) (l0 : 0 ≤ left) (l1 : left ≤ 1048576) : EvP (fun k => laws_szStringS.f k l left) (fun t => t < 0 ∨ (0 ≤ t ∧ t + (l.length + ssz l : Nat) = left)) := by
  unfold maxLen at hl
  simp only [laws_szStringS.f]
  rw [w64 (n := left - (l.length : Int)) (by omega) (by omega)]
  refine EvP.ite (fun c => EvP.ret (.inl (by omega))) (fun c => ?_)
  have := sz_strs_l l hg hl l.length 0 (left - (l.length : Int)) (by omega) (by omega) (by omega) (by omega)
  rw [List.drop_zero] at this
  exact this.imp fun r hr => by omega
theorem to_strs_l (l : List ByteArray) (hl : l.length ≤ 9223372036854775807) (d : Nat) : ∀ (x : List ByteArray) (i : Nat), x.length = l.length → i ≤ l.length → l.length - i = d → x.take i = l.take i → Ev (fun k => laws_toStringS.l0 k l x (i : Int)) l := by
  induction d with
  | zero =>
    intro x i hx hi hd he
    obtain rfl : i = l.length := by omega
    rw [eq_of_take x l hx he]
    refine Ev.succ ?_
    simp only [laws_toStringS.l0]
    exact Ev.no (by omega) (Ev.now _)
  | succ d ih =>
    intro x i hx hi hd he
    have hlt : i < l.length := by omega
    refine Ev.succ ?_
    simp only [laws_toStringS.l0]
    rw [rdS_get l i hlt, wnat i _ hlt hl]
    refine Ev.yes (by omega) (Ev.yes (by omega) (Ev.yes (by omega) (ih (x.set i l[i]) (i + 1) (by simpa using hx) (by omega) (by omega) ?_)))
    rw [take_set x i _ (by omega), he, List.take_succ_eq_append_getElem hlt]
theorem to_strs (l : List ByteArray) (hl : l.length ≤ 1048576) : Ev (fun k => laws_toStringS.f k l) l := by
  simp only [laws_toStringS.f, Int.toNat_natCast]
  exact Ev.yes (by omega) (Ev.yes (by omega) (to_strs_l l (by omega) l.length (List.replicate l.length _) 0 (by simp) (by omega) (by omega) (by simp)))
theorem eq_strs_l (l : List ByteArray) (hl : l.length ≤ 9223372036854775807) (d : Nat) : ∀ i : Nat, i ≤ l.length → l.length - i = d → Ev (fun k => laws_eqStringS.l0 k l l (i : Int)) true := by
  induction d with
  | zero => intro i hi hd; refine Ev.succ ?_; simp only [laws_eqStringS.l0]; exact Ev.no (by omega) (Ev.now _)
  | succ d ih =>
    intro i hi hd
    have hlt : i < l.length := by omega
    refine Ev.succ ?_
    simp only [laws_eqStringS.l0]
    rw [wnat i _ hlt hl]
    exact Ev.yes (by omega) (Ev.yes (by omega) (Ev.yes (by omega) (Ev.yes trivial (ih (i + 1) (by omega) (by omega)))))
theorem eq_strs (l : List ByteArray) (hl : l.length ≤ 9223372036854775807) : Ev (fun k => laws_eqStringS.f k l l) true := by
  simp only [laws_eqStringS.f]
  exact Ev.yes trivial (eq_strs_l l hl l.length 0 (by omega) (by omega))
end Go.Proofs.Ytoopdknphikgkaa.Q
