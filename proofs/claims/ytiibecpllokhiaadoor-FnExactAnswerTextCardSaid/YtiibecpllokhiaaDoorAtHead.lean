import Derived.Test.YtiibecpllokhiaaDoorAtStr
import Derived.Test.YtiibecpllokhiaaDoorAtG20
import Derived.Test.YtiibecpllokhiaaDoorAtG61
namespace Go.Proofs.YtiibecpllokhiaaDoor.Q
open Go.RowKit Go.Proofs.YtiibecpllokhiaaDoorW.PrintWords Go.Proofs.YtiibecpllokhiaaDoorW.PrintLast Go.Proofs.YtiibecpllokhiaaDoorW.PrintMore
def cvF (f : S37) : S40 := ⟨f.f0, f.f1⟩
theorem rdF_get (l : List S40) (i : Nat) (h : i < l.length) : rd_T40 l i = l[i] := by simp [rd_T40, h]
theorem rdLF_get (l : List S37) (i : Nat) (h : i < l.length) : rd_T37 l i = l[i] := by simp [rd_T37, h]
def fsz (l : List S37) : Nat := (l.map fun f => f.f0.size + f.f1.size).sum
theorem fsz_cons (f : S37) (r : List S37) : fsz (f :: r) = f.f0.size + f.f1.size + fsz r := by simp [fsz]
theorem sz_field (a b : ByteArray) (left : Int) (h0 : 0 ≤ left) (h1 : left ≤ 1048576) (ha : a.size ≤ maxLen) (hb : b.size ≤ maxLen) : EvP (fun _ => laws_szField.f a b left) (fun t => t < 0 ∨ (0 ≤ t ∧ t + (a.size + b.size : Nat) = left)) := by
  unfold maxLen at ha hb
  simp only [laws_szField.f]
  rw [w64 (n := left - (a.size : Int)) (by omega) (by omega)]
  refine EvP.ite (fun c => EvP.ret (.inl (by omega))) (fun c => ?_)
  rw [w64 (n := left - (a.size : Int) - (b.size : Int)) (by omega) (by omega)]
  exact EvP.ite (fun c => EvP.ret (.inl (by omega))) (fun c => EvP.ret (.inr ⟨by omega, by omega⟩))
theorem sz_fields_l (l : List S37) (hg : ∀ f ∈ l, f.f0.size ≤ maxLen ∧ f.f1.size ≤ maxLen) (hl : l.length ≤ 9223372036854775807) (d : Nat) : ∀ (i : Nat) (left : Int), i ≤ l.length → l.length - i = d → 0 ≤ left → left ≤ 1048576 → EvP (fun k => laws_szFieldS.l0 k l left (i : Int)) (fun t => t < 0 ∨ (0 ≤ t ∧ t + (fsz (l.drop i) : Nat) = left)) := by
  induction d with
  | zero =>
    intro i left hi hd h0 h1
    refine EvP.succ ?_
    simp only [laws_szFieldS.l0]
    rw [List.drop_eq_nil_of_le (by omega)]
    exact EvP.no (by omega) (EvP.ret (.inr ⟨h0, by simp [fsz]⟩))
  | succ d ih =>
    intro i left hi hd h0 h1
    have hlt : i < l.length := by omega
    have g := hg l[i] (List.getElem_mem hlt)
    refine EvP.succ ?_
    simp only [laws_szFieldS.l0]
    rw [rdLF_get l i hlt, wnat i _ hlt hl, drop_get l i hlt]
    refine EvP.yes (by omega) (EvP.yes (by omega) (EvP.bind (sz_field _ _ left h0 h1 g.1 g.2) fun t ht => EvP.ite (fun c => EvP.ret (.inl (by omega))) (fun c => ?_)))
    refine (ih (i + 1) t (by omega) (by omega) (by omega) (by omega)).imp fun r hr => ?_
    rw [fsz_cons]; omega
theorem sz_head (a : ByteArray) (l : List S37) (ha : a.size ≤ maxLen) (hl : l.length ≤ maxLen) (hg : ∀ f ∈ l, f.f0.size ≤ maxLen ∧ f.f1.size ≤ maxLen) (left : Int) (l0 : 0 ≤ left) (l1 : left ≤ 1048576) : EvP (fun k => laws_szHead.f k a l left) (fun t => t < 0 ∨ (0 ≤ t ∧ t + (a.size + l.length + fsz l : Nat) = left)) := by
  unfold maxLen at ha hl
  simp only [laws_szHead.f, laws_szFieldS.f]
  rw [w64 (n := left - (a.size : Int)) (by omega) (by omega)]
  refine EvP.ite (fun c => EvP.ret (.inl (by omega))) (fun c => ?_)
  rw [w64 (n := left - (a.size : Int) - (l.length : Int)) (by omega) (by omega)]
  refine EvP.bind (P := fun t => t < 0 ∨ (0 ≤ t ∧ t + (fsz l : Nat) = left - (a.size : Int) - (l.length : Int))) (EvP.ite (fun c => EvP.ret (.inl (by omega))) (fun c => ?_)) fun t ht => EvP.ite (fun c => EvP.ret (.inl (by omega))) (fun c => EvP.ret (.inr ⟨by omega, by omega⟩))
  have := sz_fields_l l hg hl l.length 0 (left - (a.size : Int) - (l.length : Int)) (by omega) (by omega) (by omega) (by omega)
  rw [List.drop_zero] at this
  exact this
theorem to_fields_l (l : List S37) (hl : l.length ≤ 9223372036854775807) (d : Nat) : ∀ (x : List S40) (i : Nat), x.length = l.length → i ≤ l.length → l.length - i = d → x.take i = (l.map cvF).take i → Ev (fun k => laws_toFieldS.l0 k l x (i : Int)) (l.map cvF) := by
  induction d with
  | zero =>
    intro x i hx hi hd he
    obtain rfl : i = l.length := by omega
    rw [eq_of_take x (l.map cvF) (by simpa using hx) (by simpa using he)]
    refine Ev.succ ?_
    simp only [laws_toFieldS.l0]
    exact Ev.no (by omega) (Ev.now _)
  | succ d ih =>
    intro x i hx hi hd he
    have hlt : i < l.length := by omega
    refine Ev.succ ?_
    simp only [laws_toFieldS.l0, laws_toField.f, Option.bind_some]
    rw [rdLF_get l i hlt, wnat i _ hlt hl]
    refine Ev.yes (by omega) (Ev.yes (by omega) (Ev.yes (by omega) (ih (x.set i (cvF l[i])) (i + 1) (by simpa using hx) (by omega) (by omega) ?_)))
    rw [take_set x i _ (by omega), he, List.take_succ_eq_append_getElem (by simpa using hlt)]; simp
theorem to_head (a : ByteArray) (l : List S37) (hl : l.length ≤ 1048576) : Ev (fun k => laws_toHead.f k a l) (a, l.map cvF) := by
  simp only [laws_toHead.f, laws_toFieldS.f, Int.toNat_natCast]
  exact Ev.bind (Ev.yes (by omega) (Ev.yes (by omega) (to_fields_l l (by omega) l.length (List.replicate l.length z40) 0 (by simp) (by omega) (by omega) (by simp)))) (Ev.now _)
theorem eq_fields_l (l : List S40) (hl : l.length ≤ 9223372036854775807) (d : Nat) : ∀ i : Nat, i ≤ l.length → l.length - i = d → Ev (fun k => laws_eqFieldS.l0 k l l (i : Int)) true := by
  induction d with
  | zero => intro i hi hd; refine Ev.succ ?_; simp only [laws_eqFieldS.l0]; exact Ev.no (by omega) (Ev.now _)
  | succ d ih =>
    intro i hi hd
    have hlt : i < l.length := by omega
    refine Ev.succ ?_
    simp only [laws_eqFieldS.l0, laws_eqField.f, if_true, Option.bind_some]
    rw [wnat i _ hlt hl]
    exact Ev.yes (by omega) (Ev.yes (by omega) (Ev.yes (by omega) (ih (i + 1) (by omega) (by omega))))
theorem eq_head (a : ByteArray) (l : List S40) (hl : l.length ≤ 9223372036854775807) : Ev (fun k => laws_eqHead.f k a l a l) true := by
  simp only [laws_eqHead.f, laws_eqFieldS.f, if_true]
  exact Ev.bind (eq_fields_l l hl l.length 0 (by omega) (by omega)) (Ev.yes rfl (Ev.now _))
end Go.Proofs.YtiibecpllokhiaaDoor.Q
