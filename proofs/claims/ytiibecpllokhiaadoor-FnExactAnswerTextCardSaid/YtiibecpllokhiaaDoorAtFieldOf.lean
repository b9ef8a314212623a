import Derived.Test.YtiibecpllokhiaaDoorAtHead
import Derived.Test.YtiibecpllokhiaaDoorAtG30
namespace Go.Proofs.YtiibecpllokhiaaDoor.Q
open Go.RowKit Go.Proofs.YtiibecpllokhiaaDoorW.PrintWords Go.Proofs.YtiibecpllokhiaaDoorW.PrintLast Go.Proofs.YtiibecpllokhiaaDoorW.PrintMore
def fieldF (name : ByteArray) : List S40 → ByteArray × Bool
  | [] => ((⟨#[]⟩ : ByteArray), false)
  | f :: r => if f.f0.toList = name.toList then (f.f1, true) else fieldF name r
theorem fieldOf_spec_l (name a : ByteArray) (l : List S40) (hl : l.length ≤ 9223372036854775807) (d : Nat) : ∀ i : Nat, i ≤ l.length → l.length - i = d → Ev (fun k => spec_FieldOf.l0 k name (i : Int) a l) (fieldF name (l.drop i)) := by
  induction d with
  | zero => intro i hi hd; refine Ev.succ ?_; simp only [spec_FieldOf.l0]; rw [List.drop_eq_nil_of_le (by omega)]; exact Ev.no (by omega) (Ev.now _)
  | succ d ih =>
    intro i hi hd
    have hlt : i < l.length := by omega
    refine Ev.succ ?_
    simp only [spec_FieldOf.l0]
    rw [rdF_get l i hlt, wnat i _ hlt hl, drop_get l i hlt]
    refine Ev.yes (by omega) (Ev.yes (by omega) ?_)
    by_cases c : l[i].f0.toList = name.toList
    · rw [fieldF, if_pos c]; exact Ev.yes c (Ev.now _)
    · rw [fieldF, if_neg c]; exact Ev.no c (ih (i + 1) (by omega) (by omega))
theorem fieldOf_spec (a : ByteArray) (l : List S40) (name : ByteArray) (hl : l.length ≤ 9223372036854775807) : Ev (fun k => spec_FieldOf.f k a l name) (fieldF name l) := fieldOf_spec_l name a l hl l.length 0 (by omega) (by omega)
theorem fieldOf_impl_l (name : ByteArray) (l : List S40) (hl : l.length ≤ 9223372036854775807) (d : Nat) : ∀ i : Nat, i ≤ l.length → l.length - i = d → Ev (fun k => impl_FieldOf.l0 k name l (l.length : Int) (i : Int)) (fieldF name (l.drop i)) := by
  induction d with
  | zero => intro i hi hd; refine Ev.succ ?_; simp only [impl_FieldOf.l0]; rw [List.drop_eq_nil_of_le (by omega)]; exact Ev.no (by omega) (Ev.now _)
  | succ d ih =>
    intro i hi hd
    have hlt : i < l.length := by omega
    refine Ev.succ ?_
    simp only [impl_FieldOf.l0]
    rw [rdF_get l i hlt, wnat i _ hlt hl, drop_get l i hlt]
    refine Ev.yes (by omega) (Ev.yes (by omega) (Ev.yes (by omega) ?_))
    by_cases c : l[i].f0.toList = name.toList
    · rw [fieldF, if_pos c]; exact Ev.yes c (Ev.now _)
    · rw [fieldF, if_neg c]; exact Ev.no c (ih (i + 1) (by omega) (by omega))
theorem fieldOf_impl (a : ByteArray) (l : List S40) (name : ByteArray) (hl : l.length ≤ 9223372036854775807) : Ev (fun k => impl_FieldOf.f k a l name) (fieldF name l) := fieldOf_impl_l name l hl l.length 0 (by omega) (by omega)
end Go.Proofs.YtiibecpllokhiaaDoor.Q
