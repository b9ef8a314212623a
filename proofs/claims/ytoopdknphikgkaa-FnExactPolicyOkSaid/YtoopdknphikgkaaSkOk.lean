import Derived.Test.YtoopdknphikgkaaInts
import Derived.Test.YtoopdknphikgkaaWithin
import Derived.Test.YtoopdknphikgkaaG65
import Derived.Test.YtoopdknphikgkaaG67
import Derived.Test.YtoopdknphikgkaaG102
import Derived.Test.YtoopdknphikgkaaG105
namespace Go.Proofs.Ytoopdknphikgkaa.Q
open Go.RowKit Go.Proofs.YtoopdknphikgkaaW.PrintWords Go.Proofs.YtoopdknphikgkaaW.PrintLast Go.Proofs.YtoopdknphikgkaaW.PrintMore
/-! ### a right sketch -/
def nOk (n : Int) : Bool := decide (0 ≤ n ∧ n ≤ 15)
def rOk (r : List Int) : Bool := decide (r.length = 16) && r.all nOk
def skOk (l : List (List Int)) (a : Int) : Bool := decide (l.length = 3) && (decide (0 ≤ a ∧ a ≤ 63) && l.all rOk)
theorem sk_row_spec (l : List (List Int)) (a : Int) (i : Nat) (hi : i < l.length) (hl : l.length ≤ 1048576) (hr : l[i].length = 16) (g : Bool) (hg : Ev (fun k => spec_SketchOk.l0 k ((i + 1 : Nat) : Int) l a) g) (d : Nat) : ∀ j : Nat, j ≤ 16 → 16 - j = d → Ev (fun k => spec_SketchOk.l1 k (i : Int) (j : Int) l a) ((l[i].drop j).all nOk && g) := by
  induction d with
  | zero =>
    intro j hj hd
    refine Ev.succ ?_
    simp only [spec_SketchOk.l1]
    rw [rdL_get l i hi, wnat i _ hi (by omega), List.drop_eq_nil_of_le (by omega)]
    simp only [List.all_nil, Bool.true_and]
    exact Ev.yes (by omega) (Ev.yes (by omega) (Ev.no (by omega) hg))
  | succ d ih =>
    intro j hj hd
    have hlt : j < l[i].length := by omega
    refine Ev.succ ?_
    simp only [spec_SketchOk.l1]
    rw [rdL_get l i hi, rd_get _ j hlt, wnat j _ hlt (by omega), drop_get _ j hlt]
    simp only [in_spec, Option.bind_some, List.all_cons]
    refine Ev.yes (by omega) (Ev.yes (by omega) (Ev.yes (by omega) (Ev.yes (by omega) ?_)))
    by_cases c : 0 ≤ l[i][j] ∧ l[i][j] ≤ 15
    · rw [show nOk l[i][j] = true from decide_eq_true c, Bool.true_and]
      exact Ev.yes (decide_eq_true c) (ih (j + 1) (by omega) (by omega))
    · rw [show nOk l[i][j] = false from decide_eq_false c, Bool.false_and, Bool.false_and]
      exact Ev.no (by simpa using c) (Ev.now _)
theorem sk_rows_spec (l : List (List Int)) (a : Int) (hl : l.length ≤ 1048576) (d : Nat) : ∀ i : Nat, i ≤ l.length → l.length - i = d → Ev (fun k => spec_SketchOk.l0 k (i : Int) l a) ((l.drop i).all rOk) := by
  induction d with
  | zero =>
    intro i hi hd
    refine Ev.succ ?_
    simp only [spec_SketchOk.l0]
    rw [List.drop_eq_nil_of_le (by omega)]
    exact Ev.no (by omega) (Ev.now _)
  | succ d ih =>
    intro i hi hd
    have hlt : i < l.length := by omega
    refine Ev.succ ?_
    simp only [spec_SketchOk.l0]
    rw [rdL_get l i hlt, drop_get l i hlt]
    simp only [List.all_cons]
    refine Ev.yes (by omega) (Ev.yes (by omega) ?_)
    by_cases c : l[i].length = 16
    · have h := sk_row_spec l a i hlt hl c _ (ih (i + 1) (by omega) (by omega)) 16 0 (by omega) (by omega)
      rw [List.drop_zero] at h
      rw [rOk, decide_eq_true c, Bool.true_and]
      exact Ev.yes (by omega) h
    · rw [rOk, decide_eq_false c, Bool.false_and, Bool.false_and]
      exact Ev.no (by omega) (Ev.now _)
theorem sk_spec (l : List (List Int)) (a : Int) (hl : l.length ≤ 1048576) : Ev (fun k => spec_SketchOk.f k l a) (skOk l a) := by
  simp only [spec_SketchOk.f, in_spec, Option.bind_some, skOk]
  by_cases c : l.length = 3
  · rw [decide_eq_true c, Bool.true_and]
    refine Ev.yes (by omega) (Ev.succ ?_)
    simp only [spec_SketchOk.j0]
    by_cases c2 : 0 ≤ a ∧ a ≤ 63
    · rw [decide_eq_true c2, Bool.true_and]
      have h := sk_rows_spec l a hl l.length 0 (by omega) (by omega)
      rw [List.drop_zero] at h
      exact Ev.no (by simp) h
    · rw [decide_eq_false c2, Bool.false_and]
      exact Ev.yes (by simp) (Ev.now _)
  · rw [decide_eq_false c, Bool.false_and]
    refine Ev.no (by omega) (Ev.succ ?_)
    simp only [spec_SketchOk.j0]
    exact Ev.yes trivial (Ev.now _)
theorem sk_row_impl (l : List (List Int)) (a : Int) (i : Nat) (r : List Int) (hr : r.length ≤ 1048576) (g : Bool) (hi : i < l.length) (hl : l.length ≤ 1048576) (hg : Ev (fun k => impl_SketchOk.l0 k l (l.length : Int) ((i + 1 : Nat) : Int) l a) g) (d : Nat) : ∀ j : Nat, j ≤ r.length → r.length - j = d → Ev (fun k => impl_SketchOk.l1 k r l (l.length : Int) (i : Int) r (r.length : Int) (j : Int) l a) ((r.drop j).all nOk && (decide (r.length = 16) && g)) := by
  induction d with
  | zero =>
    intro j hj hd
    refine Ev.succ ?_
    simp only [impl_SketchOk.l1]
    rw [wnat i _ hi (by omega), List.drop_eq_nil_of_le (by omega)]
    simp only [List.all_nil, Bool.true_and]
    refine Ev.no (by omega) ?_
    by_cases c : r.length = 16
    · rw [decide_eq_true c, Bool.true_and]; exact Ev.yes (by omega) hg
    · rw [decide_eq_false c, Bool.false_and]; exact Ev.no (by omega) (Ev.now _)
  | succ d ih =>
    intro j hj hd
    have hlt : j < r.length := by omega
    refine Ev.succ ?_
    simp only [impl_SketchOk.l1]
    rw [rd_get _ j hlt, wnat j _ hlt (by omega), drop_get _ j hlt]
    simp only [in_impl, Option.bind_some, List.all_cons]
    refine Ev.yes (by omega) (Ev.yes (by omega) (Ev.yes (by omega) ?_))
    by_cases c : 0 ≤ r[j] ∧ r[j] ≤ 15
    · rw [show nOk r[j] = true from decide_eq_true c, Bool.true_and]
      exact Ev.yes (decide_eq_true c) (ih (j + 1) (by omega) (by omega))
    · rw [show nOk r[j] = false from decide_eq_false c, Bool.false_and, Bool.false_and]
      exact Ev.no (by simpa using c) (Ev.now _)
theorem sk_rows_impl (l : List (List Int)) (a : Int) (hl : l.length ≤ 1048576) (hg : ∀ r ∈ l, r.length ≤ 1048576) (d : Nat) : ∀ i : Nat, i ≤ l.length → l.length - i = d → Ev (fun k => impl_SketchOk.l0 k l (l.length : Int) (i : Int) l a) ((l.drop i).all rOk && (decide (l.length = 3) && decide (0 ≤ a ∧ a ≤ 63))) := by
  induction d with
  | zero =>
    intro i hi hd
    refine Ev.succ ?_
    simp only [impl_SketchOk.l0]
    rw [List.drop_eq_nil_of_le (by omega)]
    simp only [in_impl, Option.bind_some, List.all_nil, Bool.true_and]
    refine Ev.no (by omega) ?_
    by_cases c : l.length = 3
    · rw [decide_eq_true c, Bool.true_and]; exact Ev.yes (by omega) (Ev.now _)
    · rw [decide_eq_false c, Bool.false_and]; exact Ev.no (by omega) (Ev.now _)
  | succ d ih =>
    intro i hi hd
    have hlt : i < l.length := by omega
    have hr := hg _ (List.getElem_mem hlt)
    refine Ev.succ ?_
    simp only [impl_SketchOk.l0]
    rw [rdL_get l i hlt, drop_get l i hlt]
    simp only [List.all_cons]
    have h := sk_row_impl l a i l[i] hr _ hlt hl (ih (i + 1) (by omega) (by omega)) l[i].length 0 (by omega) (by omega)
    rw [List.drop_zero] at h
    refine Ev.yes (by omega) (Ev.yes (by omega) (Ev.yes (by omega) ?_))
    rw [show ((rOk l[i] && (l.drop (i + 1)).all rOk) && (decide (l.length = 3) && decide (0 ≤ a ∧ a ≤ 63))) = (l[i].all nOk && (decide (l[i].length = 16) && ((l.drop (i + 1)).all rOk && (decide (l.length = 3) && decide (0 ≤ a ∧ a ≤ 63))))) from by
      rw [rOk]; cases l[i].all nOk <;> cases decide (l[i].length = 16) <;> simp]
    exact h
theorem sk_impl (l : List (List Int)) (a : Int) (hl : l.length ≤ 1048576) (hg : ∀ r ∈ l, r.length ≤ 1048576) : Ev (fun k => impl_SketchOk.f k l a) (skOk l a) := by
  simp only [impl_SketchOk.f]
  have h := sk_rows_impl l a hl hg l.length 0 (by omega) (by omega)
  rw [List.drop_zero, show (l.all rOk && (decide (l.length = 3) && decide (0 ≤ a ∧ a ≤ 63))) = skOk l a from by rw [skOk]; cases l.all rOk <;> cases decide (l.length = 3) <;> cases decide (0 ≤ a ∧ a ≤ 63) <;> rfl] at h
  exact h
theorem eq_sketch (l : List (List Int)) (a : Int) (hl : l.length ≤ 1048576) (hg : ∀ r ∈ l, r.length ≤ 1048576) : Ev (fun k => laws_eqSketch.f k l a l a) true := by
  simp only [laws_eqSketch.f]
  exact Ev.bind (eq_rows l hl hg) (Ev.yes rfl (Ev.yes trivial (Ev.now _)))
theorem sz_sketch (l : List (List Int)) (a : Int) (hl : l.length ≤ maxLen) (hg : ∀ r ∈ l, r.length ≤ maxLen) : EvP (fun k => laws_szSketch.f k l a 1048576) (fun t => t < 0 ∨ (¬ t < 0 ∧ l.length ≤ 1048576 ∧ ∀ r ∈ l, r.length ≤ 1048576)) := by
  simp only [laws_szSketch.f]
  refine EvP.bind (sz_rows l hl hg) fun t ht => EvP.ite (fun c => EvP.ret (.inl (by omega))) (fun c => EvP.ret (.inr ⟨c, ?_⟩))
  rcases ht with ht | ht
  · exact absurd ht c
  · exact ht.2.2

end Go.Proofs.Ytoopdknphikgkaa.Q
