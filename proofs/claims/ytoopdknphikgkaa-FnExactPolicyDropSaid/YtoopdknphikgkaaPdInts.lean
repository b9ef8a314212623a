import Derived.Test.YtoopdknphikgkaaPdSm
import Derived.Test.YtoopdknphikgkaaPdG105
import Derived.Test.YtoopdknphikgkaaPdG102
namespace Go.Proofs.Ytoopdknphikgkaa.Q
open Go.RowKit Go.Proofs.YtoopdknphikgkaaW.PrintWords Go.Proofs.YtoopdknphikgkaaW.PrintLast Go.Proofs.YtoopdknphikgkaaW.PrintMore
theorem rdL_get (l : List (List Int)) (i : Nat) (h : i < l.length) : rd_L2 l i = l[i] := by simp [rd_L2, h]
theorem to_ints_l (l : List Int) (hl : l.length ≤ 9223372036854775807) (d : Nat) : ∀ (x : List Int) (i : Nat), x.length = l.length → i ≤ l.length → l.length - i = d → x.take i = l.take i → Ev (fun k => laws_toIntS.l0 k l x (i : Int)) l := by
  induction d with
  | zero =>
    intro x i hx hi hd he
    obtain rfl : i = l.length := by omega
    rw [eq_of_take x l hx he]
    refine Ev.succ ?_
    simp only [laws_toIntS.l0]
    exact Ev.no (by omega) (Ev.now _)
  | succ d ih =>
    intro x i hx hi hd he
    have hlt : i < l.length := by omega
    refine Ev.succ ?_
    simp only [laws_toIntS.l0]
    rw [rd_get l i hlt, wnat i _ hlt hl]
    refine Ev.yes (by omega) (Ev.yes (by omega) (Ev.yes (by omega) (ih (x.set i l[i]) (i + 1) (by simpa using hx) (by omega) (by omega) ?_)))
    rw [take_set x i _ (by omega), he, List.take_succ_eq_append_getElem hlt]
theorem to_ints (l : List Int) (hl : l.length ≤ 1048576) : Ev (fun k => laws_toIntS.f k l) l := by
  simp only [laws_toIntS.f, Int.toNat_natCast]
  exact Ev.yes (by omega) (Ev.yes (by omega) (to_ints_l l (by omega) l.length (List.replicate l.length _) 0 (by simp) (by omega) (by omega) (by simp)))
theorem to_rows_l (l : List (List Int)) (hl : l.length ≤ 9223372036854775807) (hg : ∀ r ∈ l, r.length ≤ 1048576) (d : Nat) : ∀ (x : List (List Int)) (i : Nat), x.length = l.length → i ≤ l.length → l.length - i = d → x.take i = l.take i → Ev (fun k => laws_toIntSS.l0 k l x (i : Int)) l := by
  induction d with
  | zero =>
    intro x i hx hi hd he
    obtain rfl : i = l.length := by omega
    rw [eq_of_take x l hx he]
    refine Ev.succ ?_
    simp only [laws_toIntSS.l0]
    exact Ev.no (by omega) (Ev.now _)
  | succ d ih =>
    intro x i hx hi hd he
    have hlt : i < l.length := by omega
    refine Ev.succ ?_
    simp only [laws_toIntSS.l0]
    rw [rdL_get l i hlt, wnat i _ hlt hl]
    refine Ev.yes (by omega) (Ev.yes (by omega) (Ev.bind (to_ints l[i] (hg _ (List.getElem_mem hlt))) (Ev.yes (by omega) (ih (x.set i l[i]) (i + 1) (by simpa using hx) (by omega) (by omega) ?_))))
    rw [take_set x i _ (by omega), he, List.take_succ_eq_append_getElem hlt]
theorem to_rows (l : List (List Int)) (hl : l.length ≤ 1048576) (hg : ∀ r ∈ l, r.length ≤ 1048576) : Ev (fun k => laws_toIntSS.f k l) l := by
  simp only [laws_toIntSS.f, Int.toNat_natCast]
  exact Ev.yes (by omega) (Ev.yes (by omega) (to_rows_l l (by omega) hg l.length (List.replicate l.length _) 0 (by simp) (by omega) (by omega) (by simp)))
theorem eq_ints_l (l : List Int) (hl : l.length ≤ 9223372036854775807) (d : Nat) : ∀ i : Nat, i ≤ l.length → l.length - i = d → Ev (fun k => laws_eqIntS.l0 k l l (i : Int)) true := by
  induction d with
  | zero => intro i hi hd; refine Ev.succ ?_; simp only [laws_eqIntS.l0]; exact Ev.no (by omega) (Ev.now _)
  | succ d ih =>
    intro i hi hd
    have hlt : i < l.length := by omega
    refine Ev.succ ?_
    simp only [laws_eqIntS.l0]
    rw [wnat i _ hlt hl]
    exact Ev.yes (by omega) (Ev.yes (by omega) (Ev.yes (by omega) (Ev.yes trivial (ih (i + 1) (by omega) (by omega)))))
theorem eq_ints (l : List Int) (hl : l.length ≤ 9223372036854775807) : Ev (fun k => laws_eqIntS.f k l l) true := by
  simp only [laws_eqIntS.f]
  exact Ev.yes trivial (eq_ints_l l hl l.length 0 (by omega) (by omega))
theorem eq_rows_l (l : List (List Int)) (hl : l.length ≤ 9223372036854775807) (hg : ∀ r ∈ l, r.length ≤ 1048576) (d : Nat) : ∀ i : Nat, i ≤ l.length → l.length - i = d → Ev (fun k => laws_eqIntSS.l0 k l l (i : Int)) true := by
  induction d with
  | zero => intro i hi hd; refine Ev.succ ?_; simp only [laws_eqIntSS.l0]; exact Ev.no (by omega) (Ev.now _)
  | succ d ih =>
    intro i hi hd
    have hlt : i < l.length := by omega
    have hr := hg _ (List.getElem_mem hlt)
    refine Ev.succ ?_
    simp only [laws_eqIntSS.l0]
    rw [rdL_get l i hlt, wnat i _ hlt hl]
    exact Ev.yes (by omega) (Ev.yes (by omega) (Ev.yes (by omega) (Ev.bind (eq_ints l[i] (by omega)) (Ev.yes rfl (ih (i + 1) (by omega) (by omega))))))
theorem eq_rows (l : List (List Int)) (hl : l.length ≤ 1048576) (hg : ∀ r ∈ l, r.length ≤ 1048576) : Ev (fun k => laws_eqIntSS.f k l l) true := by
  simp only [laws_eqIntSS.f]
  exact Ev.yes trivial (eq_rows_l l (by omega) hg l.length 0 (by omega) (by omega))
theorem sz_rows_l (l : List (List Int)) (hg : ∀ r ∈ l, r.length ≤ maxLen) (hl : l.length ≤ 9223372036854775807) (d : Nat) : ∀ (i : Nat) (left : Int), i ≤ l.length → l.length - i = d → 0 ≤ left → left ≤ 1048576 → EvP (fun k => laws_szIntSS.l0 k l left (i : Int)) (fun t => t < 0 ∨ (0 ≤ t ∧ t ≤ left ∧ ∀ r ∈ l.drop i, (r.length : Int) ≤ left)) := by
  induction d with
  | zero =>
    intro i left hi hd h0 h1
    refine EvP.succ ?_
    simp only [laws_szIntSS.l0]
    rw [List.drop_eq_nil_of_le (by omega)]
    exact EvP.no (by omega) (EvP.ret (.inr ⟨h0, by omega, by simp⟩))
  | succ d ih =>
    intro i left hi hd h0 h1
    have hlt : i < l.length := by omega
    have g := hg l[i] (List.getElem_mem hlt)
    unfold maxLen at g
    refine EvP.succ ?_
    simp only [laws_szIntSS.l0, laws_szIntS.f]
    rw [rdL_get l i hlt, wnat i _ hlt hl, drop_get l i hlt, w64 (n := left - (l[i].length : Int)) (by omega) (by omega)]
    refine EvP.yes (by omega) (EvP.yes (by omega) ?_)
    by_cases c : left - (l[i].length : Int) < 0
    · rw [if_pos c]; simp only [Option.bind_some]; exact EvP.yes (by omega) (EvP.ret (.inl (by omega)))
    · rw [if_neg c]; simp only [Option.bind_some]
      refine EvP.no c ?_
      refine (ih (i + 1) (left - (l[i].length : Int)) (by omega) (by omega) (by omega) (by omega)).imp fun r hr => ?_
      rcases hr with hr | ⟨a, b, hr⟩
      · exact .inl hr
      · refine .inr ⟨a, by omega, fun q hq => ?_⟩
        rcases List.mem_cons.mp hq with rfl | hq
        · omega
        · have := hr q hq; omega
theorem to_sketch (l : List (List Int)) (a : Int) (hl : l.length ≤ 1048576) (hg : ∀ r ∈ l, r.length ≤ 1048576) : Ev (fun k => laws_toSketch.f k l a) (l, a) := by
  simp only [laws_toSketch.f]
  exact Ev.bind (to_rows l hl hg) (Ev.now _)
end Go.Proofs.Ytoopdknphikgkaa.Q
