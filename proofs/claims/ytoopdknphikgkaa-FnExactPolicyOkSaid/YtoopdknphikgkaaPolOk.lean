import Derived.Test.YtoopdknphikgkaaPolicy
import Derived.Test.YtoopdknphikgkaaG80
namespace Go.Proofs.Ytoopdknphikgkaa.Q
open Go.RowKit Go.Proofs.YtoopdknphikgkaaW.PrintWords Go.Proofs.YtoopdknphikgkaaW.PrintLast Go.Proofs.YtoopdknphikgkaaW.PrintMore
/-! ### is a policy right -/
def keyOk (b : ByteArray) : Bool := decide (1 ≤ (b.size : Int) ∧ (b.size : Int) ≤ 30)
def kOk (T : Bool) : List ByteArray → List ByteArray → Bool
  | _, [] => T
  | pre, b :: r => if keyOk b = true then (if hasB pre b = true then false else kOk T (pre ++ [b]) r) else false
def polT (a b : List ByteArray) (l : List (List Int)) (n : Int) : Bool := if (a.length : Int) ≤ 2 then (if (b.length : Int) ≤ 4 then skOk l n else false) else false
def polOk (a b : List ByteArray) (l : List (List Int)) (n : Int) : Bool := kOk (polT a b l n) [] (a ++ b)
theorem pol_spec_l (x a b : List ByteArray) (l : List (List Int)) (n : Int) (hx : x.length ≤ 9223372036854775806) (hl : l.length ≤ 1048576) (d : Nat) : ∀ i : Nat, i ≤ x.length → x.length - i = d → Ev (fun k => spec_PolicyOk.l0 k x (i : Int) a b l n) (kOk (polT a b l n) (x.take i) (x.drop i)) := by
  induction d with
  | zero =>
    intro i hi hd
    refine Ev.succ ?_
    simp only [spec_PolicyOk.l0]
    rw [List.drop_eq_nil_of_le (by omega), kOk, polT]
    refine Ev.no (by omega) ?_
    by_cases c : (a.length : Int) ≤ 2
    · rw [if_pos c]
      refine Ev.yes c ?_
      by_cases c2 : (b.length : Int) ≤ 4
      · rw [if_pos c2]; exact Ev.yes c2 (Ev.bind (sk_spec l n hl) (Ev.now _))
      · rw [if_neg c2]; exact Ev.no c2 (Ev.now _)
    · rw [if_neg c]; exact Ev.no c (Ev.now _)
  | succ d ih =>
    intro i hi hd
    have hlt : i < x.length := by omega
    refine Ev.succ ?_
    simp only [spec_PolicyOk.l0, spec_l13Key.f, in_spec, Option.bind_some, Int.toNat_natCast]
    rw [rdS_get x i hlt, wnat i _ hlt (by omega), drop_get x i hlt, kOk]
    refine Ev.yes (by omega) (Ev.yes (by omega) ?_)
    by_cases c : keyOk x[i] = true
    · rw [if_pos c]
      refine Ev.yes c (Ev.yes (by omega) (Ev.bind (in_list (x.take i) x[i] (by rw [List.length_take]; omega)) ?_))
      by_cases c2 : hasB (x.take i) x[i] = true
      · rw [if_pos c2]; exact Ev.yes c2 (Ev.now _)
      · rw [if_neg c2, ← List.take_succ_eq_append_getElem hlt]; exact Ev.no c2 (ih (i + 1) (by omega) (by omega))
    · rw [if_neg c]; exact Ev.no c (Ev.now _)
theorem pol_impl_l (x a b : List ByteArray) (l : List (List Int)) (n : Int) (hx : x.length ≤ 9223372036854775806) (hl : l.length ≤ 1048576) (hg : ∀ r ∈ l, r.length ≤ 1048576) (d : Nat) : ∀ i : Nat, i ≤ x.length → x.length - i = d → Ev (fun k => impl_PolicyOk.l0 k x x (x.length : Int) (i : Int) a b l n) (kOk (polT a b l n) (x.take i) (x.drop i)) := by
  induction d with
  | zero =>
    intro i hi hd
    refine Ev.succ ?_
    simp only [impl_PolicyOk.l0]
    rw [List.drop_eq_nil_of_le (by omega), kOk, polT]
    refine Ev.no (by omega) ?_
    by_cases c : (a.length : Int) ≤ 2
    · rw [if_pos c]
      refine Ev.yes c ?_
      by_cases c2 : (b.length : Int) ≤ 4
      · rw [if_pos c2]; exact Ev.yes c2 (Ev.bind (sk_impl l n hl hg) (Ev.now _))
      · rw [if_neg c2]; exact Ev.no c2 (Ev.now _)
    · rw [if_neg c]; exact Ev.no c (Ev.now _)
  | succ d ih =>
    intro i hi hd
    have hlt : i < x.length := by omega
    refine Ev.succ ?_
    simp only [impl_PolicyOk.l0, impl_isKey.f, in_impl, Option.bind_some, Int.toNat_natCast]
    rw [rdS_get x i hlt, wnat i _ hlt (by omega), drop_get x i hlt, kOk]
    refine Ev.yes (by omega) (Ev.yes (by omega) (Ev.yes (by omega) ?_))
    by_cases c : keyOk x[i] = true
    · rw [if_pos c]
      refine Ev.yes c (Ev.yes (by omega) (Ev.bind (contains_ev (x.take i) x[i] (by rw [List.length_take]; omega)) ?_))
      by_cases c2 : hasB (x.take i) x[i] = true
      · rw [if_pos c2]; exact Ev.yes c2 (Ev.now _)
      · rw [if_neg c2, ← List.take_succ_eq_append_getElem hlt]; exact Ev.no c2 (ih (i + 1) (by omega) (by omega))
    · rw [if_neg c]; exact Ev.no c (Ev.now _)
theorem pol_spec (a b : List ByteArray) (l : List (List Int)) (n : Int) (h : PolOk a b l) : Ev (fun k => spec_PolicyOk.f k a b l n) (polOk a b l n) := by
  have h1 := h.ha
  have h2 := h.hb
  simp only [spec_PolicyOk.f, Option.bind_some, List.nil_append, List.length_nil]
  have e := pol_spec_l (a ++ b) a b l n (by rw [List.length_append]; omega) h.hl (a ++ b).length 0 (by omega) (by omega)
  rw [List.take_zero, List.drop_zero] at e
  exact Ev.yes (by omega) (Ev.yes (by omega) e)
theorem pol_impl (a b : List ByteArray) (l : List (List Int)) (n : Int) (h : PolOk a b l) : Ev (fun k => impl_PolicyOk.f k a b l n) (polOk a b l n) := by
  have h1 := h.ha
  have h2 := h.hb
  simp only [impl_PolicyOk.f]
  have e := pol_impl_l (a ++ b) a b l n (by rw [List.length_append]; omega) h.hl h.hg (a ++ b).length 0 (by omega) (by omega)
  rw [List.take_zero, List.drop_zero] at e
  exact Ev.via (keys_in a b l n h) e

end Go.Proofs.Ytoopdknphikgkaa.Q
