import Derived.Test.YtoopdknphikgkaaPtWords
import Derived.Lib.Strings
import Derived.Test.YtoopdknphikgkaaPtG91
import Derived.Test.YtoopdknphikgkaaPtG55
import Derived.Test.YtoopdknphikgkaaPtG30
import Derived.Test.YtoopdknphikgkaaPtG20
import Derived.Test.YtoopdknphikgkaaPtG16
namespace Go.Proofs.Ytoopdknphikgkaa.Q
open Go.RowKit Go.Proofs.YtoopdknphikgkaaW.PrintWords Go.Proofs.YtoopdknphikgkaaW.PrintLast Go.Proofs.YtoopdknphikgkaaW.PrintMore
/-- With enough rounds g tells something of which P holds. -/
def EvP {α : Type} (g : Nat → Option α) (P : α → Prop) : Prop := ∃ r, Ev g r ∧ P r
theorem Ev.succ {α : Type} {g : Nat → Option α} {r : α} (h : Ev (fun k => g (k + 1)) r) : Ev g r := Ev.step (fun _ => rfl) h
theorem Ev.yes {α : Type} {f g : Nat → Option α} {r : α} {c : Prop} [Decidable c] (hc : c) (h : Ev f r) : Ev (fun k => if c then f k else g k) r := Ev.congr (fun _ => if_pos hc) h
theorem Ev.no {α : Type} {f g : Nat → Option α} {r : α} {c : Prop} [Decidable c] (hc : ¬ c) (h : Ev g r) : Ev (fun k => if c then f k else g k) r := Ev.congr (fun _ => if_neg hc) h
theorem Ev.via {α β : Type} {g : Option α} {f : Nat → α → Option β} {a : α} {r : β} (h : g = some a) (k : Ev (fun n => f n a) r) : Ev (fun n => g.bind (f n)) r := Ev.congr (fun _ => by rw [h]; rfl) k
theorem Ev.const {α : Type} {g : Option α} {a : α} (h : g = some a) : Ev (fun _ => g) a := ⟨0, fun _ _ => h⟩
theorem EvP.bind {α β : Type} {g : Nat → Option α} {f : Nat → α → Option β} {P : α → Prop} {Q : β → Prop} (h : EvP g P) (k : ∀ a, P a → EvP (fun n => f n a) Q) : EvP (fun n => (g n).bind (f n)) Q := by
  obtain ⟨a, ha, hp⟩ := h
  obtain ⟨r, hr, hq⟩ := k a hp
  exact ⟨r, Ev.bind ha hr, hq⟩
theorem EvP.ite {α : Type} {f g : Nat → Option α} {P : α → Prop} {c : Prop} [Decidable c] (h1 : c → EvP f P) (h2 : ¬ c → EvP g P) : EvP (fun k => if c then f k else g k) P := by
  by_cases hc : c
  · obtain ⟨r, hr, hp⟩ := h1 hc; exact ⟨r, Ev.yes hc hr, hp⟩
  · obtain ⟨r, hr, hp⟩ := h2 hc; exact ⟨r, Ev.no hc hr, hp⟩
theorem EvP.yes {α : Type} {f g : Nat → Option α} {P : α → Prop} {c : Prop} [Decidable c] (hc : c) (h : EvP f P) : EvP (fun k => if c then f k else g k) P := EvP.ite (fun _ => h) (fun hn => absurd hc hn)
theorem EvP.no {α : Type} {f g : Nat → Option α} {P : α → Prop} {c : Prop} [Decidable c] (hc : ¬ c) (h : EvP g P) : EvP (fun k => if c then f k else g k) P := EvP.ite (fun hn => absurd hn hc) (fun _ => h)
theorem EvP.ret {α : Type} {a : α} {P : α → Prop} (h : P a) : EvP (fun _ => some a) P := ⟨a, Ev.now a, h⟩
theorem EvP.ev {α : Type} {g : Nat → Option α} {r : α} {P : α → Prop} (h : Ev g r) (hp : P r) : EvP g P := ⟨r, h, hp⟩
theorem EvP.const {α : Type} {g : Option α} {a : α} {P : α → Prop} (h : g = some a) (hp : P a) : EvP (fun _ => g) P := ⟨a, Ev.const h, hp⟩
theorem EvP.succ {α : Type} {g : Nat → Option α} {P : α → Prop} (h : EvP (fun k => g (k + 1)) P) : EvP g P := by
  obtain ⟨r, hr, hp⟩ := h
  exact ⟨r, Ev.succ hr, hp⟩
theorem EvP.imp {α : Type} {g : Nat → Option α} {P Q : α → Prop} (h : EvP g P) (k : ∀ r, P r → Q r) : EvP g Q := by
  obtain ⟨r, hr, hp⟩ := h
  exact ⟨r, hr, k r hp⟩
theorem EvP.is {α : Type} {g : Nat → Option α} {r : α} (h : EvP g (fun x => x = r)) : Ev g r := by
  obtain ⟨_, hr, rfl⟩ := h
  exact hr
end Go.Proofs.Ytoopdknphikgkaa.Q
namespace Go.Proofs.Ytoopdknphikgkaa.Q
open Go.RowKit Go.Proofs.YtoopdknphikgkaaW.PrintWords Go.Proofs.YtoopdknphikgkaaW.PrintLast Go.Proofs.YtoopdknphikgkaaW.PrintMore
theorem w64 {n : Int} (h0 : -9223372036854775808 ≤ n) (h1 : n < 9223372036854775808) : wrap64 n = n := by unfold wrap64; omega
theorem wnat (i n : Nat) (h : i < n) (hn : n ≤ 9223372036854775807) : wrap64 ((i : Int) + 1) = ((i + 1 : Nat) : Int) := by rw [w64 (by omega) (by omega)]; rfl
theorem rd_get (l : List Int) (i : Nat) (h : i < l.length) : rd l i = l[i] := by simp [rd, h]
theorem drop_get {α : Type} (l : List α) (i : Nat) (h : i < l.length) : l.drop i = l[i] :: l.drop (i + 1) := List.drop_eq_getElem_cons h
theorem take_set {α : Type} (x : List α) (i : Nat) (v : α) (h : i < x.length) : (x.set i v).take (i + 1) = x.take i ++ [v] := by
  have h2 : i < (x.set i v).length := by rw [List.length_set]; exact h
  rw [List.take_succ_eq_append_getElem h2, List.take_set, List.set_eq_of_length_le (by simp; omega)]
  simp
end Go.Proofs.Ytoopdknphikgkaa.Q

namespace Go.Proofs.Ytoopdknphikgkaa.Q
open Go.RowKit Go.Proofs.YtoopdknphikgkaaW.PrintWords Go.Proofs.YtoopdknphikgkaaW.PrintLast Go.Proofs.YtoopdknphikgkaaW.PrintMore
theorem rdS_get (l : List ByteArray) (i : Nat) (h : i < l.length) : rdOf ByteArray.empty l i = l[i] := by simp [rdOf, h]
end Go.Proofs.Ytoopdknphikgkaa.Q
namespace Go.Proofs.Ytoopdknphikgkaa.Q
open Go.RowKit Go.Proofs.YtoopdknphikgkaaW.PrintWords Go.Proofs.YtoopdknphikgkaaW.PrintLast Go.Proofs.YtoopdknphikgkaaW.PrintMore
theorem rdL_get (l : List (List Int)) (i : Nat) (h : i < l.length) : rd_L2 l i = l[i] := by simp [rd_L2, h]
end Go.Proofs.Ytoopdknphikgkaa.Q
namespace Go.Proofs.Ytoopdknphikgkaa.Q
open Go.RowKit Go.Proofs.YtoopdknphikgkaaW.PrintWords Go.Proofs.YtoopdknphikgkaaW.PrintLast Go.Proofs.YtoopdknphikgkaaW.PrintMore
theorem in_spec (a b c : Int) : spec_l01In.f a b c = some (decide (b ≤ a ∧ a ≤ c)) := by
  unfold spec_l01In.f
  by_cases h : a ≥ b
  · rw [if_pos h]; simp [show b ≤ a from h]
  · rw [if_neg h]; simp [show ¬ b ≤ a from h]
theorem in_impl (a b c : Int) : impl_within.f a b c = some (decide (b ≤ a ∧ a ≤ c)) := by
  unfold impl_within.f
  by_cases h : a ≥ b
  · rw [if_pos h]; simp [show b ≤ a from h]
  · rw [if_neg h]; simp [show ¬ b ≤ a from h]
end Go.Proofs.Ytoopdknphikgkaa.Q
namespace Go.Proofs.Ytoopdknphikgkaa.Q
open Go.RowKit Go.Proofs.YtoopdknphikgkaaW.PrintWords Go.Proofs.YtoopdknphikgkaaW.PrintLast Go.Proofs.YtoopdknphikgkaaW.PrintMore
def nOk (n : Int) : Bool := decide (0 ≤ n ∧ n ≤ 15)
def rOk (r : List Int) : Bool := decide (r.length = 16) && r.all nOk
def skOk (l : List (List Int)) (a : Int) : Bool := decide (l.length = 3) && (decide (0 ≤ a ∧ a ≤ 63) && l.all rOk)
theorem sk_row_spec (l : List (List Int)) (a : Int) (i : Nat) (hi : i < l.length) (hl : l.length ≤ 1048576) (hr : l[i].length = 16) (g : Bool) (hg : Ev (fun k => spec_SketchOk.l0 k ((i + 1 : Nat) : Int) l a) g) (d : Nat) : ∀ j : Nat, j ≤ 16 → 16 - j = d → Ev (fun k => spec_SketchOk.l1 k (i : Int) (j : Int) l a) ((l[i].drop j).all nOk && g) := by
  induction d with
  | zero =>
    intro j hj hd
    refine Ev.succ ?_
    simp only [spec_SketchOk.l1]
    rw [rdL_get l i hi, wnat i _ hi (by omega), List.drop_eq_nil_of_le (by omega)]
    simp only [List.all_nil, Bool.true_and]
    exact Ev.yes (by omega) (Ev.yes (by omega) (Ev.no (by omega) hg))
  | succ d ih =>
    intro j hj hd
    have hlt : j < l[i].length := by omega
    refine Ev.succ ?_
    simp only [spec_SketchOk.l1]
    rw [rdL_get l i hi, rd_get _ j hlt, wnat j _ hlt (by omega), drop_get _ j hlt]
    simp only [in_spec, Option.bind_some, List.all_cons]
    refine Ev.yes (by omega) (Ev.yes (by omega) (Ev.yes (by omega) (Ev.yes (by omega) ?_)))
    by_cases c : 0 ≤ l[i][j] ∧ l[i][j] ≤ 15
    · rw [show nOk l[i][j] = true from decide_eq_true c, Bool.true_and]
      exact Ev.yes (decide_eq_true c) (ih (j + 1) (by omega) (by omega))
    · rw [show nOk l[i][j] = false from decide_eq_false c, Bool.false_and, Bool.false_and]
      exact Ev.no (by simpa using c) (Ev.now _)
theorem sk_rows_spec (l : List (List Int)) (a : Int) (hl : l.length ≤ 1048576) (d : Nat) : ∀ i : Nat, i ≤ l.length → l.length - i = d → Ev (fun k => spec_SketchOk.l0 k (i : Int) l a) ((l.drop i).all rOk) := by
  induction d with
  | zero =>
    intro i hi hd
    refine Ev.succ ?_
    simp only [spec_SketchOk.l0]
    rw [List.drop_eq_nil_of_le (by omega)]
    exact Ev.no (by omega) (Ev.now _)
  | succ d ih =>
    intro i hi hd
    have hlt : i < l.length := by omega
    refine Ev.succ ?_
    simp only [spec_SketchOk.l0]
    rw [rdL_get l i hlt, drop_get l i hlt]
    simp only [List.all_cons]
    refine Ev.yes (by omega) (Ev.yes (by omega) ?_)
    by_cases c : l[i].length = 16
    · have h := sk_row_spec l a i hlt hl c _ (ih (i + 1) (by omega) (by omega)) 16 0 (by omega) (by omega)
      rw [List.drop_zero] at h
      rw [rOk, decide_eq_true c, Bool.true_and]
      exact Ev.yes (by omega) h
    · rw [rOk, decide_eq_false c, Bool.false_and, Bool.false_and]
      exact Ev.no (by omega) (Ev.now _)
theorem sk_spec (l : List (List Int)) (a : Int) (hl : l.length ≤ 1048576) : Ev (fun k => spec_SketchOk.f k l a) (skOk l a) := by
  simp only [spec_SketchOk.f, in_spec, Option.bind_some, skOk]
  by_cases c : l.length = 3
  · rw [decide_eq_true c, Bool.true_and]
    refine Ev.yes (by omega) (Ev.succ ?_)
    simp only [spec_SketchOk.j0]
    by_cases c2 : 0 ≤ a ∧ a ≤ 63
    · rw [decide_eq_true c2, Bool.true_and]
      have h := sk_rows_spec l a hl l.length 0 (by omega) (by omega)
      rw [List.drop_zero] at h
      exact Ev.no (by simp) h
    · rw [decide_eq_false c2, Bool.false_and]
      exact Ev.yes (by simp) (Ev.now _)
  · rw [decide_eq_false c, Bool.false_and]
    refine Ev.no (by omega) (Ev.succ ?_)
    simp only [spec_SketchOk.j0]
    exact Ev.yes trivial (Ev.now _)
theorem sk_row_impl (l : List (List Int)) (a : Int) (i : Nat) (r : List Int) (hr : r.length ≤ 1048576) (g : Bool) (hi : i < l.length) (hl : l.length ≤ 1048576) (hg : Ev (fun k => impl_SketchOk.l0 k l (l.length : Int) ((i + 1 : Nat) : Int) l a) g) (d : Nat) : ∀ j : Nat, j ≤ r.length → r.length - j = d → Ev (fun k => impl_SketchOk.l1 k r l (l.length : Int) (i : Int) r (r.length : Int) (j : Int) l a) ((r.drop j).all nOk && (decide (r.length = 16) && g)) := by
  induction d with
  | zero =>
    intro j hj hd
    refine Ev.succ ?_
    simp only [impl_SketchOk.l1]
    rw [wnat i _ hi (by omega), List.drop_eq_nil_of_le (by omega)]
    simp only [List.all_nil, Bool.true_and]
    refine Ev.no (by omega) ?_
    by_cases c : r.length = 16
    · rw [decide_eq_true c, Bool.true_and]; exact Ev.yes (by omega) hg
    · rw [decide_eq_false c, Bool.false_and]; exact Ev.no (by omega) (Ev.now _)
  | succ d ih =>
    intro j hj hd
    have hlt : j < r.length := by omega
    refine Ev.succ ?_
    simp only [impl_SketchOk.l1]
    rw [rd_get _ j hlt, wnat j _ hlt (by omega), drop_get _ j hlt]
    simp only [in_impl, Option.bind_some, List.all_cons]
    refine Ev.yes (by omega) (Ev.yes (by omega) (Ev.yes (by omega) ?_))
    by_cases c : 0 ≤ r[j] ∧ r[j] ≤ 15
    · rw [show nOk r[j] = true from decide_eq_true c, Bool.true_and]
      exact Ev.yes (decide_eq_true c) (ih (j + 1) (by omega) (by omega))
    · rw [show nOk r[j] = false from decide_eq_false c, Bool.false_and, Bool.false_and]
      exact Ev.no (by simpa using c) (Ev.now _)
theorem sk_rows_impl (l : List (List Int)) (a : Int) (hl : l.length ≤ 1048576) (hg : ∀ r ∈ l, r.length ≤ 1048576) (d : Nat) : ∀ i : Nat, i ≤ l.length → l.length - i = d → Ev (fun k => impl_SketchOk.l0 k l (l.length : Int) (i : Int) l a) ((l.drop i).all rOk && (decide (l.length = 3) && decide (0 ≤ a ∧ a ≤ 63))) := by
  induction d with
  | zero =>
    intro i hi hd
    refine Ev.succ ?_
    simp only [impl_SketchOk.l0]
    rw [List.drop_eq_nil_of_le (by omega)]
    simp only [in_impl, Option.bind_some, List.all_nil, Bool.true_and]
    refine Ev.no (by omega) ?_
    by_cases c : l.length = 3
    · rw [decide_eq_true c, Bool.true_and]; exact Ev.yes (by omega) (Ev.now _)
    · rw [decide_eq_false c, Bool.false_and]; exact Ev.no (by omega) (Ev.now _)
  | succ d ih =>
    intro i hi hd
    have hlt : i < l.length := by omega
    have hr := hg _ (List.getElem_mem hlt)
    refine Ev.succ ?_
    simp only [impl_SketchOk.l0]
    rw [rdL_get l i hlt, drop_get l i hlt]
    simp only [List.all_cons]
    have h := sk_row_impl l a i l[i] hr _ hlt hl (ih (i + 1) (by omega) (by omega)) l[i].length 0 (by omega) (by omega)
    rw [List.drop_zero] at h
    refine Ev.yes (by omega) (Ev.yes (by omega) (Ev.yes (by omega) ?_))
    rw [show ((rOk l[i] && (l.drop (i + 1)).all rOk) && (decide (l.length = 3) && decide (0 ≤ a ∧ a ≤ 63))) = (l[i].all nOk && (decide (l[i].length = 16) && ((l.drop (i + 1)).all rOk && (decide (l.length = 3) && decide (0 ≤ a ∧ a ≤ 63))))) from by
      rw [rOk]; cases l[i].all nOk <;> cases decide (l[i].length = 16) <;> simp]
    exact h
theorem sk_impl (l : List (List Int)) (a : Int) (hl : l.length ≤ 1048576) (hg : ∀ r ∈ l, r.length ≤ 1048576) : Ev (fun k => impl_SketchOk.f k l a) (skOk l a) := by
  simp only [impl_SketchOk.f]
  have h := sk_rows_impl l a hl hg l.length 0 (by omega) (by omega)
  rw [List.drop_zero, show (l.all rOk && (decide (l.length = 3) && decide (0 ≤ a ∧ a ≤ 63))) = skOk l a from by rw [skOk]; cases l.all rOk <;> cases decide (l.length = 3) <;> cases decide (0 ≤ a ∧ a ≤ 63) <;> rfl] at h
  exact h
end Go.Proofs.Ytoopdknphikgkaa.Q
namespace Go.Proofs.Ytoopdknphikgkaa.Q
open Go.RowKit Go.Proofs.YtoopdknphikgkaaW.PrintWords Go.Proofs.YtoopdknphikgkaaW.PrintLast Go.Proofs.YtoopdknphikgkaaW.PrintMore
structure PolOk (a b : List ByteArray) (l : List (List Int)) : Prop where
  ha : a.length ≤ 1048576
  hb : b.length ≤ 1048576
  hl : l.length ≤ 1048576
  hg : ∀ r ∈ l, r.length ≤ 1048576
  sa : ∀ s ∈ a, s.size ≤ 1048576
  sb : ∀ s ∈ b, s.size ≤ 1048576
/-- Is a key among them. -/
def hasB (l : List ByteArray) (key : ByteArray) : Bool := l.any fun b => decide (b.toList = key.toList)
theorem hasB_cons (b : ByteArray) (l : List ByteArray) (key : ByteArray) : hasB (b :: l) key = (decide (b.toList = key.toList) || hasB l key) := by simp [hasB]
theorem hasB_app (a b : List ByteArray) (key : ByteArray) : hasB (a ++ b) key = (hasB a key || hasB b key) := by simp [hasB, List.any_append]
theorem in_list_l (l : List ByteArray) (key : ByteArray) (hl : l.length ≤ 9223372036854775806) (d : Nat) : ∀ i : Nat, i ≤ l.length → l.length - i = d → Ev (fun k => spec_l13In.l0 k l key (i : Int)) (hasB (l.drop i) key) := by
  induction d with
  | zero => intro i hi hd; refine Ev.succ ?_; simp only [spec_l13In.l0]; rw [List.drop_eq_nil_of_le (by omega)]; exact Ev.no (by omega) (Ev.now _)
  | succ d ih =>
    intro i hi hd
    have hlt : i < l.length := by omega
    refine Ev.succ ?_
    simp only [spec_l13In.l0]
    rw [rdS_get l i hlt, wnat i _ hlt (by omega), drop_get l i hlt, hasB_cons]
    refine Ev.yes (by omega) (Ev.yes (by omega) ?_)
    by_cases c : l[i].toList = key.toList
    · rw [decide_eq_true c, Bool.true_or]; exact Ev.yes c (Ev.now _)
    · rw [decide_eq_false c, Bool.false_or]; exact Ev.no c (ih (i + 1) (by omega) (by omega))
theorem in_list (l : List ByteArray) (key : ByteArray) (hl : l.length ≤ 9223372036854775806) : Ev (fun k => spec_l13In.f k l key) (hasB l key) := by
  simp only [spec_l13In.f]
  have h := in_list_l l key hl l.length 0 (by omega) (by omega)
  rw [List.drop_zero] at h
  exact h
theorem index_l (l : List ByteArray) (key : ByteArray) (hl : l.length ≤ 9223372036854775806) (d : Nat) : ∀ i : Nat, i ≤ l.length → l.length - i = d → EvP (fun k => slices_Index_string_string.l0 k l key (l.length : Int) (i : Int)) (fun t => decide (t ≥ 0) = hasB (l.drop i) key) := by
  induction d with
  | zero => intro i hi hd; refine EvP.succ ?_; simp only [slices_Index_string_string.l0]; rw [List.drop_eq_nil_of_le (by omega)]; exact EvP.no (by omega) (EvP.ret rfl)
  | succ d ih =>
    intro i hi hd
    have hlt : i < l.length := by omega
    refine EvP.succ ?_
    simp only [slices_Index_string_string.l0]
    rw [rdS_get l i hlt, wnat i _ hlt (by omega), drop_get l i hlt, hasB_cons]
    refine EvP.yes (by omega) (EvP.yes (by omega) (EvP.yes (by omega) ?_))
    by_cases c : key.toList = l[i].toList
    · rw [decide_eq_true c.symm, Bool.true_or]; exact EvP.yes c (EvP.ret (decide_eq_true (by omega)))
    · rw [decide_eq_false (fun e => c e.symm), Bool.false_or]; exact EvP.no c (ih (i + 1) (by omega) (by omega))
theorem contains_ev (l : List ByteArray) (key : ByteArray) (hl : l.length ≤ 9223372036854775806) : Ev (fun k => slices_Contains_string_string.f k l key) (hasB l key) := by
  simp only [slices_Contains_string_string.f, slices_Index_string_string.f]
  obtain ⟨t, et, ht⟩ := index_l l key hl l.length 0 (by omega) (by omega)
  rw [List.drop_zero] at ht
  rw [← ht]
  exact Ev.bind et (Ev.now _)
theorem keys_in (a b : List ByteArray) (l : List (List Int)) (n : Int) (h : PolOk a b l) : impl_keysIn.f a b l n = some (a ++ b) := by
  have := h.ha
  have := h.hb
  unfold impl_keysIn.f
  rw [if_pos (by omega)]
end Go.Proofs.Ytoopdknphikgkaa.Q
namespace Go.Proofs.Ytoopdknphikgkaa.Q
open Go.RowKit Go.Proofs.YtoopdknphikgkaaW.PrintWords Go.Proofs.YtoopdknphikgkaaW.PrintLast Go.Proofs.YtoopdknphikgkaaW.PrintMore
def keyOk (b : ByteArray) : Bool := decide (1 ≤ (b.size : Int) ∧ (b.size : Int) ≤ 30)
def kOk (T : Bool) : List ByteArray → List ByteArray → Bool
  | _, [] => T
  | pre, b :: r => if keyOk b = true then (if hasB pre b = true then false else kOk T (pre ++ [b]) r) else false
def polT (a b : List ByteArray) (l : List (List Int)) (n : Int) : Bool := if (a.length : Int) ≤ 2 then (if (b.length : Int) ≤ 4 then skOk l n else false) else false
def polOk (a b : List ByteArray) (l : List (List Int)) (n : Int) : Bool := kOk (polT a b l n) [] (a ++ b)
theorem pol_spec_l (x a b : List ByteArray) (l : List (List Int)) (n : Int) (hx : x.length ≤ 9223372036854775806) (hl : l.length ≤ 1048576) (d : Nat) : ∀ i : Nat, i ≤ x.length → x.length - i = d → Ev (fun k => spec_PolicyOk.l0 k x (i : Int) a b l n) (kOk (polT a b l n) (x.take i) (x.drop i)) := by
  induction d with
  | zero =>
    intro i hi hd
    refine Ev.succ ?_
    simp only [spec_PolicyOk.l0]
    rw [List.drop_eq_nil_of_le (by omega), kOk, polT]
    refine Ev.no (by omega) ?_
    by_cases c : (a.length : Int) ≤ 2
    · rw [if_pos c]
      refine Ev.yes c ?_
      by_cases c2 : (b.length : Int) ≤ 4
      · rw [if_pos c2]; exact Ev.yes c2 (Ev.bind (sk_spec l n hl) (Ev.now _))
      · rw [if_neg c2]; exact Ev.no c2 (Ev.now _)
    · rw [if_neg c]; exact Ev.no c (Ev.now _)
  | succ d ih =>
    intro i hi hd
    have hlt : i < x.length := by omega
    refine Ev.succ ?_
    simp only [spec_PolicyOk.l0, spec_l13Key.f, in_spec, Option.bind_some, Int.toNat_natCast]
    rw [rdS_get x i hlt, wnat i _ hlt (by omega), drop_get x i hlt, kOk]
    refine Ev.yes (by omega) (Ev.yes (by omega) ?_)
    by_cases c : keyOk x[i] = true
    · rw [if_pos c]
      refine Ev.yes c (Ev.yes (by omega) (Ev.bind (in_list (x.take i) x[i] (by rw [List.length_take]; omega)) ?_))
      by_cases c2 : hasB (x.take i) x[i] = true
      · rw [if_pos c2]; exact Ev.yes c2 (Ev.now _)
      · rw [if_neg c2, ← List.take_succ_eq_append_getElem hlt]; exact Ev.no c2 (ih (i + 1) (by omega) (by omega))
    · rw [if_neg c]; exact Ev.no c (Ev.now _)
theorem pol_impl_l (x a b : List ByteArray) (l : List (List Int)) (n : Int) (hx : x.length ≤ 9223372036854775806) (hl : l.length ≤ 1048576) (hg : ∀ r ∈ l, r.length ≤ 1048576) (d : Nat) : ∀ i : Nat, i ≤ x.length → x.length - i = d → Ev (fun k => impl_PolicyOk.l0 k x x (x.length : Int) (i : Int) a b l n) (kOk (polT a b l n) (x.take i) (x.drop i)) := by
  induction d with
  | zero =>
    intro i hi hd
    refine Ev.succ ?_
    simp only [impl_PolicyOk.l0]
    rw [List.drop_eq_nil_of_le (by omega), kOk, polT]
    refine Ev.no (by omega) ?_
    by_cases c : (a.length : Int) ≤ 2
    · rw [if_pos c]
      refine Ev.yes c ?_
      by_cases c2 : (b.length : Int) ≤ 4
      · rw [if_pos c2]; exact Ev.yes c2 (Ev.bind (sk_impl l n hl hg) (Ev.now _))
      · rw [if_neg c2]; exact Ev.no c2 (Ev.now _)
    · rw [if_neg c]; exact Ev.no c (Ev.now _)
  | succ d ih =>
    intro i hi hd
    have hlt : i < x.length := by omega
    refine Ev.succ ?_
    simp only [impl_PolicyOk.l0, impl_isKey.f, in_impl, Option.bind_some, Int.toNat_natCast]
    rw [rdS_get x i hlt, wnat i _ hlt (by omega), drop_get x i hlt, kOk]
    refine Ev.yes (by omega) (Ev.yes (by omega) (Ev.yes (by omega) ?_))
    by_cases c : keyOk x[i] = true
    · rw [if_pos c]
      refine Ev.yes c (Ev.yes (by omega) (Ev.bind (contains_ev (x.take i) x[i] (by rw [List.length_take]; omega)) ?_))
      by_cases c2 : hasB (x.take i) x[i] = true
      · rw [if_pos c2]; exact Ev.yes c2 (Ev.now _)
      · rw [if_neg c2, ← List.take_succ_eq_append_getElem hlt]; exact Ev.no c2 (ih (i + 1) (by omega) (by omega))
    · rw [if_neg c]; exact Ev.no c (Ev.now _)
theorem pol_spec (a b : List ByteArray) (l : List (List Int)) (n : Int) (h : PolOk a b l) : Ev (fun k => spec_PolicyOk.f k a b l n) (polOk a b l n) := by
  have h1 := h.ha
  have h2 := h.hb
  simp only [spec_PolicyOk.f, Option.bind_some, List.nil_append, List.length_nil]
  have e := pol_spec_l (a ++ b) a b l n (by rw [List.length_append]; omega) h.hl (a ++ b).length 0 (by omega) (by omega)
  rw [List.take_zero, List.drop_zero] at e
  exact Ev.yes (by omega) (Ev.yes (by omega) e)
theorem pol_impl (a b : List ByteArray) (l : List (List Int)) (n : Int) (h : PolOk a b l) : Ev (fun k => impl_PolicyOk.f k a b l n) (polOk a b l n) := by
  have h1 := h.ha
  have h2 := h.hb
  simp only [impl_PolicyOk.f]
  have e := pol_impl_l (a ++ b) a b l n (by rw [List.length_append]; omega) h.hl h.hg (a ++ b).length 0 (by omega) (by omega)
  rw [List.take_zero, List.drop_zero] at e
  exact Ev.via (keys_in a b l n h) e
end Go.Proofs.Ytoopdknphikgkaa.Q
namespace Go.Proofs.Ytoopdknphikgkaa.Q
open Go.RowKit Go.Proofs.YtoopdknphikgkaaW.PrintWords Go.Proofs.YtoopdknphikgkaaW.PrintLast Go.Proofs.YtoopdknphikgkaaW.PrintMore
theorem xor32_range (a b : Int) : 0 ≤ Go.bits .xor .u32 a b ∧ Go.bits .xor .u32 a b < 4294967296 := by
  unfold Go.bits; simp only [IntKind.wrap_u32]; omega
theorem and255 (a : Int) : Go.bits .and .i64 a 255 % 256 = a % 256 := by
  unfold Go.bits
  simp only [IntKind.wrap_i64]
  have e1 : (BitVec.ofInt IntKind.i64.bits a).toNat = (a % 18446744073709551616).toNat := by rw [BitVec.toNat_ofInt]; rfl
  have e2 : (BitVec.ofInt IntKind.i64.bits 255).toNat = 2 ^ 8 - 1 := by decide
  rw [BitVec.toNat_and, e1, e2, Nat.and_two_pow_sub_one_eq_mod]
  omega
theorem sum_inner (d : Nat) : ∀ (x i j : Int) (s : ByteArray), 0 ≤ x → x < 4294967296 → 0 ≤ j → j ≤ 8 → 8 - j = d →
    ∃ y, 0 ≤ y ∧ y < 4294967296 ∧ (∀ k, spec_SumMore.l1 (k + d + 1) x s i j = spec_SumMore.l0 k y s (wrap64 (i + 1))) ∧ (∀ k, impl_SumMore.l1 (k + d + 1) x s i j = impl_SumMore.l0 k y s (wrap64 (i + 1))) := by
  induction d with
  | zero =>
    intro x i j s h0 h1 h2 h3 h4
    exact ⟨x, h0, h1, fun k => by simp only [spec_SumMore.l1]; rw [if_neg (by omega)], fun k => by simp only [impl_SumMore.l1]; rw [if_neg (by omega)]⟩
  | succ d ih =>
    intro x i j s h0 h1 h2 h3 h4
    have ht : 0 ≤ (Int.tdiv x 2) % 4294967296 ∧ (Int.tdiv x 2) % 4294967296 < 4294967296 := by omega
    have hx := xor32_range ((Int.tdiv x 2) % 4294967296) 3558460437
    have hw : wrap64 (j + 1) = j + 1 := w64 (by omega) (by omega)
    by_cases c : Int.tmod x 2 = 1
    · obtain ⟨y, a, b, hs, hi⟩ := ih _ i (j + 1) s hx.1 hx.2 (by omega) (by omega) (by omega)
      refine ⟨y, a, b, fun k => ?_, fun k => ?_⟩
      · rw [← hs k, show k + (d + 1) + 1 = (k + d + 1) + 1 by omega]; simp only [spec_SumMore.l1]; rw [if_pos (by omega), if_pos c, hw]
      · rw [← hi k, show k + (d + 1) + 1 = (k + d + 1) + 1 by omega]; simp only [impl_SumMore.l1]; rw [if_pos (by omega), if_pos c, hw]
    · obtain ⟨y, a, b, hs, hi⟩ := ih _ i (j + 1) s ht.1 ht.2 (by omega) (by omega) (by omega)
      refine ⟨y, a, b, fun k => ?_, fun k => ?_⟩
      · rw [← hs k, show k + (d + 1) + 1 = (k + d + 1) + 1 by omega]; simp only [spec_SumMore.l1]; rw [if_pos (by omega), if_neg c, hw]
      · rw [← hi k, show k + (d + 1) + 1 = (k + d + 1) + 1 by omega]; simp only [impl_SumMore.l1]; rw [if_pos (by omega), if_neg c, hw]
theorem sum_outer (s : ByteArray) (hs : s.size ≤ 9223372036854775807) (d : Nat) : ∀ (x i : Int), 0 ≤ x → x < 4294967296 → 0 ≤ i → i ≤ s.size → (s.size : Int) - i = d →
    ∃ r, 0 ≤ r ∧ r < 4294967296 ∧ Ev (fun k => spec_SumMore.l0 k x s i) r ∧ Ev (fun k => impl_SumMore.l0 k x s i) r := by
  induction d with
  | zero =>
    intro x i h0 h1 h2 h3 h4
    refine ⟨x, h0, h1, ⟨1, fun k hk => ?_⟩, ⟨1, fun k hk => ?_⟩⟩
    · obtain ⟨k, rfl⟩ : ∃ m, k = m + 1 := ⟨k - 1, by omega⟩
      simp only [spec_SumMore.l0]; rw [if_neg (by omega)]
    · obtain ⟨k, rfl⟩ : ∃ m, k = m + 1 := ⟨k - 1, by omega⟩
      simp only [impl_SumMore.l0]; rw [if_neg (by omega)]
  | succ d ih =>
    intro x i h0 h1 h2 h3 h4
    have hx := xor32_range x ((bt s i) % 4294967296)
    obtain ⟨y, y0, y1, hi1, hi2⟩ := sum_inner 8 _ i 0 s hx.1 hx.2 (by omega) (by omega) (by omega)
    obtain ⟨r, r0, r1, ⟨K1, e1⟩, ⟨K2, e2⟩⟩ := ih y (i + 1) y0 y1 (by omega) (by omega) (by omega)
    have hw : wrap64 (i + 1) = i + 1 := w64 (by omega) (by omega)
    rw [hw] at hi1 hi2
    refine ⟨r, r0, r1, ⟨K1 + 10, fun k hk => ?_⟩, ⟨K2 + 10, fun k hk => ?_⟩⟩
    · obtain ⟨k, rfl⟩ : ∃ m, k = (m + 8 + 1) + 1 := ⟨k - 10, by omega⟩
      show spec_SumMore.l0 ((k + 8 + 1) + 1) x s i = some r
      simp only [spec_SumMore.l0]; rw [if_pos (by omega), if_pos h2, hi1]; exact e1 k (by omega)
    · obtain ⟨k, rfl⟩ : ∃ m, k = (m + 8 + 1) + 1 := ⟨k - 10, by omega⟩
      show impl_SumMore.l0 ((k + 8 + 1) + 1) x s i = some r
      simp only [impl_SumMore.l0]; rw [if_pos (by omega), if_pos h2, hi2]; exact e2 k (by omega)
/-- The sum of a text: one number, by both texts. -/
theorem sum_of (s : ByteArray) (hs : s.size ≤ 9223372036854775807) : ∃ r, 0 ≤ r ∧ r < 4294967296 ∧ Ev (fun k => spec_SumOf.f k s) r ∧ Ev (fun k => impl_SumOf.f k s) r := by
  obtain ⟨r, r0, r1, ⟨K1, e1⟩, ⟨K2, e2⟩⟩ := sum_outer s hs s.size 4294967295 0 (by omega) (by omega) (by omega) (by omega) (by omega)
  dsimp only at e1 e2
  exact ⟨r, r0, r1, ⟨K1, fun k hk => by simp only [spec_SumOf.f, spec_SumMore.f]; rw [e1 k hk]; rfl⟩, ⟨K2, fun k hk => by simp only [impl_SumOf.f, impl_SumMore.f]; rw [e2 k hk]; rfl⟩⟩
/-- The place of a key: the same by both, 0 to 15. -/
theorem place_of (row : Int) (key : ByteArray) (hk : key.size ≤ 140737488351232) : ∃ p, 0 ≤ p ∧ p < 16 ∧ Ev (fun k => spec_SketchPlace.f k row key) p ∧ Ev (fun k => impl_SketchPlace.f k row key) p := by
  have hz : (strOfNums [row % 256]).size = 1 := by simp [strOfNums]; rfl
  have hl : (key ++ strOfNums [row % 256]).size = key.size + 1 := by rw [ByteArray.size_append, hz]
  obtain ⟨r, r0, r1, ⟨K1, e1⟩, ⟨K2, e2⟩⟩ := sum_of (key ++ strOfNums [row % 256]) (by omega)
  dsimp only at e1 e2
  have hm : Int.tmod r 16 = r % 16 := Int.tmod_eq_emod_of_nonneg r0
  refine ⟨r % 16, by omega, by omega, ⟨K1, fun k hk => ?_⟩, ⟨K2, fun k hk => ?_⟩⟩
  · simp only [spec_SketchPlace.f, Option.bind_some]
    rw [if_pos (by omega), e1 k hk]; simp only [Option.bind_some]; rw [hm, w64 (by omega) (by omega)]
  · simp only [impl_SketchPlace.f, Option.bind_some, and255]
    rw [if_pos (by omega), e2 k hk]; simp only [Option.bind_some]; rw [w64 (by omega) (by omega), hm]
end Go.Proofs.Ytoopdknphikgkaa.Q
namespace Go.Proofs.Ytoopdknphikgkaa.Q
open Go.RowKit Go.Proofs.YtoopdknphikgkaaW.PrintWords Go.Proofs.YtoopdknphikgkaaW.PrintLast Go.Proofs.YtoopdknphikgkaaW.PrintMore
def gsL (pl : Nat → Int) : List (List Int) → Nat → Int → Int
  | [], _, m => m
  | r :: t, i, m => gsL pl t (i + 1) (mn m (rd r (pl i)))
def gs (l : List (List Int)) (pl : Nat → Int) (i : Nat) (m : Int) : Int := gsL pl (l.drop i) i m
theorem mn_if (m x : Int) : mn m x = if x < m then x else m := rfl
theorem guess_spec_l (l : List (List Int)) (a : Int) (key : ByteArray) (pl : Nat → Int) (hp : ∀ i, 0 ≤ pl i ∧ pl i < 16 ∧ Ev (fun k => spec_SketchPlace.f k (i : Int) key) (pl i)) (hl : l.length ≤ 1048576) (hg : ∀ r ∈ l, r.length = 16) (d : Nat) : ∀ (i : Nat) (m : Int), i ≤ l.length → l.length - i = d → Ev (fun k => spec_SketchGuess.l0 k key m (i : Int) l a) (gs l pl i m) := by
  induction d with
  | zero =>
    intro i m hi hd
    refine Ev.succ ?_
    simp only [spec_SketchGuess.l0]
    rw [show gs l pl i m = m from by show gsL pl (l.drop i) i m = m; rw [List.drop_eq_nil_of_le (by omega)]; rfl]
    exact Ev.no (by omega) (Ev.now _)
  | succ d ih =>
    intro i m hi hd
    have hlt : i < l.length := by omega
    have hr := hg _ (List.getElem_mem hlt)
    obtain ⟨p0, p1, pe⟩ := hp i
    refine Ev.succ ?_
    simp only [spec_SketchGuess.l0]
    rw [rdL_get l i hlt, wnat i _ hlt (by omega)]
    have e : gs l pl i m = gs l pl (i + 1) (mn m (rd l[i] (pl i))) := by show gsL pl (l.drop i) i m = _; rw [drop_get l i hlt]; rfl
    rw [e, mn_if]
    refine Ev.yes (by omega) (Ev.yes (by omega) (Ev.bind pe (Ev.yes p0 (Ev.yes (by omega) ?_))))
    by_cases c : rd l[i] (pl i) < m
    · rw [if_pos c]; exact Ev.yes c (ih (i + 1) _ (by omega) (by omega))
    · rw [if_neg c]; exact Ev.no c (ih (i + 1) _ (by omega) (by omega))
theorem guess_impl_l (l : List (List Int)) (key : ByteArray) (pl : Nat → Int) (hp : ∀ i, 0 ≤ pl i ∧ pl i < 16 ∧ Ev (fun k => impl_SketchPlace.f k (i : Int) key) (pl i)) (hl : l.length ≤ 1048576) (hg : ∀ r ∈ l, r.length = 16) (d : Nat) : ∀ (i : Nat) (m : Int), i ≤ l.length → l.length - i = d → Ev (fun k => impl_SketchGuess.l0 k key m l (l.length : Int) (i : Int)) (gs l pl i m) := by
  induction d with
  | zero =>
    intro i m hi hd
    refine Ev.succ ?_
    simp only [impl_SketchGuess.l0]
    rw [show gs l pl i m = m from by show gsL pl (l.drop i) i m = m; rw [List.drop_eq_nil_of_le (by omega)]; rfl]
    exact Ev.no (by omega) (Ev.now _)
  | succ d ih =>
    intro i m hi hd
    have hlt : i < l.length := by omega
    have hr := hg _ (List.getElem_mem hlt)
    obtain ⟨p0, p1, pe⟩ := hp i
    refine Ev.succ ?_
    simp only [impl_SketchGuess.l0]
    rw [rdL_get l i hlt, wnat i _ hlt (by omega)]
    have e : gs l pl i m = gs l pl (i + 1) (mn m (rd l[i] (pl i))) := by show gsL pl (l.drop i) i m = _; rw [drop_get l i hlt]; rfl
    rw [e]
    exact Ev.yes (by omega) (Ev.yes (by omega) (Ev.yes (by omega) (Ev.bind pe (Ev.yes p0 (Ev.yes (by omega) (ih (i + 1) _ (by omega) (by omega)))))))
theorem skOk_rows {l : List (List Int)} {a : Int} (h : skOk l a = true) : l.length = 3 ∧ (0 ≤ a ∧ a ≤ 63) ∧ ∀ r ∈ l, r.length = 16 ∧ ∀ n ∈ r, 0 ≤ n ∧ n ≤ 15 := by
  simp only [skOk, Bool.and_eq_true, decide_eq_true_eq, List.all_eq_true] at h
  refine ⟨h.1, h.2.1, fun r hr => ?_⟩
  have := h.2.2 r hr
  simp only [rOk, Bool.and_eq_true, decide_eq_true_eq, List.all_eq_true] at this
  exact ⟨this.1, fun n hn => of_decide_eq_true (this.2 n hn)⟩
end Go.Proofs.Ytoopdknphikgkaa.Q
namespace Go.Proofs.Ytoopdknphikgkaa.Q
open Go.RowKit Go.Proofs.YtoopdknphikgkaaW.PrintWords Go.Proofs.YtoopdknphikgkaaW.PrintLast Go.Proofs.YtoopdknphikgkaaW.PrintMore
def half (n : Int) : Int := wrap64 (Int.tdiv n 2)
def halfFrom (j : Nat) (r : List Int) : List Int := r.take j ++ (r.drop j).map half
theorem halfFrom_set (r : List Int) (j : Nat) (h : j < r.length) : halfFrom (j + 1) (r.set j (half r[j])) = halfFrom j r := by
  unfold halfFrom
  rw [take_set r j _ h, List.drop_set_of_lt (by omega), drop_get r j h, List.map_cons, List.append_assoc, List.singleton_append]
theorem halfFrom_all (r : List Int) (j : Nat) (h : r.length ≤ j) : halfFrom j r = r := by
  unfold halfFrom
  rw [List.take_of_length_le h, List.drop_eq_nil_of_le h]; simp
theorem halfFrom_zero (r : List Int) : halfFrom 0 r = r.map half := by unfold halfFrom; simp
theorem rdL_set (l : List (List Int)) (i : Nat) (v : List Int) (h : i < l.length) : rd_L2 (l.set i v) i = v := by
  rw [rdL_get _ i (by rw [List.length_set]; exact h), List.getElem_set_self]
theorem half_row_spec (i : Nat) (g : List (List Int) × Int) (d : Nat) : ∀ (j : Nat) (cur : List (List Int)), i < cur.length → cur.length ≤ 1048576 → (rd_L2 cur i).length ≤ 1048576 → j ≤ (rd_L2 cur i).length → (rd_L2 cur i).length - j = d → Ev (fun k => spec_SketchBump.l1 k ((i + 1 : Nat) : Int) (cur.set i (halfFrom j (rd_L2 cur i))) 0) g → Ev (fun k => spec_SketchBump.l2 k (i : Int) (j : Int) cur 0) g := by
  induction d with
  | zero =>
    intro j cur hi hl hr hj hd hg
    refine Ev.succ ?_
    simp only [spec_SketchBump.l2]
    rw [wnat i _ hi (by omega)]
    rw [halfFrom_all _ j (by omega), rdL_get cur i hi, List.set_getElem_self] at hg
    exact Ev.yes (by omega) (Ev.yes (by omega) (Ev.no (by omega) hg))
  | succ d ih =>
    intro j cur hi hl hr hj hd hg
    have hlt : j < (rd_L2 cur i).length := by omega
    refine Ev.succ ?_
    simp only [spec_SketchBump.l2, Int.toNat_natCast]
    rw [wnat j _ hlt (by omega), rd_get _ j hlt]
    refine Ev.yes (by omega) (Ev.yes (by omega) (Ev.yes (by omega) (Ev.yes (by omega) ?_)))
    have e := rdL_set cur i ((rd_L2 cur i).set j (wrap64 (Int.tdiv (rd_L2 cur i)[j] 2))) hi
    refine ih (j + 1) _ (by simpa using hi) (by simpa using hl) ?_ ?_ ?_ ?_
    · rw [e]; simpa using hr
    · rw [e]; simp only [List.length_set]; omega
    · rw [e]; simp only [List.length_set]; omega
    · rw [e, List.set_set, show (rd_L2 cur i).set j (wrap64 (Int.tdiv (rd_L2 cur i)[j] 2)) = (rd_L2 cur i).set j (half (rd_L2 cur i)[j]) from rfl, halfFrom_set _ j hlt]
      exact hg
theorem take_cons_drop (l : List (List Int)) (i : Nat) (v : List Int) (h : i < l.length) (f : List Int → List Int) (hv : v = f l[i]) : (l.set i v).take (i + 1) ++ ((l.set i v).drop (i + 1)).map f = l.take i ++ (l.drop i).map f := by
  rw [take_set l i _ h, List.drop_set_of_lt (by omega), drop_get l i h, hv, List.map_cons, List.append_assoc, List.singleton_append]
theorem half_rows_spec (d : Nat) : ∀ (i : Nat) (cur : List (List Int)), cur.length ≤ 1048576 → (∀ r ∈ cur, r.length ≤ 1048576) → i ≤ cur.length → cur.length - i = d → Ev (fun k => spec_SketchBump.l1 k (i : Int) cur 0) (cur.take i ++ (cur.drop i).map (·.map half), 0) := by
  induction d with
  | zero =>
    intro i cur hl hr hi hd
    refine Ev.succ ?_
    simp only [spec_SketchBump.l1]
    rw [List.drop_eq_nil_of_le (by omega), List.take_of_length_le (by omega)]
    simp only [List.map_nil, List.append_nil]
    exact Ev.no (by omega) (Ev.now _)
  | succ d ih =>
    intro i cur hl hr hi hd
    have hlt : i < cur.length := by omega
    refine Ev.succ ?_
    simp only [spec_SketchBump.l1]
    refine Ev.yes (by omega) ?_
    have hri := hr _ (List.getElem_mem hlt)
    refine half_row_spec i _ _ 0 cur hlt hl (by rw [rdL_get cur i hlt]; exact hri) (by omega) rfl ?_
    rw [halfFrom_zero, rdL_get cur i hlt, ← take_cons_drop cur i (cur[i].map half) hlt (·.map half) rfl]
    refine ih (i + 1) _ (by simpa using hl) ?_ (by simp; omega) (by simp; omega)
    intro r hm
    rcases List.mem_or_eq_of_mem_set hm with hm | rfl
    · exact hr r hm
    · simpa using hri
theorem half_row_impl (n : Int) (i : Nat) (m : Nat) (rows : List (List Int)) (hi : i < rows.length) (hl : rows.length ≤ 1048576) (hm : m ≤ 1048576) (g : List (List Int) × Int) (d : Nat) : ∀ (j : Nat) (ys : List Int), ys.length = m → j ≤ m → m - j = d → Ev (fun k => impl_SketchBump.l1 k n ((i + 1 : Nat) : Int) (rows.set i (halfFrom j ys))) g → Ev (fun k => impl_SketchBump.l2 k n (i : Int) (m : Int) (j : Int) ys rows) g := by
  induction d with
  | zero =>
    intro j ys hy hj hd hg
    refine Ev.succ ?_
    simp only [impl_SketchBump.l2, Int.toNat_natCast]
    rw [wnat i _ hi (by omega)]
    rw [halfFrom_all _ j (by omega)] at hg
    exact Ev.no (by omega) hg
  | succ d ih =>
    intro j ys hy hj hd hg
    have hlt : j < ys.length := by omega
    refine Ev.succ ?_
    simp only [impl_SketchBump.l2, Int.toNat_natCast]
    rw [wnat j _ hlt (by omega), rd_get _ j hlt]
    refine Ev.yes (by omega) (Ev.yes (by omega) (Ev.yes (by omega) ?_))
    refine ih (j + 1) _ (by simpa using hy) (by omega) (by omega) ?_
    rw [show ys.set j (wrap64 (Int.tdiv ys[j] 2)) = ys.set j (half ys[j]) from rfl, halfFrom_set _ j hlt]
    exact hg
theorem half_rows_impl (n : Nat) (d : Nat) : ∀ (i : Nat) (cur : List (List Int)), cur.length = n → n ≤ 1048576 → (∀ r ∈ cur, r.length ≤ 1048576) → i ≤ n → n - i = d → Ev (fun k => impl_SketchBump.l1 k (n : Int) (i : Int) cur) (cur.take i ++ (cur.drop i).map (·.map half), 0) := by
  induction d with
  | zero =>
    intro i cur hn hl hr hi hd
    refine Ev.succ ?_
    simp only [impl_SketchBump.l1]
    rw [List.drop_eq_nil_of_le (by omega), List.take_of_length_le (by omega)]
    simp only [List.map_nil, List.append_nil]
    exact Ev.no (by omega) (Ev.now _)
  | succ d ih =>
    intro i cur hn hl hr hi hd
    have hlt : i < cur.length := by omega
    refine Ev.succ ?_
    simp only [impl_SketchBump.l1]
    have hri := hr _ (List.getElem_mem hlt)
    refine Ev.yes (by omega) (Ev.yes (by omega) (Ev.yes (by omega) ?_))
    refine half_row_impl (n : Int) i _ cur hlt (by omega) (by rw [rdL_get cur i hlt]; exact hri) _ _ 0 _ rfl (by omega) rfl ?_
    rw [halfFrom_zero, rdL_get cur i hlt, ← take_cons_drop cur i (cur[i].map half) hlt (·.map half) rfl]
    refine ih (i + 1) _ (by simpa using hn) hl ?_ (by omega) (by omega)
    intro r hm
    rcases List.mem_or_eq_of_mem_set hm with hm | rfl
    · exact hr r hm
    · simpa using hri
def bumpRow (r : List Int) (p : Int) : List Int := r.set p.toNat (mn (rd r p + 1) 15)
def bumpL (pl : Nat → Int) : List (List Int) → Nat → List (List Int)
  | [], _ => []
  | r :: t, i => bumpRow r (pl i) :: bumpL pl t (i + 1)
def fin (rows : List (List Int)) (a : Int) : List (List Int) × Int := if a + 1 = 64 then (rows.map (·.map half), 0) else (rows, a + 1)
theorem set_rd (r : List Int) (p : Int) (h0 : 0 ≤ p) (h1 : p < (r.length : Int)) : r.set p.toNat (rd r p) = r := by
  have h : p.toNat < r.length := by omega
  have e : rd r p = r[p.toNat] := by
    have := rd_get r p.toNat h
    rwa [Int.toNat_of_nonneg h0] at this
  rw [e, List.set_getElem_self]
theorem rd_in {r : List Int} {p : Int} (h0 : 0 ≤ p) (h1 : p < (r.length : Int)) : rd r p ∈ r := by
  have h : p.toNat < r.length := by omega
  have e : rd r p = r[p.toNat] := by
    have := rd_get r p.toNat h
    rwa [Int.toNat_of_nonneg h0] at this
  rw [e]; exact List.getElem_mem h
theorem bump_set (pl : Nat → Int) (cur : List (List Int)) (i : Nat) (h : i < cur.length) : (cur.set i (bumpRow cur[i] (pl i))).take (i + 1) ++ bumpL pl ((cur.set i (bumpRow cur[i] (pl i))).drop (i + 1)) (i + 1) = cur.take i ++ bumpL pl (cur.drop i) i := by
  rw [take_set cur i _ h, List.drop_set_of_lt (by omega), drop_get cur i h, bumpL]
  simp
def rIn (r : List Int) : Prop := r.length = 16 ∧ ∀ n ∈ r, 0 ≤ n ∧ n ≤ 15
theorem bumpRow_in {r : List Int} {p : Int} (h0 : 0 ≤ p) (h1 : p < 16) (h : rIn r) : rIn (bumpRow r p) := by
  refine ⟨by simpa [bumpRow] using h.1, fun n hn => ?_⟩
  rcases List.mem_or_eq_of_mem_set hn with hn | rfl
  · exact h.2 n hn
  · have := h.2 _ (rd_in h0 (by have := h.1; omega))
    unfold mn; split <;> omega
theorem bump_spec_l (key : ByteArray) (a : Int) (ha : 0 ≤ a ∧ a ≤ 63) (pl : Nat → Int) (hp : ∀ i, 0 ≤ pl i ∧ pl i < 16 ∧ Ev (fun k => spec_SketchPlace.f k (i : Int) key) (pl i)) (d : Nat) : ∀ (i : Nat) (cur : List (List Int)), cur.length ≤ 1048576 → (∀ r ∈ cur, rIn r) → i ≤ cur.length → cur.length - i = d → Ev (fun k => spec_SketchBump.l0 k key (i : Int) cur a) (fin (cur.take i ++ bumpL pl (cur.drop i) i) a) := by
  induction d with
  | zero =>
    intro i cur hl hr hi hd
    refine Ev.succ ?_
    simp only [spec_SketchBump.l0]
    rw [List.drop_eq_nil_of_le (by omega), List.take_of_length_le (by omega), w64 (n := a + 1) (by omega) (by omega)]
    simp only [bumpL, List.append_nil]
    refine Ev.no (by omega) ?_
    unfold fin
    by_cases c : a + 1 = 64
    · rw [if_pos c]
      have := half_rows_spec cur.length 0 cur hl (fun r hm => by have := (hr r hm).1; omega) (by omega) (by omega)
      simp only [List.take_zero, List.drop_zero, List.nil_append] at this
      exact Ev.yes c this
    · rw [if_neg c]; exact Ev.no c (Ev.now _)
  | succ d ih =>
    intro i cur hl hr hi hd
    have hlt : i < cur.length := by omega
    have hri := hr _ (List.getElem_mem hlt)
    obtain ⟨p0, p1, pe⟩ := hp i
    refine Ev.succ ?_
    simp only [spec_SketchBump.l0, Int.toNat_natCast]
    rw [rdL_get cur i hlt, wnat i _ hlt (by omega)]
    have hb := hri.2 _ (rd_in p0 (by have := hri.1; omega))
    rw [← bump_set pl cur i hlt]
    have hnext : Ev (fun k => spec_SketchBump.l0 k key ((i + 1 : Nat) : Int) (cur.set i (bumpRow cur[i] (pl i))) a) (fin ((cur.set i (bumpRow cur[i] (pl i))).take (i + 1) ++ bumpL pl ((cur.set i (bumpRow cur[i] (pl i))).drop (i + 1)) (i + 1)) a) := by
      refine ih (i + 1) _ (by simpa using hl) ?_ (by simp; omega) (by simp; omega)
      intro r hm
      rcases List.mem_or_eq_of_mem_set hm with hm | rfl
      · exact hr r hm
      · exact bumpRow_in p0 p1 hri
    refine Ev.yes (by omega) (Ev.bind pe (Ev.yes (by omega) (Ev.yes p0 (Ev.yes (by have := hri.1; omega) ?_))))
    by_cases c : rd cur[i] (pl i) < 15
    · refine Ev.yes c ?_
      have e : bumpRow cur[i] (pl i) = cur[i].set (pl i).toNat (wrap64 (rd cur[i] (pl i) + 1)) := by
        rw [bumpRow, w64 (by omega) (by omega), mn_if, if_neg (by omega)]
      rw [e] at hnext ⊢
      exact hnext
    · refine Ev.no c ?_
      have e : bumpRow cur[i] (pl i) = cur[i] := by
        rw [bumpRow, mn_if, if_pos (by omega)]
        have h15 : rd cur[i] (pl i) = 15 := by omega
        rw [← h15]; exact set_rd _ _ p0 (by have := hri.1; omega)
      rw [e, List.set_getElem_self] at hnext
      rw [e, List.set_getElem_self]
      exact hnext
theorem bump_impl_l (key : ByteArray) (a : Int) (ha : 0 ≤ a ∧ a ≤ 63) (n : Nat) (hn : n ≤ 1048576) (pl : Nat → Int) (hp : ∀ i, 0 ≤ pl i ∧ pl i < 16 ∧ Ev (fun k => impl_SketchPlace.f k (i : Int) key) (pl i)) (d : Nat) : ∀ (i : Nat) (cur : List (List Int)), cur.length = n → (∀ r ∈ cur, rIn r) → i ≤ n → n - i = d → Ev (fun k => impl_SketchBump.l0 k key (n : Int) (i : Int) cur a) (fin (cur.take i ++ bumpL pl (cur.drop i) i) a) := by
  induction d with
  | zero =>
    intro i cur hl hr hi hd
    refine Ev.succ ?_
    simp only [impl_SketchBump.l0]
    rw [List.drop_eq_nil_of_le (by omega), List.take_of_length_le (by omega), w64 (n := a + 1) (by omega) (by omega)]
    simp only [bumpL, List.append_nil]
    refine Ev.no (by omega) ?_
    unfold fin
    by_cases c : a + 1 = 64
    · rw [if_pos c]
      have := half_rows_impl n n 0 cur hl hn (fun r hm => by have := (hr r hm).1; omega) (by omega) (by omega)
      simp only [List.take_zero, List.drop_zero, List.nil_append] at this
      exact Ev.no (by omega) this
    · rw [if_neg c]; exact Ev.yes (by omega) (Ev.now _)
  | succ d ih =>
    intro i cur hl hr hi hd
    have hlt : i < cur.length := by omega
    have hri := hr _ (List.getElem_mem hlt)
    obtain ⟨p0, p1, pe⟩ := hp i
    refine Ev.succ ?_
    simp only [impl_SketchBump.l0, Int.toNat_natCast]
    rw [rdL_get cur i hlt, wnat i _ hlt (by omega)]
    have hb := hri.2 _ (rd_in p0 (by have := hri.1; omega))
    rw [← bump_set pl cur i hlt]
    refine Ev.yes (by omega) (Ev.yes (by omega) (Ev.yes (by omega) (Ev.bind pe (Ev.yes p0 (Ev.yes (by have := hri.1; omega) ?_)))))
    rw [w64 (n := rd cur[i] (pl i) + 1) (by omega) (by omega)]
    refine ih (i + 1) _ (by simpa using hl) ?_ (by omega) (by omega)
    intro r hm
    rcases List.mem_or_eq_of_mem_set hm with hm | rfl
    · exact hr r hm
    · exact bumpRow_in p0 p1 hri
theorem copy_spec_l (l : List (List Int)) (a b : Int) (hl : l.length ≤ 1048576) (hg : ∀ r ∈ l, r.length ≤ 1048576) (d : Nat) : ∀ i : Nat, i ≤ l.length → l.length - i = d → Ev (fun k => spec_l12Copy.l0 k (i : Int) l b (l.take i) a) (l, a) := by
  induction d with
  | zero =>
    intro i hi hd
    refine Ev.succ ?_
    simp only [spec_l12Copy.l0]
    rw [List.take_of_length_le (by omega)]
    exact Ev.no (by omega) (Ev.now _)
  | succ d ih =>
    intro i hi hd
    have hlt : i < l.length := by omega
    have hr := hg _ (List.getElem_mem hlt)
    refine Ev.succ ?_
    simp only [spec_l12Copy.l0, Option.bind_some]
    rw [rdL_get l i hlt, wnat i _ hlt (by omega)]
    have h := ih (i + 1) (by omega) (by omega)
    rw [List.take_succ_eq_append_getElem hlt] at h
    exact Ev.yes (by omega) (Ev.yes (by omega) (Ev.yes (by simp only [List.length_nil]; omega) (Ev.yes (by rw [List.length_take]; omega) h)))
theorem copy_spec (l : List (List Int)) (a : Int) (hl : l.length ≤ 1048576) (hg : ∀ r ∈ l, r.length ≤ 1048576) : Ev (fun k => spec_l12Copy.f k l a) (l, a) := by
  simp only [spec_l12Copy.f]
  have h := copy_spec_l l a a hl hg l.length 0 (by omega) (by omega)
  rw [List.take_zero] at h
  exact h
theorem copy_impl_l (l : List (List Int)) (a : Int) (hl : l.length ≤ 1048576) (hg : ∀ r ∈ l, r.length ≤ 1048576) (d : Nat) : ∀ i : Nat, i ≤ l.length → l.length - i = d → Ev (fun k => impl_copySketch.l0 k l (l.length : Int) (i : Int) (l.take i) a) (l, a) := by
  induction d with
  | zero =>
    intro i hi hd
    refine Ev.succ ?_
    simp only [impl_copySketch.l0]
    rw [List.take_of_length_le (by omega)]
    exact Ev.no (by omega) (Ev.now _)
  | succ d ih =>
    intro i hi hd
    have hlt : i < l.length := by omega
    have hr := hg _ (List.getElem_mem hlt)
    refine Ev.succ ?_
    simp only [impl_copySketch.l0, impl_copyInts.f, Option.bind_some]
    rw [rdL_get l i hlt, wnat i _ hlt (by omega), if_pos (by simp only [List.length_nil]; omega)]
    simp only [Option.bind_some]
    have h := ih (i + 1) (by omega) (by omega)
    rw [List.take_succ_eq_append_getElem hlt] at h
    exact Ev.yes (by omega) (Ev.yes (by omega) (Ev.yes (by omega) (Ev.yes (by rw [List.length_take]; omega) h)))
theorem copy_impl (l : List (List Int)) (a : Int) (hl : l.length ≤ 1048576) (hg : ∀ r ∈ l, r.length ≤ 1048576) : Ev (fun k => impl_copySketch.f k l a) (l, a) := by
  simp only [impl_copySketch.f]
  have h := copy_impl_l l a hl hg l.length 0 (by omega) (by omega)
  rw [List.take_zero] at h
  exact h
/-- The place of a key in row i, by both. -/
noncomputable def plOf (key : ByteArray) (hk : key.size ≤ 140737488351232) (i : Nat) : Int := Classical.choose (place_of (i : Int) key hk)
theorem plOf_is (key : ByteArray) (hk : key.size ≤ 140737488351232) (i : Nat) : 0 ≤ plOf key hk i ∧ plOf key hk i < 16 ∧ Ev (fun k => spec_SketchPlace.f k (i : Int) key) (plOf key hk i) ∧ Ev (fun k => impl_SketchPlace.f k (i : Int) key) (plOf key hk i) := Classical.choose_spec (place_of (i : Int) key hk)
noncomputable def bumped (l : List (List Int)) (a : Int) (key : ByteArray) (hk : key.size ≤ 140737488351232) : List (List Int) × Int := if skOk l a = true then fin (bumpL (plOf key hk) l 0) a else (l, a)
theorem skOk_rin {l : List (List Int)} {a : Int} (h : skOk l a = true) : ∀ r ∈ l, rIn r := fun r hr => ⟨((skOk_rows h).2.2 r hr).1, ((skOk_rows h).2.2 r hr).2⟩
theorem bump_spec (l : List (List Int)) (a : Int) (key : ByteArray) (hk : key.size ≤ 140737488351232) (hl : l.length ≤ 1048576) (hg : ∀ r ∈ l, r.length ≤ 1048576) : Ev (fun k => spec_SketchBump.f k l a key) (bumped l a key hk) := by
  simp only [spec_SketchBump.f]
  refine Ev.bind (copy_spec l a hl hg) (Ev.bind (sk_spec l a hl) ?_)
  unfold bumped
  by_cases c : skOk l a = true
  · rw [if_pos c]
    have h := bump_spec_l key a (skOk_rows c).2.1 (plOf key hk) (fun i => ⟨(plOf_is key hk i).1, (plOf_is key hk i).2.1, (plOf_is key hk i).2.2.1⟩) l.length 0 l hl (skOk_rin c) (by omega) (by omega)
    simp only [List.take_zero, List.drop_zero, List.nil_append] at h
    exact Ev.yes c h
  · rw [if_neg c]; exact Ev.no c (Ev.now _)
theorem bump_impl (l : List (List Int)) (a : Int) (key : ByteArray) (hk : key.size ≤ 140737488351232) (hl : l.length ≤ 1048576) (hg : ∀ r ∈ l, r.length ≤ 1048576) : Ev (fun k => impl_SketchBump.f k l a key) (bumped l a key hk) := by
  simp only [impl_SketchBump.f]
  refine Ev.bind (copy_impl l a hl hg) (Ev.bind (sk_impl l a hl hg) ?_)
  unfold bumped
  by_cases c : skOk l a = true
  · rw [if_pos c]
    have h := bump_impl_l key a (skOk_rows c).2.1 l.length hl (plOf key hk) (fun i => ⟨(plOf_is key hk i).1, (plOf_is key hk i).2.1, (plOf_is key hk i).2.2.2⟩) l.length 0 l rfl (skOk_rin c) (by omega) (by omega)
    simp only [List.take_zero, List.drop_zero, List.nil_append] at h
    exact Ev.yes c h
  · rw [if_neg c]; exact Ev.no c (Ev.now _)
theorem bumpL_len (pl : Nat → Int) (l : List (List Int)) : ∀ i, (bumpL pl l i).length = l.length := by
  induction l with
  | nil => intro i; rfl
  | cons r t ih => intro i; simp [bumpL, ih]
theorem bumpL_in (pl : Nat → Int) (hp : ∀ i, 0 ≤ pl i ∧ pl i < 16) (l : List (List Int)) : ∀ i, (∀ r ∈ l, rIn r) → ∀ r ∈ bumpL pl l i, rIn r := by
  induction l with
  | nil => intro i _ r hr; simp [bumpL] at hr
  | cons q t ih =>
    intro i h r hr
    rcases List.mem_cons.mp hr with rfl | hr
    · exact bumpRow_in (hp i).1 (hp i).2 (h q (List.mem_cons_self ..))
    · exact ih (i + 1) (fun z hz => h z (List.mem_cons_of_mem _ hz)) r hr
end Go.Proofs.Ytoopdknphikgkaa.Q
namespace Go.Proofs.Ytoopdknphikgkaa.Q
open Go.RowKit Go.Proofs.YtoopdknphikgkaaW.PrintWords Go.Proofs.YtoopdknphikgkaaW.PrintLast Go.Proofs.YtoopdknphikgkaaW.PrintMore
theorem and255v (a : Int) : Go.bits .and .i64 a 255 = a % 256 := by
  unfold Go.bits
  simp only [IntKind.wrap_i64]
  have e1 : (BitVec.ofInt IntKind.i64.bits a).toNat = (a % 18446744073709551616).toNat := by rw [BitVec.toNat_ofInt]; rfl
  have e2 : (BitVec.ofInt IntKind.i64.bits 255).toNat = 2 ^ 8 - 1 := by decide
  rw [BitVec.toNat_and, e1, e2, Nat.and_two_pow_sub_one_eq_mod]
  omega
/-- A place in the code that is drawn from. -/
def cu (l : List Int) (i : Int) : Prop := (0 ≤ i ∧ i ≤ l.length) ∧ l.length ≤ 4611686018427387904
theorem byte_ok (l : List Int) (i h : Int) (hc : cu l i) : ∃ x i' h', spec_l01Byte.f l i h = some (x, i', h') ∧ 0 ≤ x ∧ x ≤ 255 ∧ cu l i' := by
  obtain ⟨⟨h0, h1⟩, hl⟩ := hc
  unfold spec_l01Byte.f
  by_cases c : i < (l.length : Int)
  · rw [if_pos c, if_pos h0, w64 (n := i + 1) (by omega) (by omega), and255v]
    exact ⟨_, _, _, rfl, by omega, by omega, ⟨by omega, by omega⟩, hl⟩
  · rw [if_neg c, and255v]
    exact ⟨_, _, _, rfl, by omega, by omega, ⟨by omega, by omega⟩, hl⟩
theorem below_ok (l : List Int) (i h n : Int) (hn : 1 ≤ n) (hc : cu l i) : ∃ x i' h', spec_l01Below.f l i h n = some (x, i', h') ∧ 0 ≤ x ∧ x < n ∧ cu l i' := by
  unfold spec_l01Below.f
  obtain ⟨x1, i1, g1, e1, a1, b1, c1⟩ := byte_ok l i h hc
  rw [if_neg (by omega), e1]
  simp only [Option.bind_some]
  by_cases c : n ≤ 256
  · rw [if_pos c, if_neg (by omega), Int.tmod_eq_emod_of_nonneg a1]
    exact ⟨_, _, _, rfl, Int.emod_nonneg _ (by omega), Int.emod_lt_of_pos _ (by omega), c1⟩
  · obtain ⟨x2, i2, g2, e2, a2, b2, c2⟩ := byte_ok l i1 g1 c1
    obtain ⟨x3, i3, g3, e3, a3, b3, c3⟩ := byte_ok l i2 g2 c2
    obtain ⟨x4, i4, g4, e4, a4, b4, c4⟩ := byte_ok l i3 g3 c3
    rw [if_neg c, e2]
    simp only [Option.bind_some]
    rw [e3]
    simp only [Option.bind_some]
    rw [e4]
    simp only [Option.bind_some]
    rw [w64 (n := x1 * 16777216) (by omega) (by omega), w64 (n := x2 * 65536) (by omega) (by omega), w64 (n := x3 * 256) (by omega) (by omega), w64 (n := x1 * 16777216 + x2 * 65536) (by omega) (by omega), w64 (n := x1 * 16777216 + x2 * 65536 + x3 * 256) (by omega) (by omega),
      w64 (n := x1 * 16777216 + x2 * 65536 + x3 * 256 + x4) (by omega) (by omega), if_neg (by omega), Int.tmod_eq_emod_of_nonneg (by omega)]
    exact ⟨_, _, _, rfl, Int.emod_nonneg _ (by omega), Int.emod_lt_of_pos _ (by omega), c4⟩
theorem belowP (l : List Int) (i h n : Int) (hn : 1 ≤ n) (hc : cu l i) : EvP (fun _ => spec_l01Below.f l i h n) (fun r => (0 ≤ r.1 ∧ r.1 < n) ∧ cu l r.2.1) := by
  obtain ⟨x, i', h', e, a, b, c⟩ := below_ok l i h n hn hc
  exact EvP.const e ⟨⟨a, b⟩, c⟩
theorem cu_zero {l : List Int} (hl : l.length ≤ 4611686018427387904) : cu l 0 := ⟨⟨by omega, by omega⟩, hl⟩
theorem newP_l (l : List Int) (hl : l.length ≤ 4611686018427387904) (d : Nat) : ∀ (h : Int) (i : Nat), i ≤ l.length → l.length - i = d → EvP (fun k => spec_l01New.l0 k l h (i : Int)) (fun r => r.1 = l ∧ cu l r.2.1) := by
  induction d with
  | zero => intro h i hi hd; refine EvP.succ ?_; simp only [spec_l01New.l0]; exact EvP.no (by omega) (EvP.ret ⟨rfl, cu_zero hl⟩)
  | succ d ih =>
    intro h i hi hd
    have hlt : i < l.length := by omega
    refine EvP.succ ?_
    simp only [spec_l01New.l0]
    refine EvP.yes (by omega) (EvP.ite (fun c => EvP.yes (by omega) ?_) (fun c => EvP.ret ⟨rfl, cu_zero hl⟩))
    rw [wnat i _ hlt (by omega)]
    exact ih _ (i + 1) (by omega) (by omega)
theorem newP (l : List Int) (hl : l.length ≤ 4611686018427387904) : EvP (fun k => spec_l01New.f k l) (fun r => r.1 = l ∧ cu l r.2.1) := newP_l l hl l.length _ 0 (by omega) (by omega)
end Go.Proofs.Ytoopdknphikgkaa.Q
namespace Go.Proofs.Ytoopdknphikgkaa.Q
open Go.RowKit Go.Proofs.YtoopdknphikgkaaW.PrintWords Go.Proofs.YtoopdknphikgkaaW.PrintLast Go.Proofs.YtoopdknphikgkaaW.PrintMore
theorem bytes_same {a b : ByteArray} (h : a.toList = b.toList) : a = b := by
  rw [ByteArray.toList_eq, ByteArray.toList_eq] at h
  cases a; cases b; congr; exact Array.toList_inj.mp h
theorem Ev.of_mono {α : Type} {g : Nat → Option α} {r : α} (hm : ∀ k, LeO (g k) (g (k + 1))) (K : Nat) (h : g K = some r) : Ev g r := by
  refine ⟨K, fun k hk => ?_⟩
  induction k with
  | zero => obtain rfl : K = 0 := by omega
            exact h
  | succ k ih =>
    by_cases c : K = k + 1
    · rw [← c]; exact h
    · exact hm k _ (ih (by omega))
theorem guess_impl (l : List (List Int)) (a : Int) (key : ByteArray) (hk : key.size ≤ 140737488351232) (hl : l.length ≤ 1048576) (c : skOk l a = true) : Ev (fun k => impl_SketchGuess.f k l a key) (gsL (plOf key hk) l 0 15) := by
  simp only [impl_SketchGuess.f]
  have hr := fun r hr => ((skOk_rows c).2.2 r hr).1
  have i := sk_impl l a hl (fun r h => by have := hr r h; omega)
  rw [c] at i
  have h := guess_impl_l l key (plOf key hk) (fun i => ⟨(plOf_is key hk i).1, (plOf_is key hk i).2.1, (plOf_is key hk i).2.2.2⟩) hl hr l.length 0 15 (by omega) (by omega)
  unfold gs at h
  rw [List.drop_zero] at h
  exact Ev.bind i (Ev.yes rfl h)
theorem skOk_of {l : List (List Int)} {a : Int} (hl : l.length = 3) (ha : 0 ≤ a ∧ a ≤ 63) (hr : ∀ r ∈ l, rIn r) : skOk l a = true := by
  simp only [skOk, Bool.and_eq_true, decide_eq_true_eq, List.all_eq_true, rOk, nOk]
  exact ⟨hl, ha, fun r h => ⟨(hr r h).1, fun n hn => (hr r h).2 n hn⟩⟩
theorem new_impl : Ev (fun k => impl_SketchNew.f k) (List.replicate 3 (List.replicate 16 0), 0) := Ev.of_mono impl_SketchNew.mono 60 (by decide +kernel)
theorem new_rin : ∀ r ∈ List.replicate 3 (List.replicate 16 (0 : Int)), rIn r := fun r hr => by
  obtain rfl := (List.mem_replicate.mp hr).2
  exact ⟨by simp, fun n hn => by obtain rfl := (List.mem_replicate.mp hn).2; omega⟩
noncomputable def plT (key : ByteArray) (i : Nat) : Int := if h : key.size ≤ 140737488351232 then plOf key h i else 0
theorem plT_eq (key : ByteArray) (h : key.size ≤ 140737488351232) : plT key = plOf key h := by funext i; unfold plT; rw [dif_pos h]
theorem plT_in (key : ByteArray) (i : Nat) : 0 ≤ plT key i ∧ plT key i < 16 := by
  unfold plT
  by_cases h : key.size ≤ 140737488351232
  · rw [dif_pos h]; exact ⟨(plOf_is key h i).1, (plOf_is key h i).2.1⟩
  · rw [dif_neg h]; omega
noncomputable def bumpT (l : List (List Int)) (n : Int) (key : ByteArray) : List (List Int) × Int := if skOk l n = true then fin (bumpL (plT key) l 0) n else (l, n)
theorem bumpT_eq (l : List (List Int)) (n : Int) (key : ByteArray) (hk : key.size ≤ 140737488351232) : bumped l n key hk = bumpT l n key := by unfold bumpT bumped; rw [plT_eq key hk]
noncomputable def gT (l : List (List Int)) (key : ByteArray) : Int := gsL (plT key) l 0 15
theorem half_in {v : Int} (h : 0 ≤ v ∧ v ≤ 15) : 0 ≤ half v ∧ half v ≤ 7 := by
  unfold half
  rw [Int.tdiv_eq_ediv_of_nonneg h.1, w64 (by omega) (by omega)]
  omega
theorem halved_in {l : List (List Int)} (h : ∀ r ∈ l, rIn r) : ∀ r ∈ l.map (·.map half), r.length = 16 ∧ ∀ n ∈ r, 0 ≤ n ∧ n ≤ 7 := by
  intro r hr
  obtain ⟨q, hq, rfl⟩ := List.mem_map.mp hr
  refine ⟨by rw [List.length_map]; exact (h q hq).1, fun n hn => ?_⟩
  obtain ⟨m, hm, rfl⟩ := List.mem_map.mp hn
  exact half_in ((h q hq).2 m hm)
theorem bumpT_in (l : List (List Int)) (n : Int) (key : ByteArray) (c : skOk l n = true) : (bumpT l n key).1.length = 3 ∧ (0 ≤ (bumpT l n key).2 ∧ (bumpT l n key).2 ≤ 63) ∧ (∀ r ∈ (bumpT l n key).1, rIn r) ∧ ((bumpT l n key).2 = 0 → ∀ r ∈ (bumpT l n key).1, r.length = 16 ∧ ∀ n ∈ r, 0 ≤ n ∧ n ≤ 7) := by
  have hs := skOk_rows c
  have hb := bumpL_in (plT key) (plT_in key) l 0 (skOk_rin c)
  unfold bumpT
  rw [if_pos c]
  unfold fin
  by_cases q : n + 1 = 64
  · rw [if_pos q]
    have hh := halved_in hb
    exact ⟨by rw [List.length_map, bumpL_len]; exact hs.1, by omega, fun r hr => ⟨(hh r hr).1, fun n hn => by have := (hh r hr).2 n hn; omega⟩, fun _ => hh⟩
  · rw [if_neg q]
    exact ⟨by rw [bumpL_len]; exact hs.1, by show 0 ≤ n + 1 ∧ n + 1 ≤ 63; omega, hb, fun h => absurd h (by show ¬ n + 1 = 0; omega)⟩
theorem bumpT_ok (l : List (List Int)) (n : Int) (key : ByteArray) (c : skOk l n = true) : skOk (bumpT l n key).1 (bumpT l n key).2 = true := skOk_of (bumpT_in l n key c).1 (bumpT_in l n key c).2.1 (bumpT_in l n key c).2.2.1
/-- The bounds of a sketch that may be no right one. -/
def Sz (l : List (List Int)) : Prop := l.length ≤ 1048576 ∧ ∀ r ∈ l, r.length ≤ 1048576
theorem Sz.of_ok {l : List (List Int)} {n : Int} (c : skOk l n = true) : Sz l := ⟨by have := (skOk_rows c).1; omega, fun r hr => by have := ((skOk_rows c).2.2 r hr).1; omega⟩
theorem bumpT_impl (l : List (List Int)) (n : Int) (key : ByteArray) (hk : key.size ≤ 140737488351232) (h : Sz l) : Ev (fun k => impl_SketchBump.f k l n key) (bumpT l n key) := bumpT_eq l n key hk ▸ bump_impl l n key hk h.1 h.2
theorem bumpT_spec (l : List (List Int)) (n : Int) (key : ByteArray) (hk : key.size ≤ 140737488351232) (h : Sz l) : Ev (fun k => spec_SketchBump.f k l n key) (bumpT l n key) := bumpT_eq l n key hk ▸ bump_spec l n key hk h.1 h.2
theorem gT_impl (l : List (List Int)) (a : Int) (key : ByteArray) (hk : key.size ≤ 140737488351232) (c : skOk l a = true) : Ev (fun k => impl_SketchGuess.f k l a key) (gT l key) := by
  have h := guess_impl l a key hk (by have := (skOk_rows c).1; omega) c
  rwa [← plT_eq key hk] at h
theorem gT_spec (l : List (List Int)) (a : Int) (key : ByteArray) (hk : key.size ≤ 140737488351232) (c : skOk l a = true) : Ev (fun k => spec_SketchGuess.f k l a key) (gT l key) := by
  unfold gT
  rw [plT_eq key hk]
  simp only [spec_SketchGuess.f]
  have hl := (skOk_rows c).1
  have hr := fun r hr => ((skOk_rows c).2.2 r hr).1
  have i := sk_spec l a (by omega)
  rw [c] at i
  have h := guess_spec_l l a key (plOf key hk) (fun i => ⟨(plOf_is key hk i).1, (plOf_is key hk i).2.1, (plOf_is key hk i).2.2.1⟩) (by omega) hr l.length 0 15 (by omega) (by omega)
  unfold gs at h
  rw [List.drop_zero] at h
  exact Ev.bind i (Ev.yes rfl h)
theorem keyP2 (l : List Int) (i h : Int) (hc : cu l i) : EvP (fun _ => spec_l12Key.f l i h) (fun r => r.1.size = 2 ∧ cu l r.2.1) := by
  simp only [spec_l12Key.f, spec_l01Pick.f]
  obtain ⟨x, i', h', e, a, b, c⟩ := below_ok l i h 8 (by omega) hc
  have hx : ∀ m : Fin 8, (rdOf ByteArray.empty ([(⟨#[47, 97]⟩ : ByteArray), (⟨#[47, 98]⟩ : ByteArray), (⟨#[47, 99]⟩ : ByteArray), (⟨#[47, 100]⟩ : ByteArray), (⟨#[47, 101]⟩ : ByteArray), (⟨#[47, 102]⟩ : ByteArray), (⟨#[47, 103]⟩ : ByteArray), (⟨#[47, 104]⟩ : ByteArray)] : List ByteArray) ((m.val : Nat) : Int)).size = 2 := by decide
  have hm := hx ⟨x.toNat, by omega⟩
  rw [show (((⟨x.toNat, by omega⟩ : Fin 8).val : Nat) : Int) = x from Int.toNat_of_nonneg a] at hm
  refine ⟨_, Ev.const (by
    rw [show ((([(⟨#[47, 97]⟩ : ByteArray), (⟨#[47, 98]⟩ : ByteArray), (⟨#[47, 99]⟩ : ByteArray), (⟨#[47, 100]⟩ : ByteArray), (⟨#[47, 101]⟩ : ByteArray), (⟨#[47, 102]⟩ : ByteArray), (⟨#[47, 103]⟩ : ByteArray), (⟨#[47, 104]⟩ : ByteArray)] : List ByteArray).length : Nat) : Int) = 8 from rfl, e]
    simp only [Option.bind_some]
    rw [if_pos a, if_pos b]
    simp only [Option.bind_some]; rfl), hm, c⟩
theorem new_spec : Ev (fun k => spec_SketchNew.f k) (List.replicate 3 (List.replicate 16 0), 0) := Ev.of_mono spec_SketchNew.mono 60 (by decide +kernel)
theorem new_ok : skOk (List.replicate 3 (List.replicate 16 (0 : Int))) 0 = true := skOk_of (by simp) (by omega) new_rin
end Go.Proofs.Ytoopdknphikgkaa.Q
namespace Go.Proofs.Ytoopdknphikgkaa.Q
open Go.RowKit Go.Proofs.YtoopdknphikgkaaW.PrintWords Go.Proofs.YtoopdknphikgkaaW.PrintLast Go.Proofs.YtoopdknphikgkaaW.PrintMore
theorem same_ints_l (r : List Int) (hl : r.length ≤ 1048576) (d : Nat) : ∀ i : Nat, i ≤ r.length → r.length - i = d → Ev (fun k => laws_sameInts.l0 k r r (i : Int)) true := by
  induction d with
  | zero => intro i hi hd; refine Ev.succ ?_; simp only [laws_sameInts.l0]; exact Ev.no (by omega) (Ev.now _)
  | succ d ih =>
    intro i hi hd
    refine Ev.succ ?_
    simp only [laws_sameInts.l0]
    rw [wnat i r.length (by omega) (by omega)]
    exact Ev.yes (by omega) (Ev.yes (by omega) (Ev.yes (by omega) (Ev.yes trivial (ih (i + 1) (by omega) (by omega)))))
theorem same_ints (r : List Int) (hl : r.length ≤ 1048576) : Ev (fun k => laws_sameInts.f k r r) true := by
  simp only [laws_sameInts.f]
  exact Ev.yes trivial (same_ints_l r hl r.length 0 (by omega) (by omega))
theorem same_sk_l (l : List (List Int)) (a : Int) (h : Sz l) (d : Nat) : ∀ i : Nat, i ≤ l.length → l.length - i = d → Ev (fun k => laws_sameSketch.l0 k (i : Int) l a l a) true := by
  have hl := h.1
  induction d with
  | zero => intro i hi hd; refine Ev.succ ?_; simp only [laws_sameSketch.l0]; exact Ev.no (by omega) (Ev.now _)
  | succ d ih =>
    intro i hi hd
    have hlt : i < l.length := by omega
    refine Ev.succ ?_
    simp only [laws_sameSketch.l0]
    rw [rdL_get l i hlt, wnat i l.length (by omega) (by omega)]
    exact Ev.yes (by omega) (Ev.yes (by omega) (Ev.yes (by omega) (Ev.bind (same_ints _ (h.2 _ (List.getElem_mem hlt))) (Ev.yes rfl (ih (i + 1) (by omega) (by omega))))))
theorem same_sk (l : List (List Int)) (a : Int) (h : Sz l) : Ev (fun k => laws_sameSketch.f k l a l a) true := by
  simp only [laws_sameSketch.f]
  refine Ev.yes trivial (Ev.succ ?_)
  simp only [laws_sameSketch.j0]
  exact Ev.no (by simp) (same_sk_l l a h l.length 0 (by omega) (by omega))
end Go.Proofs.Ytoopdknphikgkaa.Q
namespace Go.Proofs.Ytoopdknphikgkaa.Q
open Go.RowKit Go.Proofs.YtoopdknphikgkaaW.PrintWords Go.Proofs.YtoopdknphikgkaaW.PrintLast Go.Proofs.YtoopdknphikgkaaW.PrintMore
def dropK (key : ByteArray) (l : List ByteArray) : List ByteArray := l.filter fun x => !(x.toList == key.toList)
theorem without_l (l : List ByteArray) (key : ByteArray) (hl : l.length ≤ 1048576) (d : Nat) : ∀ i : Nat, i ≤ l.length → l.length - i = d → ∀ o : List ByteArray, o.length ≤ i → Ev (fun k => spec_l13Without.l0 k l key o (i : Int)) (o ++ dropK key (l.drop i)) := by
  induction d with
  | zero => intro i hi hd o ho; refine Ev.succ ?_; simp only [spec_l13Without.l0]; rw [List.drop_eq_nil_of_le (by omega), dropK, List.filter_nil, List.append_nil]; exact Ev.no (by omega) (Ev.now _)
  | succ d ih =>
    intro i hi hd o ho
    have hlt : i < l.length := by omega
    refine Ev.succ ?_
    simp only [spec_l13Without.l0]
    rw [rdS_get l i hlt, wnat i _ hlt (by omega), drop_get l i hlt]
    refine Ev.yes (by omega) (Ev.yes (by omega) ?_)
    by_cases c : l[i].toList = key.toList
    · rw [dropK, List.filter_cons_of_neg (by simp [c])]; exact Ev.yes c (ih (i + 1) (by omega) (by omega) o (by omega))
    · have h := ih (i + 1) (by omega) (by omega) (o ++ [l[i]]) (by simp; omega)
      rw [List.append_assoc, List.singleton_append] at h
      rw [dropK, List.filter_cons_of_pos (by simp [c])]
      exact Ev.no c (Ev.yes (by omega) h)
theorem without_spec (l : List ByteArray) (key : ByteArray) (hl : l.length ≤ 1048576) : Ev (fun k => spec_l13Without.f k l key) (dropK key l) := by
  simp only [spec_l13Without.f]
  have h := without_l l key hl l.length 0 (by omega) (by omega) [] (by simp)
  rw [List.drop_zero, List.nil_append] at h
  exact h
theorem copy_texts (l : List ByteArray) (hl : l.length ≤ 1048576) : impl_copyTexts.f l = some l := by
  simp only [impl_copyTexts.f, Option.bind_some, List.length_nil, List.nil_append]
  rw [if_pos (by omega)]
theorem without_impl (l : List ByteArray) (key : ByteArray) (hl : l.length ≤ 1048576) : impl_withoutKey.f l key = some (dropK key l) := by
  unfold impl_withoutKey.f
  rw [copy_texts l hl]
  rfl
theorem hasB_mem (l : List ByteArray) (key : ByteArray) : hasB l key = true ↔ key ∈ l := by
  unfold hasB
  rw [List.any_eq_true]
  constructor
  · rintro ⟨b, hb, h⟩
    rw [← bytes_same (of_decide_eq_true h)]; exact hb
  · intro h; exact ⟨key, h, decide_eq_true rfl⟩
theorem hasB_not (l : List ByteArray) (key : ByteArray) : hasB l key = false ↔ key ∉ l := by
  rw [← Bool.not_eq_true, hasB_mem]
theorem dropK_mem (key : ByteArray) (l : List ByteArray) (x : ByteArray) : x ∈ dropK key l ↔ x ∈ l ∧ x ≠ key := by
  unfold dropK
  rw [List.mem_filter]
  constructor
  · rintro ⟨h1, h2⟩
    refine ⟨h1, fun e => ?_⟩
    subst e; simp at h2
  · rintro ⟨h1, h2⟩
    refine ⟨h1, ?_⟩
    rw [Bool.not_eq_true', beq_eq_false_iff_ne]
    exact fun e => h2 (bytes_same e)
theorem dropK_not (key : ByteArray) (l : List ByteArray) (h : key ∉ l) : dropK key l = l := by
  unfold dropK
  rw [List.filter_eq_self]
  intro x hx
  rw [Bool.not_eq_true', beq_eq_false_iff_ne]
  intro e
  exact h (bytes_same e ▸ hx)
theorem dropK_same (key : ByteArray) (t : List ByteArray) : dropK key (key :: t) = dropK key t := by
  unfold dropK
  rw [List.filter_cons_of_neg (by simp)]
theorem dropK_other (key x : ByteArray) (t : List ByteArray) (h : x ≠ key) : dropK key (x :: t) = x :: dropK key t := by
  unfold dropK
  rw [List.filter_cons_of_pos (by rw [Bool.not_eq_true', beq_eq_false_iff_ne]; exact fun e => h (bytes_same e))]
theorem dropK_perm (key : ByteArray) (l : List ByteArray) (hn : l.Nodup) (hm : key ∈ l) : (dropK key l ++ [key]).Perm l := by
  induction l with
  | nil => exact absurd hm (by simp)
  | cons x t ih =>
    rw [List.nodup_cons] at hn
    by_cases c : x = key
    · subst c
      rw [dropK_same, dropK_not x t hn.1]
      exact List.perm_append_singleton x t
    · rw [dropK_other key x t c, List.cons_append]
      exact (ih hn.2 (by rcases List.mem_cons.mp hm with h | h; exact absurd h.symm c; exact h)).cons x
theorem dropK_le (key : ByteArray) (l : List ByteArray) : (dropK key l).length ≤ l.length := List.length_filter_le _ _
theorem kOk_iff (T : Bool) (l : List ByteArray) : ∀ pre : List ByteArray, kOk T pre l = true ↔ T = true ∧ (∀ x ∈ l, keyOk x = true ∧ x ∉ pre) ∧ l.Nodup := by
  induction l with
  | nil => intro pre; simp [kOk]
  | cons b r ih =>
    intro pre
    rw [kOk]
    constructor
    · intro h
      by_cases c : keyOk b = true
      · rw [if_pos c] at h
        by_cases c2 : hasB pre b = true
        · rw [if_pos c2] at h; exact absurd h (by simp)
        · rw [if_neg c2] at h
          obtain ⟨h1, h2, h3⟩ := (ih _).mp h
          have hb : b ∉ pre := fun e => c2 ((hasB_mem pre b).mpr e)
          refine ⟨h1, fun x hx => ?_, ?_⟩
          · rcases List.mem_cons.mp hx with rfl | hx
            · exact ⟨c, hb⟩
            · exact ⟨(h2 x hx).1, fun e => (h2 x hx).2 (List.mem_append_left _ e)⟩
          · rw [List.nodup_cons]
            exact ⟨fun e => (h2 b e).2 (List.mem_append_right _ (List.mem_singleton.mpr rfl)), h3⟩
      · rw [if_neg c] at h; exact absurd h (by simp)
    · rintro ⟨h1, h2, h3⟩
      rw [List.nodup_cons] at h3
      have hb := h2 b (List.mem_cons_self ..)
      rw [if_pos hb.1, if_neg (fun e => hb.2 ((hasB_mem pre b).mp e))]
      refine (ih _).mpr ⟨h1, fun x hx => ?_, h3.2⟩
      refine ⟨(h2 x (List.mem_cons_of_mem _ hx)).1, fun e => ?_⟩
      rcases List.mem_append.mp e with e | e
      · exact (h2 x (List.mem_cons_of_mem _ hx)).2 e
      · rw [List.mem_singleton.mp e] at hx; exact h3.1 hx
/-- A right policy. -/
structure Rt (a b : List ByteArray) (l : List (List Int)) (n : Int) : Prop where
  nd : (a ++ b).Nodup
  ky : ∀ x ∈ a ++ b, keyOk x = true
  la : a.length ≤ 2
  lb : b.length ≤ 4
  sk : skOk l n = true
theorem polOk_iff (a b : List ByteArray) (l : List (List Int)) (n : Int) : polOk a b l n = true ↔ Rt a b l n := by
  unfold polOk
  rw [kOk_iff]
  unfold polT
  constructor
  · rintro ⟨h1, h2, h3⟩
    by_cases c : (a.length : Int) ≤ 2
    · rw [if_pos c] at h1
      by_cases c2 : (b.length : Int) ≤ 4
      · rw [if_pos c2] at h1
        exact ⟨h3, fun x hx => (h2 x hx).1, by omega, by omega, h1⟩
      · rw [if_neg c2] at h1; exact absurd h1 (by simp)
    · rw [if_neg c] at h1; exact absurd h1 (by simp)
  · intro h
    have := h.la
    have := h.lb
    rw [if_pos (by omega), if_pos (by omega)]
    exact ⟨h.sk, fun x hx => ⟨h.ky x hx, by simp⟩, h.nd⟩
theorem keyOk_size {x : ByteArray} (h : keyOk x = true) : 1 ≤ x.size ∧ x.size ≤ 30 := by
  have := of_decide_eq_true h
  omega
theorem Rt.pol {a b : List ByteArray} {l : List (List Int)} {n : Int} (h : Rt a b l n) : PolOk a b l := by
  have h1 := h.la
  have h2 := h.lb
  have hz := Sz.of_ok h.sk
  exact ⟨by omega, by omega, hz.1, hz.2, fun s hs => by have := keyOk_size (h.ky s (List.mem_append_left _ hs)); omega, fun s hs => by have := keyOk_size (h.ky s (List.mem_append_right _ hs)); omega⟩
theorem rd0_mem (l : List ByteArray) (h : 0 < l.length) : rdOf ByteArray.empty l 0 ∈ l := by
  have e := rdS_get l 0 h
  rw [show ((0 : Nat) : Int) = 0 from rfl] at e
  rw [e]
  exact List.getElem_mem h
noncomputable def touch (a b : List ByteArray) (l : List (List Int)) (n : Int) (key : ByteArray) : List ByteArray × List ByteArray × List (List Int) × Int × ByteArray :=
  if polOk a b l n = true ∧ keyOk key = true then
    (if hasB b key = true then (a, dropK key b ++ [key], (bumpT l n key).1, (bumpT l n key).2, (⟨#[]⟩ : ByteArray))
    else if ((dropK key a ++ [key]).length : Int) ≤ 2 then (dropK key a ++ [key], b, (bumpT l n key).1, (bumpT l n key).2, (⟨#[]⟩ : ByteArray))
    else if (b.length : Int) < 4 then ((dropK key a ++ [key]).drop 1, b ++ [rdOf ByteArray.empty (dropK key a ++ [key]) 0], (bumpT l n key).1, (bumpT l n key).2, (⟨#[]⟩ : ByteArray))
    else if gT (bumpT l n key).1 (rdOf ByteArray.empty (dropK key a ++ [key]) 0) > gT (bumpT l n key).1 (rdOf ByteArray.empty b 0) then ((dropK key a ++ [key]).drop 1, b.drop 1 ++ [rdOf ByteArray.empty (dropK key a ++ [key]) 0], (bumpT l n key).1, (bumpT l n key).2, rdOf ByteArray.empty b 0)
    else ((dropK key a ++ [key]).drop 1, b, (bumpT l n key).1, (bumpT l n key).2, rdOf ByteArray.empty (dropK key a ++ [key]) 0))
  else (a, b, l, n, (⟨#[]⟩ : ByteArray))
theorem copy_pol_impl (a b : List ByteArray) (l : List (List Int)) (n : Int) (h : PolOk a b l) : Ev (fun k => impl_copyPolicy.f k a b l n) (a, b, l, n) := by
  simp only [impl_copyPolicy.f]
  exact Ev.via (copy_texts a h.ha) (Ev.via (copy_texts b h.hb) (Ev.bind (copy_impl l n h.hl h.hg) (Ev.now _)))
theorem copy_pol_spec (a b : List ByteArray) (l : List (List Int)) (n : Int) (h : PolOk a b l) : Ev (fun k => spec_l13Copy.f k a b l n) (a, b, l, n) := by
  have h1 := h.ha
  have h2 := h.hb
  simp only [spec_l13Copy.f, Option.bind_some, List.length_nil, List.nil_append]
  exact Ev.yes (by omega) (Ev.yes (by omega) (Ev.bind (copy_spec l n h.hl h.hg) (Ev.now _)))
theorem touch_impl (a b : List ByteArray) (l : List (List Int)) (n : Int) (key : ByteArray) (h : PolOk a b l) : Ev (fun k => impl_PolicyTouch.f k a b l n key) (touch a b l n key) := by
  have ha := h.ha
  have hb := h.hb
  simp only [impl_PolicyTouch.f]
  refine Ev.bind (copy_pol_impl a b l n h) (Ev.bind (pol_impl a b l n h) ?_)
  unfold touch
  by_cases c : polOk a b l n = true
  · refine Ev.yes c ?_
    refine Ev.via (a := keyOk key) (by simp only [impl_isKey.f, in_impl, Option.bind_some]; rfl) ?_
    by_cases c2 : keyOk key = true
    · rw [if_pos ⟨c, c2⟩, c2]
      have hsz := keyOk_size c2
      have hok := (polOk_iff a b l n).mp c
      have hok2 := bumpT_ok l n key hok.sk
      refine Ev.succ ?_
      simp only [impl_PolicyTouch.j0]
      refine Ev.no (by simp) (Ev.bind (bumpT_impl l n key (by omega) (Sz.of_ok hok.sk)) (Ev.bind (contains_ev b key (by omega)) ?_))
      by_cases c3 : hasB b key = true
      · rw [if_pos c3]
        have := dropK_le key b
        exact Ev.yes c3 (Ev.via (without_impl b key hb) (Ev.yes (by omega) (Ev.now _)))
      · rw [if_neg c3]
        have hd := dropK_le key a
        have hyl : (dropK key a ++ [key]).length = (dropK key a).length + 1 := by rw [List.length_append]; rfl
        have hym : ∀ x ∈ dropK key a ++ [key], x.size ≤ 1048576 := by
          intro x hx
          rcases List.mem_append.mp hx with hx | hx
          · exact h.sa x ((dropK_mem key a x).mp hx).1
          · rw [List.mem_singleton.mp hx]; omega
        refine Ev.no c3 (Ev.via (without_impl a key ha) (Ev.yes (by omega) ?_))
        simp only [Option.bind_some]
        by_cases c4 : ((dropK key a ++ [key]).length : Int) ≤ 2
        · rw [if_pos c4]; exact Ev.yes c4 (Ev.now _)
        · rw [if_neg c4]
          refine Ev.no c4 (Ev.yes (by omega) (Ev.yes (by omega) ?_))
          by_cases c5 : (b.length : Int) < 4
          · rw [if_pos c5]; exact Ev.yes c5 (Ev.yes (by omega) (Ev.now _))
          · rw [if_neg c5]
            have g1 := gT_impl (bumpT l n key).1 (bumpT l n key).2 (rdOf ByteArray.empty (dropK key a ++ [key]) 0) (by have := hym _ (rd0_mem _ (by omega)); omega) hok2
            have g2 := gT_impl (bumpT l n key).1 (bumpT l n key).2 (rdOf ByteArray.empty b 0) (by have := h.sb _ (rd0_mem b (by omega)); omega) hok2
            refine Ev.no c5 (Ev.yes (by omega) (Ev.bind g1 (Ev.bind g2 ?_)))
            by_cases c6 : gT (bumpT l n key).1 (rdOf ByteArray.empty (dropK key a ++ [key]) 0) > gT (bumpT l n key).1 (rdOf ByteArray.empty b 0)
            · refine Ev.yes c6 ?_
              rw [if_pos c6]
              exact Ev.yes (by omega) (Ev.yes (by have := List.length_drop (i := (1 : Int).toNat) (l := b); omega) (Ev.now _))
            · refine Ev.no c6 ?_
              rw [if_neg c6]; exact Ev.now _
    · rw [if_neg (fun e => c2 e.2), Bool.eq_false_iff.mpr c2]
      refine Ev.succ ?_
      simp only [impl_PolicyTouch.j0]
      exact Ev.yes (by simp) (Ev.now _)
  · rw [if_neg (fun e => c e.1)]
    refine Ev.no c (Ev.succ ?_)
    simp only [impl_PolicyTouch.j0]
    exact Ev.yes trivial (Ev.now _)
theorem touch_spec (a b : List ByteArray) (l : List (List Int)) (n : Int) (key : ByteArray) (h : PolOk a b l) : Ev (fun k => spec_PolicyTouch.f k a b l n key) (touch a b l n key) := by
  have ha := h.ha
  have hb := h.hb
  simp only [spec_PolicyTouch.f]
  refine Ev.bind (copy_pol_spec a b l n h) (Ev.bind (pol_spec a b l n h) ?_)
  unfold touch
  by_cases c : polOk a b l n = true
  · refine Ev.yes c ?_
    refine Ev.via (a := keyOk key) (by simp only [spec_l13Key.f, in_spec, Option.bind_some]; rfl) ?_
    by_cases c2 : keyOk key = true
    · rw [if_pos ⟨c, c2⟩, c2]
      have hsz := keyOk_size c2
      have hok := (polOk_iff a b l n).mp c
      have hok2 := bumpT_ok l n key hok.sk
      have hap := List.nodup_append.mp hok.nd
      refine Ev.succ ?_
      simp only [spec_PolicyTouch.j0]
      refine Ev.no (by simp) (Ev.bind (bumpT_spec l n key (by omega) (Sz.of_ok hok.sk)) (Ev.bind (in_list a key (by omega)) ?_))
      by_cases c0 : hasB a key = true
      · have hma := (hasB_mem a key).mp c0
        have hnb : key ∉ b := fun e => hap.2.2 key hma key e rfl
        have hp := (dropK_perm key a hap.1 hma).length_eq
        have := hok.la
        rw [if_neg (fun e => hnb ((hasB_mem b key).mp e)), if_pos (by omega)]
        have := dropK_le key a
        exact Ev.yes c0 (Ev.bind (without_spec a key ha) (Ev.yes (by omega) (Ev.now _)))
      · have hna : key ∉ a := fun e => c0 ((hasB_mem a key).mpr e)
        refine Ev.no c0 (Ev.bind (in_list b key (by omega)) ?_)
        by_cases c3 : hasB b key = true
        · rw [if_pos c3]
          have := dropK_le key b
          exact Ev.yes c3 (Ev.bind (without_spec b key hb) (Ev.yes (by omega) (Ev.now _)))
        · rw [if_neg c3, dropK_not key a hna]
          have hyl : (a ++ [key]).length = a.length + 1 := by rw [List.length_append]; rfl
          have hym : ∀ x ∈ a ++ [key], x.size ≤ 1048576 := by
            intro x hx
            rcases List.mem_append.mp hx with hx | hx
            · exact h.sa x hx
            · rw [List.mem_singleton.mp hx]; omega
          refine Ev.no c3 (Ev.yes (by omega) ?_)
          simp only [Option.bind_some, List.length_nil, List.nil_append, Nat.zero_add]
          by_cases c4 : ((a ++ [key]).length : Int) ≤ 2
          · rw [if_pos c4]; exact Ev.yes c4 (Ev.now _)
          · rw [if_neg c4]
            refine Ev.no c4 (Ev.yes (by omega) (Ev.yes (by omega) (Ev.yes (by rw [List.length_drop]; omega) ?_)))
            by_cases c5 : (b.length : Int) < 4
            · rw [if_pos c5]; exact Ev.yes c5 (Ev.yes (by omega) (Ev.now _))
            · rw [if_neg c5]
              have g1 := gT_spec (bumpT l n key).1 (bumpT l n key).2 (rdOf ByteArray.empty (a ++ [key]) 0) (by have := hym _ (rd0_mem _ (by omega)); omega) hok2
              have g2 := gT_spec (bumpT l n key).1 (bumpT l n key).2 (rdOf ByteArray.empty b 0) (by have := h.sb _ (rd0_mem b (by omega)); omega) hok2
              refine Ev.no c5 (Ev.bind g1 (Ev.yes (by omega) (Ev.bind g2 ?_)))
              by_cases c6 : gT (bumpT l n key).1 (rdOf ByteArray.empty (a ++ [key]) 0) > gT (bumpT l n key).1 (rdOf ByteArray.empty b 0)
              · refine Ev.yes c6 ?_
                rw [if_pos c6]
                exact Ev.yes (by omega) (Ev.yes (by rw [List.length_drop]; omega) (Ev.yes (by rw [List.length_drop]; omega) (Ev.now _)))
              · refine Ev.no c6 ?_
                rw [if_neg c6]; exact Ev.now _
    · rw [if_neg (fun e => c2 e.2), Bool.eq_false_iff.mpr c2]
      refine Ev.succ ?_
      simp only [spec_PolicyTouch.j0]
      exact Ev.yes (by simp) (Ev.now _)
  · rw [if_neg (fun e => c e.1)]
    refine Ev.no c (Ev.succ ?_)
    simp only [spec_PolicyTouch.j0]
    exact Ev.yes trivial (Ev.now _)
/-- What a touch of a right key changes. -/
structure Tc (a b : List ByteArray) (key : ByteArray) (r : List ByteArray × List ByteArray × List (List Int) × Int × ByteArray) : Prop where
  la : r.1.length ≤ 2
  lb : r.2.1.length ≤ 4
  who : (r.2.2.2.2 = (⟨#[]⟩ : ByteArray) ∧ key ∈ a ++ b ∧ (r.1 ++ r.2.1).Perm (a ++ b)) ∨ (r.2.2.2.2 = (⟨#[]⟩ : ByteArray) ∧ key ∉ a ++ b ∧ (r.1 ++ r.2.1).Perm (key :: (a ++ b))) ∨ (key ∉ a ++ b ∧ r.2.2.2.2 ∈ a ++ b ∧ (r.2.2.2.2 :: (r.1 ++ r.2.1)).Perm (key :: (a ++ b)))
theorem touch_Tc (a b : List ByteArray) (l : List (List Int)) (n : Int) (key : ByteArray) (h : Rt a b l n) (hk : keyOk key = true) : Tc a b key (touch a b l n key) ∧ (touch a b l n key).2.2.1 = (bumpT l n key).1 ∧ (touch a b l n key).2.2.2.1 = (bumpT l n key).2 := by
  have hla := h.la
  have hlb := h.lb
  have hap := List.nodup_append.mp h.nd
  unfold touch
  rw [if_pos ⟨(polOk_iff a b l n).mpr h, hk⟩]
  by_cases c3 : hasB b key = true
  · rw [if_pos c3]
    have hm := (hasB_mem b key).mp c3
    have hp := dropK_perm key b hap.2.1 hm
    exact ⟨⟨hla, by have := hp.length_eq; show (dropK key b ++ [key]).length ≤ 4; omega, .inl ⟨rfl, List.mem_append_right _ hm, hp.append_left a⟩⟩, rfl, rfl⟩
  · rw [if_neg c3]
    have hnb : key ∉ b := fun e => c3 ((hasB_mem b key).mpr e)
    by_cases c0 : key ∈ a
    · have hp := dropK_perm key a hap.1 c0
      have hl := hp.length_eq
      rw [if_pos (by omega)]
      exact ⟨⟨by show (dropK key a ++ [key]).length ≤ 2; omega, hlb, .inl ⟨rfl, List.mem_append_left _ c0, hp.append_right b⟩⟩, rfl, rfl⟩
    · have hn : key ∉ a ++ b := fun e => (List.mem_append.mp e).elim c0 hnb
      rw [dropK_not key a c0]
      have hyl : (a ++ [key]).length = a.length + 1 := by rw [List.length_append]; rfl
      by_cases c4 : ((a ++ [key]).length : Int) ≤ 2
      · rw [if_pos c4]
        refine ⟨⟨by show (a ++ [key]).length ≤ 2; omega, hlb, .inr (.inl ⟨rfl, hn, ?_⟩)⟩, rfl, rfl⟩
        show ((a ++ [key]) ++ b).Perm (key :: (a ++ b))
        rw [List.append_assoc]
        exact List.perm_middle
      · rw [if_neg c4]
        match a, hla, hyl, c4, hn with
        | [], _, _, c4, _ => exact absurd (by simp) c4
        | [p], _, _, c4, _ => exact absurd (by simp) c4
        | p :: q :: x :: t, hla, _, _, _ => exact absurd hla (by simp)
        | [p, q], _, _, _, hn =>
          have e1 : ([p, q] ++ [key]).drop 1 = [q, key] := rfl
          have e0 : rdOf ByteArray.empty ([p, q] ++ [key]) 0 = p := rfl
          rw [e1, e0]
          have s1 : ∀ t : List ByteArray, (q :: key :: p :: t).Perm (key :: p :: q :: t) := fun t => (List.Perm.swap key q _).trans ((List.Perm.swap p q t).cons key)
          by_cases c5 : (b.length : Int) < 4
          · rw [if_pos c5]
            refine ⟨⟨by show [q, key].length ≤ 2; simp, by show (b ++ [p]).length ≤ 4; rw [List.length_append]; show b.length + 1 ≤ 4; omega, .inr (.inl ⟨rfl, hn, ?_⟩)⟩, rfl, rfl⟩
            show (q :: key :: (b ++ [p])).Perm (key :: p :: q :: b)
            exact (((List.perm_append_singleton p b).cons key).cons q).trans (s1 b)
          · rw [if_neg c5]
            match b, hlb, c5, hn with
            | [], _, c5, _ => exact absurd (by simp) c5
            | b0 :: bt, hlb, c5, hn =>
              have e2 : rdOf ByteArray.empty (b0 :: bt) 0 = b0 := rfl
              rw [e2]
              by_cases c6 : gT (bumpT l n key).1 p > gT (bumpT l n key).1 b0
              · rw [if_pos c6]
                refine ⟨⟨by show [q, key].length ≤ 2; simp, by show (bt ++ [p]).length ≤ 4; rw [List.length_append]; show bt.length + 1 ≤ 4; rw [List.length_cons] at hlb; omega, .inr (.inr ⟨hn, by simp, ?_⟩)⟩, rfl, rfl⟩
                show (b0 :: q :: key :: (bt ++ [p])).Perm (key :: p :: q :: b0 :: bt)
                refine (((List.perm_append_singleton p bt).cons key).cons q).cons b0 |>.trans ?_
                refine (List.Perm.cons b0 (s1 bt)).trans ?_
                refine (List.Perm.swap key b0 _).trans (List.Perm.cons key ?_)
                exact (List.Perm.swap p b0 _).trans (List.Perm.cons p (List.Perm.swap q b0 _))
              · rw [if_neg c6]
                refine ⟨⟨by show [q, key].length ≤ 2; simp, hlb, .inr (.inr ⟨hn, by simp, ?_⟩)⟩, rfl, rfl⟩
                show (p :: q :: key :: (b0 :: bt)).Perm (key :: p :: q :: (b0 :: bt))
                exact (List.Perm.cons p (List.Perm.swap key q _)).trans (List.Perm.swap key p _)
theorem touch_not (a b : List ByteArray) (l : List (List Int)) (n : Int) (key : ByteArray) (h : ¬ (Rt a b l n ∧ keyOk key = true)) : touch a b l n key = (a, b, l, n, (⟨#[]⟩ : ByteArray)) := by
  unfold touch
  rw [if_neg (fun e => h ⟨(polOk_iff a b l n).mp e.1, e.2⟩)]
theorem Rt_touch (a b : List ByteArray) (l : List (List Int)) (n : Int) (key : ByteArray) (h : Rt a b l n) : Rt (touch a b l n key).1 (touch a b l n key).2.1 (touch a b l n key).2.2.1 (touch a b l n key).2.2.2.1 := by
  by_cases hk : keyOk key = true
  · obtain ⟨t, e1, e2⟩ := touch_Tc a b l n key h hk
    have hs : skOk (touch a b l n key).2.2.1 (touch a b l n key).2.2.2.1 = true := by rw [e1, e2]; exact bumpT_ok l n key h.sk
    have hky : ∀ x ∈ key :: (a ++ b), keyOk x = true := fun x hx => by
      rcases List.mem_cons.mp hx with rfl | hx
      · exact hk
      · exact h.ky x hx
    rcases t.who with ⟨_, _, p⟩ | ⟨_, hn, p⟩ | ⟨hn, _, p⟩
    · exact ⟨p.nodup_iff.mpr h.nd, fun x hx => h.ky x (p.mem_iff.mp hx), t.la, t.lb, hs⟩
    · exact ⟨p.nodup_iff.mpr (List.nodup_cons.mpr ⟨hn, h.nd⟩), fun x hx => hky x (p.mem_iff.mp hx), t.la, t.lb, hs⟩
    · exact ⟨(List.nodup_cons.mp (p.nodup_iff.mpr (List.nodup_cons.mpr ⟨hn, h.nd⟩))).2, fun x hx => hky x (p.mem_iff.mp (List.mem_cons_of_mem _ hx)), t.la, t.lb, hs⟩
  · rw [touch_not a b l n key (fun e => hk e.2)]; exact h
theorem has_impl (a b : List ByteArray) (l : List (List Int)) (n : Int) (key : ByteArray) (h : PolOk a b l) : Ev (fun k => impl_PolicyHas.f k a b l n key) (hasB (a ++ b) key) := by
  have h1 := h.ha
  have h2 := h.hb
  simp only [impl_PolicyHas.f]
  exact Ev.via (keys_in a b l n h) (Ev.bind (contains_ev (a ++ b) key (by rw [List.length_append]; omega)) (Ev.now _))
theorem newPol_impl : Ev (fun k => impl_PolicyNew.f k) ([], [], List.replicate 3 (List.replicate 16 0), 0) := by
  simp only [impl_PolicyNew.f]
  exact Ev.bind new_impl (Ev.now _)
theorem newPol_spec : Ev (fun k => spec_PolicyNew.f k) ([], [], List.replicate 3 (List.replicate 16 0), 0) := by
  simp only [spec_PolicyNew.f]
  exact Ev.bind new_spec (Ev.now _)
theorem new_Rt : Rt [] [] (List.replicate 3 (List.replicate 16 0)) 0 := ⟨by simp, fun x hx => absurd hx (by simp), by simp, by simp, new_ok⟩
theorem same_texts_l (r : List ByteArray) (hl : r.length ≤ 1048576) (d : Nat) : ∀ i : Nat, i ≤ r.length → r.length - i = d → Ev (fun k => laws_sameTexts.l0 k r r (i : Int)) true := by
  induction d with
  | zero => intro i hi hd; refine Ev.succ ?_; simp only [laws_sameTexts.l0]; exact Ev.no (by omega) (Ev.now _)
  | succ d ih =>
    intro i hi hd
    refine Ev.succ ?_
    simp only [laws_sameTexts.l0]
    rw [wnat i r.length (by omega) (by omega)]
    exact Ev.yes (by omega) (Ev.yes (by omega) (Ev.yes (by omega) (Ev.yes trivial (ih (i + 1) (by omega) (by omega)))))
theorem same_texts (r : List ByteArray) (hl : r.length ≤ 1048576) : Ev (fun k => laws_sameTexts.f k r r) true := by
  simp only [laws_sameTexts.f]
  exact Ev.yes trivial (same_texts_l r hl r.length 0 (by omega) (by omega))
theorem same_pol (a b : List ByteArray) (l : List (List Int)) (n : Int) (h : PolOk a b l) : Ev (fun k => laws_samePolicy.f k a b l n a b l n) true := by
  simp only [laws_samePolicy.f]
  exact Ev.bind (same_texts a h.ha) (Ev.yes rfl (Ev.bind (same_texts b h.hb) (Ev.yes rfl (Ev.bind (same_sk l n ⟨h.hl, h.hg⟩) (Ev.now _)))))
end Go.Proofs.Ytoopdknphikgkaa.Q
namespace Go.Proofs.Ytoopdknphikgkaa.Q
open Go.RowKit Go.Proofs.YtoopdknphikgkaaW.PrintWords Go.Proofs.YtoopdknphikgkaaW.PrintLast Go.Proofs.YtoopdknphikgkaaW.PrintMore
theorem polP_l (l : List Int) (d : Nat) : ∀ (j : Nat) (ci ch : Int) (a b : List ByteArray) (rows : List (List Int)) (n : Int), j ≤ 40 → 41 - j = d → Rt a b rows n → cu l ci → EvP (fun k => spec_l13Policy.l0 k (j : Int) l ci ch a b rows n) (fun r => Rt r.1 r.2.1 r.2.2.1 r.2.2.2.1 ∧ cu l r.2.2.2.2.1) := by
  induction d with
  | zero => intro j ci ch a b rows n h1 h2; omega
  | succ d ih =>
    intro j ci ch a b rows n h1 h2 hR hc
    refine EvP.succ ?_
    simp only [spec_l13Policy.l0]
    refine EvP.bind (belowP l ci ch 40 (by omega) hc) fun r hr => EvP.ite (fun c => ?_) (fun c => EvP.ret ⟨hR, hr.2⟩)
    refine EvP.bind (keyP2 l _ _ hr.2) fun q hq => EvP.bind (EvP.ev (P := fun x => x = touch a b rows n q.1) (touch_spec a b rows n q.1 hR.pol) rfl) fun x hx => ?_
    subst hx
    rw [wnat j 41 (by omega) (by omega)]
    exact ih (j + 1) _ _ _ _ _ _ (by omega) (by omega) (Rt_touch a b rows n q.1 hR) hq.2
theorem polP (l : List Int) (i h : Int) (hc : cu l i) : EvP (fun k => spec_l13Policy.f k l i h) (fun r => Rt r.1 r.2.1 r.2.2.1 r.2.2.2.1 ∧ cu l r.2.2.2.2.1) := by
  simp only [spec_l13Policy.f]
  exact EvP.bind (EvP.ev (P := fun x => x = ([], [], List.replicate 3 (List.replicate 16 0), 0)) newPol_spec rfl) fun x hx => by subst hx; exact polP_l l 41 0 i h _ _ _ _ (by omega) (by omega) new_Rt hc
end Go.Proofs.Ytoopdknphikgkaa.Q
namespace Go.Proofs.Ytoopdknphikgkaa.Q
open Go.RowKit Go.Proofs.YtoopdknphikgkaaW.PrintWords Go.Proofs.YtoopdknphikgkaaW.PrintLast Go.Proofs.YtoopdknphikgkaaW.PrintMore
theorem skP_l (l : List Int) (d : Nat) : ∀ (j : Nat) (ci ch : Int) (rows : List (List Int)) (n : Int), j ≤ 90 → 91 - j = d → skOk rows n = true → cu l ci → EvP (fun k => spec_l12Sketch.l0 k (j : Int) l ci ch rows n) (fun r => skOk r.1 r.2.1 = true ∧ cu l r.2.2.1) := by
  induction d with
  | zero => intro j ci ch rows n h1 h2; omega
  | succ d ih =>
    intro j ci ch rows n h1 h2 hok hc
    refine EvP.succ ?_
    simp only [spec_l12Sketch.l0]
    refine EvP.bind (belowP l ci ch 90 (by omega) hc) fun r hr => EvP.ite (fun c => ?_) (fun c => EvP.ret ⟨hok, hr.2⟩)
    refine EvP.bind (keyP2 l _ _ hr.2) fun q hq => EvP.bind (EvP.ev (P := fun x => x = bumpT rows n q.1) (bumpT_spec rows n q.1 (by omega) (Sz.of_ok hok)) rfl) fun x hx => ?_
    subst hx
    rw [wnat j 91 (by omega) (by omega)]
    exact ih (j + 1) _ _ _ _ (by omega) (by omega) (bumpT_ok rows n q.1 hok) hq.2
theorem skP (l : List Int) (i h : Int) (hc : cu l i) : EvP (fun k => spec_l12Sketch.f k l i h) (fun r => skOk r.1 r.2.1 = true ∧ cu l r.2.2.1) := by
  simp only [spec_l12Sketch.f]
  exact EvP.bind (EvP.ev (P := fun x => x = (List.replicate 3 (List.replicate 16 0), 0)) new_spec rfl) fun x hx => by subst hx; exact skP_l l 91 0 i h _ _ (by omega) (by omega) new_ok hc
/-- Small: three rows of sixteen at most. -/
def Sm3 (l : List (List Int)) : Prop := l.length ≤ 3 ∧ ∀ r ∈ l, r.length ≤ 16
theorem Sm3.sz {l : List (List Int)} (h : Sm3 l) : Sz l := ⟨by have := h.1; omega, fun r hr => by have := h.2 r hr; omega⟩
theorem Sm3.set {l : List (List Int)} (h : Sm3 l) (i : Nat) (v : List Int) (hv : v.length ≤ 16) : Sm3 (l.set i v) := ⟨by rw [List.length_set]; exact h.1, fun r hr => by
  rcases List.mem_or_eq_of_mem_set hr with hr | rfl
  · exact h.2 r hr
  · exact hv⟩
theorem anyP (l : List Int) (i h : Int) (hc : cu l i) : EvP (fun k => spec_l12Any.f k l i h) (fun r => Sm3 r.1 ∧ cu l r.2.2.1) := by
  simp only [spec_l12Any.f]
  refine EvP.bind (belowP l i h 12 (by omega) hc) fun a ha => EvP.bind (belowP l _ _ 60 (by omega) ha.2) fun x hx => EvP.bind (skP l _ _ hx.2) fun s hs => ?_
  have hz := Sz.of_ok hs.1
  have h3 := skOk_rows hs.1
  have hm : Sm3 s.1 := ⟨by omega, fun r hr => by have := (h3.2.2 r hr).1; omega⟩
  refine EvP.bind (EvP.ev (P := fun y => y = (s.1, s.2.1)) (copy_spec s.1 s.2.1 hz.1 hz.2) rfl) fun y hy => ?_
  subst hy
  have hx0 := hx.1.1
  have e3 : Int.tmod x.1 3 = x.1 % 3 := Int.tmod_eq_emod_of_nonneg hx0
  have e16 : Int.tmod x.1 16 = x.1 % 16 := Int.tmod_eq_emod_of_nonneg hx0
  obtain ⟨m, hm3, hml⟩ : ∃ m : Nat, x.1 % 3 = (m : Int) ∧ m < 3 := ⟨(x.1 % 3).toNat, by omega, by omega⟩
  have hlen : ∀ j : Nat, (hj : j < s.1.length) → (rd_L2 s.1 (j : Int)).length = 16 := fun j hj => by rw [rdL_get s.1 j hj]; exact (h3.2.2 _ (List.getElem_mem hj)).1
  have hlm := hlen m (by omega)
  have hl0 := hlen 0 (by omega)
  simp only [Option.bind_some]
  rw [e3, e16, hm3]
  refine EvP.ite (fun c => ?_) (fun c => EvP.ite (fun c1 => ?_) (fun c1 => EvP.ite (fun c2 => ?_) (fun c2 => EvP.ite (fun c3 => ?_) (fun c3 => EvP.ret ⟨hm, hs.2⟩))))
  · refine EvP.yes (by omega) (EvP.yes (by omega) (EvP.yes (by simp; omega) (EvP.yes (by omega) (EvP.yes (by omega) (EvP.ret ⟨hm.set _ _ ?_, hs.2⟩)))))
    rw [List.length_set, hlm]
    exact Nat.le_refl _
  · exact EvP.yes (by omega) (EvP.yes (by simp; omega) (EvP.ret ⟨hm, hs.2⟩))
  · exact EvP.yes (by omega) (EvP.ret ⟨⟨by rw [List.length_drop]; omega, fun r hr => hm.2 r (List.mem_of_mem_drop hr)⟩, hs.2⟩)
  · refine EvP.yes (by omega) (EvP.yes (by rw [show ((0 : Int)) = ((0 : Nat) : Int) from rfl, hl0]; decide) (EvP.ret ⟨hm.set _ _ ?_, hs.2⟩))
    rw [List.length_drop, show ((0 : Int)) = ((0 : Nat) : Int) from rfl, hl0]
    omega
end Go.Proofs.Ytoopdknphikgkaa.Q
namespace Go.Proofs.Ytoopdknphikgkaa.Q
open Go.RowKit Go.Proofs.YtoopdknphikgkaaW.PrintWords Go.Proofs.YtoopdknphikgkaaW.PrintLast Go.Proofs.YtoopdknphikgkaaW.PrintMore
theorem drop_ok (a b : List ByteArray) (l : List (List Int)) (key : ByteArray) (h : PolOk a b l) : PolOk (dropK key a) (dropK key b) l :=
  ⟨Nat.le_trans (List.length_filter_le _ _) h.ha, Nat.le_trans (List.length_filter_le _ _) h.hb, h.hl, h.hg, fun s hs => h.sa s (List.mem_filter.1 hs).1, fun s hs => h.sb s (List.mem_filter.1 hs).1⟩
theorem drop_spec (a b : List ByteArray) (l : List (List Int)) (n : Int) (key : ByteArray) (h : PolOk a b l) : Ev (fun k => spec_PolicyDrop.f k a b l n key) (dropK key a, dropK key b, l, n) := by
  simp only [spec_PolicyDrop.f]
  exact Ev.bind (without_spec a key h.ha) (Ev.bind (without_spec b key h.hb) (Ev.bind (copy_spec l n h.hl h.hg) (Ev.now _)))
theorem drop_impl (a b : List ByteArray) (l : List (List Int)) (n : Int) (key : ByteArray) (h : PolOk a b l) : Ev (fun k => impl_PolicyDrop.f k a b l n key) (dropK key a, dropK key b, l, n) := by
  simp only [impl_PolicyDrop.f, impl_copyPolicy.f]
  exact Ev.bind (Ev.via (copy_texts a h.ha) (Ev.via (copy_texts b h.hb) (Ev.bind (copy_impl l n h.hl h.hg) (Ev.now _)))) (Ev.via (without_impl a key h.ha) (Ev.via (without_impl b key h.hb) (Ev.now _)))
theorem PolOk.grow_a {a b : List ByteArray} {l : List (List Int)} (h : PolOk a b l) (ha : a.length ≤ 2) (x : ByteArray) (hx : x.size ≤ 1000) : PolOk (a ++ [x]) b l :=
  ⟨by rw [List.length_append, List.length_singleton]; omega, h.hb, h.hl, h.hg, fun s hs => by
    rcases List.mem_append.mp hs with hs | hs
    · exact h.sa s hs
    · rw [List.mem_singleton.mp hs]; omega, h.sb⟩
theorem PolOk.grow_b {a b : List ByteArray} {l : List (List Int)} (h : PolOk a b l) (hb : b.length ≤ 4) (x : ByteArray) (hx : x.size ≤ 1000) : PolOk a (b ++ [x]) l :=
  ⟨h.ha, by rw [List.length_append, List.length_singleton]; omega, h.hl, h.hg, h.sa, fun s hs => by
    rcases List.mem_append.mp hs with hs | hs
    · exact h.sb s hs
    · rw [List.mem_singleton.mp hs]; omega⟩
theorem rdS_mem (l : List ByteArray) (i : Int) (h0 : 0 ≤ i) (h1 : i < (l.length : Int)) : rdOf ByteArray.empty l i ∈ l := by
  have e := rdS_get l i.toNat (by omega)
  rw [Int.toNat_of_nonneg h0] at e
  rw [e]
  exact List.getElem_mem _
theorem any13P (l : List Int) (i h : Int) (hc : cu l i) : EvP (fun k => spec_l13Any.f k l i h) (fun r => PolOk r.1 r.2.1 r.2.2.1 ∧ cu l r.2.2.2.2.1) := by
  simp only [spec_l13Any.f]
  refine EvP.bind (belowP l i h 12 (by omega) hc) fun a ha => EvP.bind (belowP l _ _ 60 (by omega) ha.2) fun x hx => EvP.bind (polP l _ _ hx.2) fun s hs => ?_
  have hp := hs.1.pol
  have hla := hs.1.la
  have hlb := hs.1.lb
  refine EvP.bind (EvP.ev (P := fun y => y = (s.1, s.2.1, s.2.2.1, s.2.2.2.1)) (copy_pol_spec _ _ _ _ hp) rfl) fun y hy => ?_
  subst hy
  have hx0 := hx.1.1
  have e4 : Int.tmod x.1 4 = x.1 % 4 := Int.tmod_eq_emod_of_nonneg hx0
  have e2 : Int.tmod x.1 2 = x.1 % 2 := Int.tmod_eq_emod_of_nonneg hx0
  simp only [Option.bind_some]
  rw [e4, e2]
  refine EvP.ite (fun c => ?_) (fun c => EvP.ite (fun c1 => ?_) (fun c1 => EvP.ite (fun c2 => ?_) (fun c2 => EvP.ret ⟨hp, hs.2⟩)))
  · have hb : x.1 % 4 < ((([(⟨#[]⟩ : ByteArray), (⟨#[47, 97]⟩ : ByteArray), (⟨#[47, 110, 101, 119]⟩ : ByteArray), (⟨#[47, 120]⟩ : ByteArray)] : List ByteArray).length : Nat) : Int) := by simp; omega
    have hm := rdS_mem _ (x.1 % 4) (by omega) hb
    have hz : ∀ q ∈ ([(⟨#[]⟩ : ByteArray), (⟨#[47, 97]⟩ : ByteArray), (⟨#[47, 110, 101, 119]⟩ : ByteArray), (⟨#[47, 120]⟩ : ByteArray)] : List ByteArray), q.size ≤ 1000 := by decide
    exact EvP.yes (by omega) (EvP.yes hb (EvP.yes (by omega) (EvP.ret ⟨hp.grow_a hla _ (hz _ hm), hs.2⟩)))
  · have hb : x.1 % 2 < ((([(⟨#[47, 98]⟩ : ByteArray), (⟨#[47, 110, 101, 119]⟩ : ByteArray)] : List ByteArray).length : Nat) : Int) := by simp; omega
    have hm := rdS_mem _ (x.1 % 2) (by omega) hb
    have hz : ∀ q ∈ ([(⟨#[47, 98]⟩ : ByteArray), (⟨#[47, 110, 101, 119]⟩ : ByteArray)] : List ByteArray), q.size ≤ 1000 := by decide
    exact EvP.yes (by omega) (EvP.yes hb (EvP.yes (by omega) (EvP.ret ⟨hp.grow_b hlb _ (hz _ hm), hs.2⟩)))
  · exact EvP.bind (anyP l _ _ hs.2) fun q hq => EvP.ret ⟨⟨hp.ha, hp.hb, hq.1.sz.1, hq.1.sz.2, hp.sa, hp.sb⟩, hq.2⟩
theorem touch_pol (a b : List ByteArray) (l : List (List Int)) (n : Int) (key : ByteArray) (h : PolOk a b l) : PolOk (touch a b l n key).1 (touch a b l n key).2.1 (touch a b l n key).2.2.1 := by
  by_cases c : Rt a b l n ∧ keyOk key = true
  · exact (Rt_touch a b l n key c.1).pol
  · rw [touch_not a b l n key c]; exact h
theorem has_spec (a b : List ByteArray) (l : List (List Int)) (n : Int) (key : ByteArray) (h : PolOk a b l) : Ev (fun k => spec_PolicyHas.f k a b l n key) (hasB (a ++ b) key) := by
  have h1 := h.ha
  have h2 := h.hb
  simp only [spec_PolicyHas.f]
  rw [hasB_app]
  refine Ev.bind (in_list a key (by omega)) ?_
  by_cases q : hasB a key = true
  · rw [q, Bool.true_or]; exact Ev.yes rfl (Ev.now _)
  · rw [Bool.eq_false_iff.mpr q, Bool.false_or]; exact Ev.no (by simp) (Ev.bind (in_list b key (by omega)) (Ev.now _))
theorem pureFnPoliciesTold (l0 : List Int) (_ : l0.length ≤ maxLen) (_ : ∀ x ∈ l0, (Lit.int .u8 x).wf = true) : ∃ k, laws_FnPoliciesTold.f k l0 = some true := by
  refine Ev.rounds (g := fun k => laws_FnPoliciesTold.f k l0) ?_
  simp only [laws_FnPoliciesTold.f, laws_big.f, Option.bind_some]
  by_cases c : (l0.length : Int) > 1048576
  · exact Ev.yes (decide_eq_true c) (Ev.now _)
  · refine Ev.no (by simpa using c) ?_
    have hl : l0.length ≤ 4611686018427387904 := by omega
    obtain ⟨p, ep, hp⟩ : EvP (fun k => spec_DrawPolicyTouch.f k l0) (fun r => PolOk r.1 r.2.1 r.2.2.1) := by
      simp only [spec_DrawPolicyTouch.f]
      refine EvP.bind (newP l0 hl) fun r hr => ?_
      rw [hr.1]
      refine EvP.bind (keyP2 l0 _ _ hr.2) fun q hq => EvP.bind (P := fun o => cu l0 o.2.1) ?_ fun o ho => EvP.ite (fun c2 => EvP.bind (P := fun o => cu l0 o.2.1) ?_ fun o2 ho2 => EvP.bind (any13P l0 _ _ ho2) fun s hs => EvP.ret hs.1) (fun c2 => EvP.bind (any13P l0 _ _ ho) fun s hs => EvP.ret hs.1)
      · simp only [spec_l01Once.f]
        exact EvP.bind (belowP l0 _ _ 12 (by omega) hq.2) fun b hb => EvP.ret hb.2
      · simp only [spec_l01Pick.f]
        exact EvP.bind (belowP l0 _ _ _ (by simp) ho) fun b hb => EvP.yes hb.1.1 (EvP.yes hb.1.2 (EvP.ret hb.2))
    obtain ⟨x, ex, hx⟩ : EvP (fun k => spec_DrawPolicyDrop.f k l0) (fun r => PolOk r.1 r.2.1 r.2.2.1) := by
      simp only [spec_DrawPolicyDrop.f, spec_DrawPolicyHas.f]
      refine EvP.bind (P := fun r => PolOk r.1 r.2.1 r.2.2.1) ?_ fun r hr => EvP.ret hr
      refine EvP.bind (newP l0 hl) fun r hr => ?_
      rw [hr.1]
      exact EvP.bind (keyP2 l0 _ _ hr.2) fun q hq => EvP.bind (any13P l0 _ _ hq.2) fun s hs => EvP.ret hs.1
    have t1 := touch_impl _ _ _ p.2.2.2.1 p.2.2.2.2 hp
    have t2 := touch_spec _ _ _ p.2.2.2.1 p.2.2.2.2 hp
    have t3 := same_pol _ _ _ (touch p.1 p.2.1 p.2.2.1 p.2.2.2.1 p.2.2.2.2).2.2.2.1 (touch_pol _ _ _ p.2.2.2.1 p.2.2.2.2 hp)
    have d1 := drop_impl _ _ _ x.2.2.2.1 x.2.2.2.2 hx
    have d2 := drop_spec _ _ _ x.2.2.2.1 x.2.2.2.2 hx
    have dk := drop_ok _ _ _ x.2.2.2.2 hx
    have d3 := same_pol _ _ _ x.2.2.2.1 dk
    have o1 := pol_impl _ _ _ p.2.2.2.1 hp
    have o2 := pol_spec _ _ _ p.2.2.2.1 hp
    have a1 := has_impl _ _ _ x.2.2.2.1 x.2.2.2.2 dk
    have a2 := has_impl _ _ _ x.2.2.2.1 x.2.2.2.2 hx
    have a3 := has_spec _ _ _ x.2.2.2.1 x.2.2.2.2 hx
    rw [(hasB_not _ _).mpr (fun e => by
      rcases List.mem_append.mp e with e | e
      · exact ((dropK_mem _ _ _).mp e).2 rfl
      · exact ((dropK_mem _ _ _).mp e).2 rfl)] at a1
    have n1 := pol_impl _ _ _ 0 new_Rt.pol
    rw [(polOk_iff _ _ _ _).mpr new_Rt] at n1
    refine Ev.bind ep (Ev.bind t1 (Ev.bind t2 (Ev.bind ex (Ev.bind d1 (Ev.bind newPol_impl (Ev.yes rfl (Ev.bind t3 (Ev.yes rfl (Ev.bind o1 (Ev.bind o2 (Ev.yes (by simp) (Ev.bind a1 (Ev.no (by simp) (Ev.bind d2 (Ev.bind d3 (Ev.yes rfl (Ev.bind a2 (Ev.bind a3 (Ev.yes (by simp) (Ev.bind n1 (Ev.yes rfl ?_)))))))))))))))))))))
    exact Ev.now _
end Go.Proofs.Ytoopdknphikgkaa.Q
