import Derived.Test.YtoopdknphikgkaaStrs
import Derived.Test.YtoopdknphikgkaaSkOk
import Derived.Test.YtoopdknphikgkaaG75
import Derived.Test.YtoopdknphikgkaaG72
namespace Go.Proofs.Ytoopdknphikgkaa.Q
open Go.RowKit Go.Proofs.YtoopdknphikgkaaW.PrintWords Go.Proofs.YtoopdknphikgkaaW.PrintLast Go.Proofs.YtoopdknphikgkaaW.PrintMore
/-! ### policies: sizes, copies, what is alike -/
theorem sz_rows_g (l : List (List Int)) (hl : l.length ≤ maxLen) (hg : ∀ r ∈ l, r.length ≤ maxLen) (left : Int) (l0 : 0 ≤ left) (l1 : left ≤ 1048576) : EvP (fun k => laws_szIntSS.f k l left) (fun t => t < 0 ∨ (0 ≤ t ∧ t ≤ left ∧ l.length ≤ 1048576 ∧ ∀ r ∈ l, r.length ≤ 1048576)) := by
  unfold maxLen at hl
  simp only [laws_szIntSS.f]
  rw [w64 (n := left - (l.length : Int)) (by omega) (by omega)]
  refine EvP.ite (fun c => EvP.ret (.inl (by omega))) (fun c => ?_)
  have := sz_rows_l l hg (by omega) l.length 0 (left - (l.length : Int)) (by omega) (by omega) (by omega) (by omega)
  rw [List.drop_zero] at this
  refine this.imp fun r hr => ?_
  rcases hr with hr | ⟨a, b, hr⟩
  · exact .inl hr
  · exact .inr ⟨a, by omega, by omega, fun q hq => by have := hr q hq; omega⟩
structure PolOk (a b : List ByteArray) (l : List (List Int)) : Prop where
  ha : a.length ≤ 1048576
  hb : b.length ≤ 1048576
  hl : l.length ≤ 1048576
  hg : ∀ r ∈ l, r.length ≤ 1048576
  sa : ∀ s ∈ a, s.size ≤ 1048576
  sb : ∀ s ∈ b, s.size ≤ 1048576
theorem sz_policy (a b : List ByteArray) (l : List (List Int)) (n : Int) (ha : a.length ≤ maxLen) (ha2 : ∀ s ∈ a, s.size ≤ maxLen) (hb : b.length ≤ maxLen) (hb2 : ∀ s ∈ b, s.size ≤ maxLen) (hl : l.length ≤ maxLen) (hg : ∀ r ∈ l, r.length ≤ maxLen) : EvP (fun k => laws_szPolicy.f k a b l n 1048576) (fun t => t < 0 ∨ (¬ t < 0 ∧ PolOk a b l)) := by
  simp only [laws_szPolicy.f, laws_szSketch.f]
  refine EvP.bind (sz_strs a ha ha2 1048576 (by omega) (by omega)) fun t ht => EvP.ite (fun c => EvP.ret (.inl (by omega))) (fun c => ?_)
  rcases ht with ht | ⟨t0, t1⟩
  · exact absurd ht c
  refine EvP.bind (sz_strs b hb hb2 t t0 (by omega)) fun u hu => EvP.ite (fun c2 => EvP.ret (.inl (by omega))) (fun c2 => ?_)
  rcases hu with hu | ⟨u0, u1⟩
  · exact absurd hu c2
  refine EvP.bind (P := fun v => v < 0 ∨ (¬ v < 0 ∧ l.length ≤ 1048576 ∧ ∀ r ∈ l, r.length ≤ 1048576)) ?_ fun v hv => EvP.ite (fun c3 => EvP.ret (.inl (by omega))) (fun c3 => ?_)
  · refine EvP.bind (sz_rows_g l hl hg u u0 (by omega)) fun v hv => EvP.ite (fun c3 => EvP.ret (.inl (by omega))) (fun c3 => EvP.ret (.inr ⟨c3, ?_⟩))
    rcases hv with hv | hv
    · exact absurd hv c3
    · exact hv.2.2
  · rcases hv with hv | hv
    · exact absurd hv c3
    · exact EvP.ret (.inr ⟨c3, by omega, by omega, hv.2.1, hv.2.2, fun s hs => by have := ssz_mem hs; omega, fun s hs => by have := ssz_mem hs; omega⟩)
theorem to_policy (a b : List ByteArray) (l : List (List Int)) (n : Int) (h : PolOk a b l) : Ev (fun k => laws_toPolicy.f k a b l n) (a, b, l, n) := by
  simp only [laws_toPolicy.f]
  exact Ev.bind (to_strs a h.ha) (Ev.bind (to_strs b h.hb) (Ev.bind (to_sketch l n h.hl h.hg) (Ev.now _)))
theorem eq_policy (a b : List ByteArray) (l : List (List Int)) (n : Int) (h : PolOk a b l) : Ev (fun k => laws_eqPolicy.f k a b l n a b l n) true := by
  have ha := h.ha
  have hb := h.hb
  simp only [laws_eqPolicy.f]
  exact Ev.bind (eq_strs a (by omega)) (Ev.yes rfl (Ev.bind (eq_strs b (by omega)) (Ev.yes rfl (Ev.bind (eq_sketch l n h.hl h.hg) (Ev.yes rfl (Ev.now _))))))
/-- Is a key among them. -/
def hasB (l : List ByteArray) (key : ByteArray) : Bool := l.any fun b => decide (b.toList = key.toList)
theorem hasB_cons (b : ByteArray) (l : List ByteArray) (key : ByteArray) : hasB (b :: l) key = (decide (b.toList = key.toList) || hasB l key) := by simp [hasB]
theorem hasB_app (a b : List ByteArray) (key : ByteArray) : hasB (a ++ b) key = (hasB a key || hasB b key) := by simp [hasB, List.any_append]
theorem in_list_l (l : List ByteArray) (key : ByteArray) (hl : l.length ≤ 9223372036854775806) (d : Nat) : ∀ i : Nat, i ≤ l.length → l.length - i = d → Ev (fun k => spec_l13In.l0 k l key (i : Int)) (hasB (l.drop i) key) := by
  induction d with
  | zero => intro i hi hd; refine Ev.succ ?_; simp only [spec_l13In.l0]; rw [List.drop_eq_nil_of_le (by omega)]; exact Ev.no (by omega) (Ev.now _)
  | succ d ih =>
    intro i hi hd
    have hlt : i < l.length := by omega
    refine Ev.succ ?_
    simp only [spec_l13In.l0]
    rw [rdS_get l i hlt, wnat i _ hlt (by omega), drop_get l i hlt, hasB_cons]
    refine Ev.yes (by omega) (Ev.yes (by omega) ?_)
    by_cases c : l[i].toList = key.toList
    · rw [decide_eq_true c, Bool.true_or]; exact Ev.yes c (Ev.now _)
    · rw [decide_eq_false c, Bool.false_or]; exact Ev.no c (ih (i + 1) (by omega) (by omega))
theorem in_list (l : List ByteArray) (key : ByteArray) (hl : l.length ≤ 9223372036854775806) : Ev (fun k => spec_l13In.f k l key) (hasB l key) := by
  simp only [spec_l13In.f]
  have h := in_list_l l key hl l.length 0 (by omega) (by omega)
  rw [List.drop_zero] at h
  exact h
theorem index_l (l : List ByteArray) (key : ByteArray) (hl : l.length ≤ 9223372036854775806) (d : Nat) : ∀ i : Nat, i ≤ l.length → l.length - i = d → EvP (fun k => slices_Index_string_string.l0 k l key (l.length : Int) (i : Int)) (fun t => decide (t ≥ 0) = hasB (l.drop i) key) := by
  induction d with
  | zero => intro i hi hd; refine EvP.succ ?_; simp only [slices_Index_string_string.l0]; rw [List.drop_eq_nil_of_le (by omega)]; exact EvP.no (by omega) (EvP.ret rfl)
  | succ d ih =>
    intro i hi hd
    have hlt : i < l.length := by omega
    refine EvP.succ ?_
    simp only [slices_Index_string_string.l0]
    rw [rdS_get l i hlt, wnat i _ hlt (by omega), drop_get l i hlt, hasB_cons]
    refine EvP.yes (by omega) (EvP.yes (by omega) (EvP.yes (by omega) ?_))
    by_cases c : key.toList = l[i].toList
    · rw [decide_eq_true c.symm, Bool.true_or]; exact EvP.yes c (EvP.ret (decide_eq_true (by omega)))
    · rw [decide_eq_false (fun e => c e.symm), Bool.false_or]; exact EvP.no c (ih (i + 1) (by omega) (by omega))
theorem contains_ev (l : List ByteArray) (key : ByteArray) (hl : l.length ≤ 9223372036854775806) : Ev (fun k => slices_Contains_string_string.f k l key) (hasB l key) := by
  simp only [slices_Contains_string_string.f, slices_Index_string_string.f]
  obtain ⟨t, et, ht⟩ := index_l l key hl l.length 0 (by omega) (by omega)
  rw [List.drop_zero] at ht
  rw [← ht]
  exact Ev.bind et (Ev.now _)
theorem keys_in (a b : List ByteArray) (l : List (List Int)) (n : Int) (h : PolOk a b l) : impl_keysIn.f a b l n = some (a ++ b) := by
  have := h.ha
  have := h.hb
  unfold impl_keysIn.f
  rw [if_pos (by omega)]

end Go.Proofs.Ytoopdknphikgkaa.Q
